/- What stands for the values of types. -/
import Derived.Test.YtcdeccnjlkkejaaGreatDoorProg
import Derived.Test.YtcdeccnjlkkejaaGreatDoorLf
import Derived.Test.YtcdeccnjlkkejaaGreatDoorTy
import Derived.KernelRfl
set_option linter.unusedSimpArgs false
set_option linter.unusedVariables false
namespace Go.Lv.VT
set_option maxRecDepth 100000
open Go.Proofs
inductive TC where
 |bool|int_i32|int_i64|int_u32|int_u64|int_u8|sl_119|sl_172|sl_44|sl_49|sl_5|sl_66|sl_9|st_VArr12_str|st_VArr2_i64|st_VDecl|st_VToken|st_VValue|st_Vglue_start|st_Vnest_found|st_Vtoken_scanner|str|other
def Ct:TC->Type
 | .bool=>Bool| .int_i32=>Int| .int_i64=>Int| .int_u32=>Int| .int_u64=>Int| .int_u8=>UInt8| .sl_119=>List zH| .sl_172=>List Zl| .sl_44=>List ze| .sl_49=>List zg| .sl_5=>List UInt8| .sl_66=>List Zj| .sl_9=>List Str| .st_VArr12_str=>QR| .st_VArr2_i64=>Zl| .st_VDecl=>Zj| .st_VToken=>ze| .st_VValue=>zg| .st_Vglue_start=>zH| .st_Vnest_found=>zT| .st_Vtoken_scanner=>za| .str=>Str| .other=>Unit
def tab:List (Nat×TC):=[(2, .int_i64),(3, .int_i64),(4, .bool),(5, .int_u8),(9, .str),(12, .int_u64),(21, .int_i32),(22, .sl_44),(23, .sl_49),(25, .int_i64),(42, .sl_5),(44, .st_VToken),(49, .st_VValue),(66, .st_VDecl),(71, .sl_66),(101, .st_Vnest_found),(116, .sl_119),(119, .st_Vglue_start),(122, .sl_9),(133, .st_Vtoken_scanner),(140, .sl_172),(149, .st_VArr12_str),(172, .st_VArr2_i64),(174, .int_u64),(185, .int_u32),(217, .int_u64)]
def tc(t:Nat):TC:=match lk tab t with|some c=>c|none=> .other
def Cn(t:Nat):Type:=Ct (tc t)
def dC:(c:TC)->Ct c
 | .bool=>(default:Bool)| .int_i32=>(default:Int)| .int_i64=>(default:Int)| .int_u32=>(default:Int)| .int_u64=>(default:Int)| .int_u8=>(default:UInt8)| .sl_119=>(default:List zH)| .sl_172=>(default:List Zl)| .sl_44=>(default:List ze)| .sl_49=>(default:List zg)| .sl_5=>(default:List UInt8)| .sl_66=>(default:List Zj)| .sl_9=>(default:List Str)| .st_VArr12_str=>(default:QR)| .st_VArr2_i64=>(default:Zl)| .st_VDecl=>(default:Zj)| .st_VToken=>(default:ze)| .st_VValue=>(default:zg)| .st_Vglue_start=>(default:zH)| .st_Vnest_found=>(default:zT)| .st_Vtoken_scanner=>(default:za)| .str=>(default:Str)| .other=>()
def size:TC->Nat
 | .st_VArr12_str=>12| .st_VArr2_i64=>2| .st_VDecl=>3| .st_VToken=>5| .st_VValue=>6| .st_Vglue_start=>2| .st_Vnest_found=>3| .st_Vtoken_scanner=>2|_=>1
def L8(x:QR):List PV:=[.str x.e0, .str x.e1, .str x.e2, .str x.e3, .str x.e4, .str x.e5, .str x.e6, .str x.e7, .str x.e8, .str x.e9, .str x.e10, .str x.e11]
def pQ(x:Zl):List PV:=[.at (.int .i64 x.e0), .at (.int .i64 x.e1)]
def XO(x:ze):List PV:=[.at (.int .u8 x.kind), .str x.text, .at (.int .i64 x.num), .str x.unit, .at (.bool x.flag)]
mutual
def Zp:zg->List PV
 |⟨x_token,x_list⟩=>[.at (.int .u8 x_token.kind), .str x_token.text, .at (.int .i64 x_token.num), .str x_token.unit, .at (.bool x_token.flag), .sl (av x_list)]
def av:List zg->List (List PV)
 |[]=>[]
 |v::r=>Zp v::av r
end
theorem UB: ∀(l:List zg),av l=l.map Zp
 |[]=>by rw[av];rfl
 |v::r=>by rw[av,UB r];rfl
def Qi(x:Zj):List PV:=[.str x.name, .sl (x.value.map Zp), .at (.bool x.important)]
def iR(x:zH):List PV:=[.at (.int .i64 x.token), .at (.int .i64 x.at_)]
def A9(x:zT):List PV:=[.at (.int .i64 x.depth), .at (.int .i64 x.tokens), .at (.bool x.bad)]
def X9(x:za):List PV:=[.str x.s, .at (.int .i64 x.at_)]
theorem oQ(x_token:ze)(x_list:List zg):Zp ⟨x_token,x_list⟩=[.at (.int .u8 x_token.kind), .str x_token.text, .at (.int .i64 x_token.num), .str x_token.unit, .at (.bool x_token.flag), .sl (x_list.map Zp)]:=by simp only[Zp,UB]
theorem p8(x:zg):Zp x=[.at (.int .u8 x.token.kind), .str x.token.text, .at (.int .i64 x.token.num), .str x.token.unit, .at (.bool x.token.flag), .sl (x.list.map Zp)]:=by cases x;exact oQ ..
def fC(n:Nat):(c:TC)->Ct c->List PV
 | .bool,(x:Bool)=>[.at (.bool x)]
 | .int_i32,(x:Int)=>[.at (.int .i32 x)]
 | .int_i64,(x:Int)=>[.at (.int .i64 x)]
 | .int_u32,(x:Int)=>[.at (.int .u32 x)]
 | .int_u64,(x:Int)=>[.at (.int .u64 x)]
 | .int_u8,(x:UInt8)=>[.at (.int .u8 x.toNat)]
 | .sl_119,(x:List zH)=>[.sl (x.map iR)]
 | .sl_172,(x:List Zl)=>[.sl (x.map pQ)]
 | .sl_44,(x:List ze)=>[.sl (x.map XO)]
 | .sl_49,(x:List zg)=>[.sl (x.map Zp)]
 | .sl_5,(x:List UInt8)=>[.sl (x.map (fun y=>[.at (.int .u8 y.toNat)]))]
 | .sl_66,(x:List Zj)=>[.sl (x.map Qi)]
 | .sl_9,(x:List Str)=>[.sl (x.map (fun y=>[.str y]))]
 | .st_VArr12_str,(x:QR)=>L8 x
 | .st_VArr2_i64,(x:Zl)=>pQ x
 | .st_VDecl,(x:Zj)=>Qi x
 | .st_VToken,(x:ze)=>XO x
 | .st_VValue,(x:zg)=>Zp x
 | .st_Vglue_start,(x:zH)=>iR x
 | .st_Vnest_found,(x:zT)=>A9 x
 | .st_Vtoken_scanner,(x:za)=>X9 x
 | .str,(x:Str)=>[.str x]
 | .other,_=>List.replicate n (.at (.slice none 0 0))
def eC(n:Nat):(c:TC)->Ct c->List (EV Cn)
 | .bool,(x:Bool)=>[.bool x]
 | .int_i32,(x:Int)=>[.int .i32 x]
 | .int_i64,(x:Int)=>[.int .i64 x]
 | .int_u32,(x:Int)=>[.int .u32 x]
 | .int_u64,(x:Int)=>[.int .u64 x]
 | .int_u8,(x:UInt8)=>[.int .u8 (x.toNat:Int)]
 | .sl_119,(x:List zH)=>[.sl 119 x]
 | .sl_172,(x:List Zl)=>[.sl 172 x]
 | .sl_44,(x:List ze)=>[.sl 44 x]
 | .sl_49,(x:List zg)=>[.sl 49 x]
 | .sl_5,(x:List UInt8)=>[.sl 5 x]
 | .sl_66,(x:List Zj)=>[.sl 66 x]
 | .sl_9,(x:List Str)=>[.sl 9 x]
 | .st_VArr12_str,(x:QR)=>[.str x.e0, .str x.e1, .str x.e2, .str x.e3, .str x.e4, .str x.e5, .str x.e6, .str x.e7, .str x.e8, .str x.e9, .str x.e10, .str x.e11]
 | .st_VArr2_i64,(x:Zl)=>[.int .i64 x.e0, .int .i64 x.e1]
 | .st_VDecl,(x:Zj)=>[.str x.name, .sl 49 x.value, .bool x.important]
 | .st_VToken,(x:ze)=>[.int .u8 x.kind, .str x.text, .int .i64 x.num, .str x.unit, .bool x.flag]
 | .st_VValue,(x:zg)=>[.int .u8 x.token.kind, .str x.token.text, .int .i64 x.token.num, .str x.token.unit, .bool x.token.flag, .sl 49 x.list]
 | .st_Vglue_start,(x:zH)=>[.int .i64 x.token, .int .i64 x.at_]
 | .st_Vnest_found,(x:zT)=>[.int .i64 x.depth, .int .i64 x.tokens, .bool x.bad]
 | .st_Vtoken_scanner,(x:za)=>[.str x.s, .int .i64 x.at_]
 | .str,(x:Str)=>[.str x]
 | .other,_=>List.replicate n .nil
def BF:EV Cn->Option Int
 | .int .i32 n=>some n
 |_=>none
def Di:EV Cn->Option Int
 | .int .i64 n=>some n
 |_=>none
def yE:EV Cn->Option Int
 | .int .u32 n=>some n
 |_=>none
def xE:EV Cn->Option Int
 | .int .u64 n=>some n
 |_=>none
def Gu:EV Cn->Option Int
 | .int .u8 n=>some n
 |_=>none
def Dm:EV Cn->Option Bool
 | .bool b=>some b
 |_=>none
def dStr:EV Cn->Option Str
 | .str l=>some l
 |_=>none
def dB:EV Cn->Option (List UInt8)
 | .nil=>some []
 | .sl 5 l=>some l
 |_=>none
def xB:EV Cn->Option (List Str)
 | .nil=>some []
 | .sl 9 l=>some l
 |_=>none
def DD:EV Cn->Option (List ze)
 | .nil=>some []
 | .sl 44 l=>some l
 |_=>none
def Mt:EV Cn->Option (List zg)
 | .nil=>some []
 | .sl 49 l=>some l
 |_=>none
def BD:EV Cn->Option (List Zj)
 | .nil=>some []
 | .sl 66 l=>some l
 |_=>none
def yD:EV Cn->Option (List zH)
 | .nil=>some []
 | .sl 119 l=>some l
 |_=>none
def xD:EV Cn->Option (List Zl)
 | .nil=>some []
 | .sl 172 l=>some l
 |_=>none
def mC:(c:TC)->List (EV Cn)->Option (Ct c)
 | .bool=>fun cs=>match cs with|[a0]=>(Dm a0).bind fun x0=>some x0|_=>none
 | .int_i32=>fun cs=>match cs with|[a0]=>(BF a0).bind fun x0=>some x0|_=>none
 | .int_i64=>fun cs=>match cs with|[a0]=>(Di a0).bind fun x0=>some x0|_=>none
 | .int_u32=>fun cs=>match cs with|[a0]=>(yE a0).bind fun x0=>some x0|_=>none
 | .int_u64=>fun cs=>match cs with|[a0]=>(xE a0).bind fun x0=>some x0|_=>none
 | .int_u8=>fun cs=>match cs with|[a0]=>(Gu a0).bind ZP|_=>none
 | .sl_119=>fun cs=>match cs with|[a0]=>(yD a0).bind fun x0=>some x0|_=>none
 | .sl_172=>fun cs=>match cs with|[a0]=>(xD a0).bind fun x0=>some x0|_=>none
 | .sl_44=>fun cs=>match cs with|[a0]=>(DD a0).bind fun x0=>some x0|_=>none
 | .sl_49=>fun cs=>match cs with|[a0]=>(Mt a0).bind fun x0=>some x0|_=>none
 | .sl_5=>fun cs=>match cs with|[a0]=>(dB a0).bind fun x0=>some x0|_=>none
 | .sl_66=>fun cs=>match cs with|[a0]=>(BD a0).bind fun x0=>some x0|_=>none
 | .sl_9=>fun cs=>match cs with|[a0]=>(xB a0).bind fun x0=>some x0|_=>none
 | .st_VArr12_str=>fun cs=>match cs with|[a0,a1,a2,a3,a4,a5,a6,a7,a8,a9,a10,a11]=>(dStr a0).bind fun x0=>(dStr a1).bind fun x1=>(dStr a2).bind fun x2=>(dStr a3).bind fun x3=>(dStr a4).bind fun x4=>(dStr a5).bind fun x5=>(dStr a6).bind fun x6=>(dStr a7).bind fun x7=>(dStr a8).bind fun x8=>(dStr a9).bind fun x9=>(dStr a10).bind fun x10=>(dStr a11).bind fun x11=>some (⟨x0,x1,x2,x3,x4,x5,x6,x7,x8,x9,x10,x11⟩:QR)|_=>none
 | .st_VArr2_i64=>fun cs=>match cs with|[a0,a1]=>(Di a0).bind fun x0=>(Di a1).bind fun x1=>some (⟨x0,x1⟩:Zl)|_=>none
 | .st_VDecl=>fun cs=>match cs with|[a0,a1,a2]=>(dStr a0).bind fun x0=>(Mt a1).bind fun x1=>(Dm a2).bind fun x2=>some (⟨x0,x1,x2⟩:Zj)|_=>none
 | .st_VToken=>fun cs=>match cs with|[a0,a1,a2,a3,a4]=>(Gu a0).bind fun x0=>(dStr a1).bind fun x1=>(Di a2).bind fun x2=>(dStr a3).bind fun x3=>(Dm a4).bind fun x4=>some (⟨x0,x1,x2,x3,x4⟩:ze)|_=>none
 | .st_VValue=>fun cs=>match cs with|[a0,a1,a2,a3,a4,a5]=>(Gu a0).bind fun x0=>(dStr a1).bind fun x1=>(Di a2).bind fun x2=>(dStr a3).bind fun x3=>(Dm a4).bind fun x4=>(Mt a5).bind fun x5=>some (⟨(⟨x0,x1,x2,x3,x4⟩:ze),x5⟩:zg)|_=>none
 | .st_Vglue_start=>fun cs=>match cs with|[a0,a1]=>(Di a0).bind fun x0=>(Di a1).bind fun x1=>some (⟨x0,x1⟩:zH)|_=>none
 | .st_Vnest_found=>fun cs=>match cs with|[a0,a1,a2]=>(Di a0).bind fun x0=>(Di a1).bind fun x1=>(Dm a2).bind fun x2=>some (⟨x0,x1,x2⟩:zT)|_=>none
 | .st_Vtoken_scanner=>fun cs=>match cs with|[a0,a1]=>(dStr a0).bind fun x0=>(Di a1).bind fun x1=>some (⟨x0,x1⟩:za)|_=>none
 | .str=>fun cs=>match cs with|[a0]=>(dStr a0).bind fun x0=>some x0|_=>none
 | .other=>fun _=>none
def bC:(c:TC)->Option ((List UInt8->List (Ct c))×(List (Ct c)->List UInt8))
 | .int_u8=>some (fun l=>l,fun l=>l)
 |_=>none
noncomputable def I:Ip:=⟨Cn,fun t=>dC (tc t),fun t=>eC (Tryz.prog.cellsOf t) (tc t),fun t=>mC (tc t),fun t=>fC (Tryz.prog.cellsOf t) (tc t),fun t=>bC (tc t)⟩
theorem zCE:(tab.all fun p=>Nat.beq (Tryz.prog.cellsOf p.1) (size p.2))=true:=by kernel_rfl
theorem CW(t:Nat)(h:tc t≠ .other):Tryz.prog.cellsOf t=size (tc t):=by
 unfold tc at h ⊢;cases hl:lk tab t with
 |none=>rw[hl]at h;exact absurd rfl h
 |some c=> simp only;exact Ua (Rb.1 zCE _ (Fg hl))
def Dec(a:EV Cn)(p:PV):Prop:=Ei (I:=I) a=true/\WkP (pvE I a) p
theorem decs{cs:List (EV Cn)}{ps:List PV}(h:All2 Dec cs ps):(∀v∈cs,Ei (I:=I) v=true)/\cs.length=ps.length/\ ∀(j:Nat) (a b:PV),(cs.map (pvE I))[j]? =some a->ps[j]? =some b->WkP a b:=by
 induction h with
 |nil=>exact⟨fun v hv=>(by cases hv),rfl,fun j a b ha=>(by cases ha)⟩
 |cons h1 _ ih=>
  refine⟨fun v hv=> ?_,congrArg Nat.succ ih.2.1,fun j a b ha hb=> ?_⟩
  ·rcases Nb.1 hv with rfl|hv
   ·exact h1.1
   ·exact ih.1 v hv
  ·cases j with
   |zero=>injection ha with ha;injection hb with hb;rw[<-ha,<-hb];exact h1.2
   |succ j=>exact ih.2.2 j a b ha hb
theorem Y1{a:EV Cn}{x:Int}(h:BF a=some x):Dec a (.at (.int .i32 x)):=by
 unfold BF at h;split at h
 ·cases h;exact⟨rfl, .refl _⟩
 ·cases h
theorem Qp{a:EV Cn}{x:Int}(h:Di a=some x):Dec a (.at (.int .i64 x)):=by
 unfold Di at h;split at h
 ·cases h;exact⟨rfl, .refl _⟩
 ·cases h
theorem U1{a:EV Cn}{x:Int}(h:yE a=some x):Dec a (.at (.int .u32 x)):=by
 unfold yE at h;split at h
 ·cases h;exact⟨rfl, .refl _⟩
 ·cases h
theorem O1{a:EV Cn}{x:Int}(h:xE a=some x):Dec a (.at (.int .u64 x)):=by
 unfold xE at h;split at h
 ·cases h;exact⟨rfl, .refl _⟩
 ·cases h
theorem YG{a:EV Cn}{x:Int}(h:Gu a=some x):Dec a (.at (.int .u8 x)):=by
 unfold Gu at h;split at h
 ·cases h;exact⟨rfl, .refl _⟩
 ·cases h
theorem cu{a:EV Cn}{x:Bool}(h:Dm a=some x):Dec a (.at (.bool x)):=by
 unfold Dm at h;split at h
 ·cases h;exact⟨rfl, .refl _⟩
 ·cases h
theorem QD{a:EV Cn}{x:Str}(h:dStr a=some x):Dec a (.str x):=by
 unfold dStr at h;split at h
 ·cases h;exact⟨rfl, .refl _⟩
 ·cases h
theorem uV{a:EV Cn}{x:List UInt8}(h:dB a=some x):Dec a (.sl (x.map (I.full 5))):=by
 unfold dB at h;split at h
 ·cases h;exact⟨rfl, .nil⟩
 ·cases h;exact⟨rfl, .refl _⟩
 ·cases h
theorem tV{a:EV Cn}{x:List Str}(h:xB a=some x):Dec a (.sl (x.map (I.full 9))):=by
 unfold xB at h;split at h
 ·cases h;exact⟨rfl, .nil⟩
 ·cases h;exact⟨rfl, .refl _⟩
 ·cases h
theorem nY{a:EV Cn}{x:List ze}(h:DD a=some x):Dec a (.sl (x.map (I.full 44))):=by
 unfold DD at h;split at h
 ·cases h;exact⟨rfl, .nil⟩
 ·cases h;exact⟨rfl, .refl _⟩
 ·cases h
theorem vF{a:EV Cn}{x:List zg}(h:Mt a=some x):Dec a (.sl (x.map (I.full 49))):=by
 unfold Mt at h;split at h
 ·cases h;exact⟨rfl, .nil⟩
 ·cases h;exact⟨rfl, .refl _⟩
 ·cases h
theorem mY{a:EV Cn}{x:List Zj}(h:BD a=some x):Dec a (.sl (x.map (I.full 66))):=by
 unfold BD at h;split at h
 ·cases h;exact⟨rfl, .nil⟩
 ·cases h;exact⟨rfl, .refl _⟩
 ·cases h
theorem MZ{a:EV Cn}{x:List zH}(h:yD a=some x):Dec a (.sl (x.map (I.full 119))):=by
 unfold yD at h;split at h
 ·cases h;exact⟨rfl, .nil⟩
 ·cases h;exact⟨rfl, .refl _⟩
 ·cases h
theorem LZ{a:EV Cn}{x:List Zl}(h:xD a=some x):Dec a (.sl (x.map (I.full 172))):=by
 unfold xD at h;split at h
 ·cases h;exact⟨rfl, .nil⟩
 ·cases h;exact⟨rfl, .refl _⟩
 ·cases h
theorem zAv(n:Nat): ∀(c:TC) (cs:List (EV Cn)) (x:Ct c),mC c cs=some x->All2 Dec cs (fC n c x)
 | .bool,cs,x,h=>by
  simp only[mC]at h;split at h
  ·obtain⟨x0,h0,h⟩:=Da.1 h;injection h with h;subst h;exact .cons (cu h0) .nil
  ·cases h
 | .int_i32,cs,x,h=>by
  simp only[mC]at h;split at h
  ·obtain⟨x0,h0,h⟩:=Da.1 h;injection h with h;subst h;exact .cons (Y1 h0) .nil
  ·cases h
 | .int_i64,cs,x,h=>by
  simp only[mC]at h;split at h
  ·obtain⟨x0,h0,h⟩:=Da.1 h;injection h with h;subst h;exact .cons (Qp h0) .nil
  ·cases h
 | .int_u32,cs,x,h=>by
  simp only[mC]at h;split at h
  ·obtain⟨x0,h0,h⟩:=Da.1 h;injection h with h;subst h;exact .cons (U1 h0) .nil
  ·cases h
 | .int_u64,cs,x,h=>by
  simp only[mC]at h;split at h
  ·obtain⟨x0,h0,h⟩:=Da.1 h;injection h with h;subst h;exact .cons (O1 h0) .nil
  ·cases h
 | .int_u8,cs,x,h=>by
  simp only[mC]at h;split at h
  ·obtain⟨x0,h0,h⟩:=Da.1 h;have:=YY h;subst this;exact .cons (YG h0) .nil
  ·cases h
 | .sl_119,cs,x,h=>by
  simp only[mC]at h;split at h
  ·obtain⟨x0,h0,h⟩:=Da.1 h;injection h with h;subst h;exact .cons (MZ h0) .nil
  ·cases h
 | .sl_172,cs,x,h=>by
  simp only[mC]at h;split at h
  ·obtain⟨x0,h0,h⟩:=Da.1 h;injection h with h;subst h;exact .cons (LZ h0) .nil
  ·cases h
 | .sl_44,cs,x,h=>by
  simp only[mC]at h;split at h
  ·obtain⟨x0,h0,h⟩:=Da.1 h;injection h with h;subst h;exact .cons (nY h0) .nil
  ·cases h
 | .sl_49,cs,x,h=>by
  simp only[mC]at h;split at h
  ·obtain⟨x0,h0,h⟩:=Da.1 h;injection h with h;subst h;exact .cons (vF h0) .nil
  ·cases h
 | .sl_5,cs,x,h=>by
  simp only[mC]at h;split at h
  ·obtain⟨x0,h0,h⟩:=Da.1 h;injection h with h;subst h;exact .cons (uV h0) .nil
  ·cases h
 | .sl_66,cs,x,h=>by
  simp only[mC]at h;split at h
  ·obtain⟨x0,h0,h⟩:=Da.1 h;injection h with h;subst h;exact .cons (mY h0) .nil
  ·cases h
 | .sl_9,cs,x,h=>by
  simp only[mC]at h;split at h
  ·obtain⟨x0,h0,h⟩:=Da.1 h;injection h with h;subst h;exact .cons (tV h0) .nil
  ·cases h
 | .st_VArr12_str,cs,x,h=>by
  simp only[mC]at h;split at h
  ·obtain⟨x0,h0,h⟩:=Da.1 h;obtain⟨x1,h1,h⟩:=Da.1 h;obtain⟨x2,h2,h⟩:=Da.1 h;obtain⟨x3,h3,h⟩:=Da.1 h;obtain⟨x4,h4,h⟩:=Da.1 h;obtain⟨x5,h5,h⟩:=Da.1 h;obtain⟨x6,h6,h⟩:=Da.1 h;obtain⟨x7,h7,h⟩:=Da.1 h;obtain⟨x8,h8,h⟩:=Da.1 h;obtain⟨x9,h9,h⟩:=Da.1 h;obtain⟨x10,h10,h⟩:=Da.1 h;obtain⟨x11,h11,h⟩:=Da.1 h;injection h with h;subst h;exact .cons (QD h0) (.cons (QD h1) (.cons (QD h2) (.cons (QD h3) (.cons (QD h4) (.cons (QD h5) (.cons (QD h6) (.cons (QD h7) (.cons (QD h8) (.cons (QD h9) (.cons (QD h10) (.cons (QD h11) .nil)))))))))))
  ·cases h
 | .st_VArr2_i64,cs,x,h=>by
  simp only[mC]at h;split at h
  ·obtain⟨x0,h0,h⟩:=Da.1 h;obtain⟨x1,h1,h⟩:=Da.1 h;injection h with h;subst h;exact .cons (Qp h0) (.cons (Qp h1) .nil)
  ·cases h
 | .st_VDecl,cs,x,h=>by
  simp only[mC]at h;split at h
  ·obtain⟨x0,h0,h⟩:=Da.1 h;obtain⟨x1,h1,h⟩:=Da.1 h;obtain⟨x2,h2,h⟩:=Da.1 h;injection h with h;subst h;exact .cons (QD h0) (.cons (vF h1) (.cons (cu h2) .nil))
  ·cases h
 | .st_VToken,cs,x,h=>by
  simp only[mC]at h;split at h
  ·obtain⟨x0,h0,h⟩:=Da.1 h;obtain⟨x1,h1,h⟩:=Da.1 h;obtain⟨x2,h2,h⟩:=Da.1 h;obtain⟨x3,h3,h⟩:=Da.1 h;obtain⟨x4,h4,h⟩:=Da.1 h;injection h with h;subst h;exact .cons (YG h0) (.cons (QD h1) (.cons (Qp h2) (.cons (QD h3) (.cons (cu h4) .nil))))
  ·cases h
 | .st_VValue,cs,x,h=>by
  simp only[mC]at h;split at h
  ·obtain⟨x0,h0,h⟩:=Da.1 h;obtain⟨x1,h1,h⟩:=Da.1 h;obtain⟨x2,h2,h⟩:=Da.1 h;obtain⟨x3,h3,h⟩:=Da.1 h;obtain⟨x4,h4,h⟩:=Da.1 h;obtain⟨x5,h5,h⟩:=Da.1 h;injection h with h;subst h;show All2 Dec _ (Zp _);simp only[Zp,UB];exact .cons (YG h0) (.cons (QD h1) (.cons (Qp h2) (.cons (QD h3) (.cons (cu h4) (.cons (vF h5) .nil)))))
  ·cases h
 | .st_Vglue_start,cs,x,h=>by
  simp only[mC]at h;split at h
  ·obtain⟨x0,h0,h⟩:=Da.1 h;obtain⟨x1,h1,h⟩:=Da.1 h;injection h with h;subst h;exact .cons (Qp h0) (.cons (Qp h1) .nil)
  ·cases h
 | .st_Vnest_found,cs,x,h=>by
  simp only[mC]at h;split at h
  ·obtain⟨x0,h0,h⟩:=Da.1 h;obtain⟨x1,h1,h⟩:=Da.1 h;obtain⟨x2,h2,h⟩:=Da.1 h;injection h with h;subst h;exact .cons (Qp h0) (.cons (Qp h1) (.cons (cu h2) .nil))
  ·cases h
 | .st_Vtoken_scanner,cs,x,h=>by
  simp only[mC]at h;split at h
  ·obtain⟨x0,h0,h⟩:=Da.1 h;obtain⟨x1,h1,h⟩:=Da.1 h;injection h with h;subst h;exact .cons (QD h0) (.cons (Qp h1) .nil)
  ·cases h
 | .str,cs,x,h=>by
  simp only[mC]at h;split at h
  ·obtain⟨x0,h0,h⟩:=Da.1 h;injection h with h;subst h;exact .cons (QD h0) .nil
  ·cases h
 | .other,cs,x,h=>by cases h
theorem fe(n:Nat): ∀(c:TC) (x:Ct c),fC n c x=(eC n c x).map (pvE I)
 | .bool,x=>rfl
 | .int_i32,x=>rfl
 | .int_i64,x=>rfl
 | .int_u32,x=>rfl
 | .int_u64,x=>rfl
 | .int_u8,x=>rfl
 | .sl_119,x=>rfl
 | .sl_172,x=>rfl
 | .sl_44,x=>rfl
 | .sl_49,x=>rfl
 | .sl_5,x=>rfl
 | .sl_66,x=>rfl
 | .sl_9,x=>rfl
 | .st_VArr12_str,x=>rfl
 | .st_VArr2_i64,x=>rfl
 | .st_VDecl,x=>rfl
 | .st_VToken,x=>rfl
 | .st_VValue,(x:zg)=>by obtain⟨x_token,x_list⟩:=x;show Zp _=_;simp only[Zp,UB];rfl
 | .st_Vglue_start,x=>rfl
 | .st_Vnest_found,x=>rfl
 | .st_Vtoken_scanner,x=>rfl
 | .str,x=>rfl
 | .other,x=>by show List.replicate n (PV.at (Value.slice none 0 0))=(List.replicate n EV.nil).map (pvE I);rw[List.map_replicate];rfl
theorem zBF(n:Nat)(c:TC)(x:Ct c)(h:c≠ .other->n=size c):(eC n c x).length=n:=by
 cases c
 case other=>simp[eC]
 all_goals (rw[h (by simp)];rfl)
theorem iU(n:Nat): ∀(c:TC) (x:Ct c),(eC n c x).all (Ei (I:=I))=true
 | .bool,x=>rfl
 | .int_i32,x=>rfl
 | .int_i64,x=>rfl
 | .int_u32,x=>rfl
 | .int_u64,x=>rfl
 | .int_u8,x=>rfl
 | .sl_119,x=>rfl
 | .sl_172,x=>rfl
 | .sl_44,x=>rfl
 | .sl_49,x=>rfl
 | .sl_5,x=>rfl
 | .sl_66,x=>rfl
 | .sl_9,x=>rfl
 | .st_VArr12_str,x=>rfl
 | .st_VArr2_i64,x=>rfl
 | .st_VDecl,x=>rfl
 | .st_VToken,x=>rfl
 | .st_VValue,x=>rfl
 | .st_Vglue_start,x=>rfl
 | .st_Vnest_found,x=>rfl
 | .st_Vtoken_scanner,x=>rfl
 | .str,x=>rfl
 | .other,x=>by show(List.replicate n EV.nil).all (Ei (I:=I))=true;rw[Rb];intro v hv;rw[(List.mem_replicate.1 hv).2];rfl
theorem zCF:(tab.all fun p=>match p.2 with| .int_u8=>(match kdOf Tryz.prog p.1 with| .int .u8=>true|_=>false)|_=>true)=true:=by kernel_rfl
theorem zCS(t:Nat)(h:tc t= .int_u8):kdOf Tryz.prog t= .int .u8:=by
 unfold tc at h;cases hl:lk tab t with
 |none=>rw[hl]at h;cases h
 |some c=>
  rw[hl]at h;have h:c= .int_u8:=h;subst h;have:=Rb.1 zCF _ (Fg hl);simp only at this;split at this
  ·assumption
  ·cases this
theorem TU(n:Nat): ∀(c:TC) (p:(List UInt8->List (Ct c))×(List (Ct c)->List UInt8)),bC c=some p->(∀l,(p.1 l).map (fC n c)=l.map fun b=>[PV.at (.int .u8 b.toNat)])/\(∀l,l.map (fC n c)=(p.2 l).map fun b=>[PV.at (.int .u8 b.toNat)])/\c= .int_u8:=by
 intro c p h;cases c
 case int_u8=>cases h;exact⟨fun l=>rfl,fun l=>rfl,rfl⟩
 all_goals cases h
theorem zBB(t:Nat)(p:(List UInt8->List (I.C t))×(List (I.C t)->List UInt8))(h:I.byt t=some p):(∀l,(p.1 l).map (I.full t)=l.map fun b=>[PV.at (.int .u8 b.toNat)])/\(∀l,l.map (I.full t)=(p.2 l).map fun b=>[PV.at (.int .u8 b.toNat)])/\kdOf Tryz.prog t= .int .u8:=by obtain⟨h1,h2,h3⟩:=TU (Tryz.prog.cellsOf t) (tc t) p h;exact⟨h1,h2,zCS t h3⟩
theorem ipOK:IpOK Tryz.prog I where
 len:=fun t x=>by show(fC _ _ x).length=_;exact(congrArg List.length (fe _ (tc t) x)).trans ((Fb ..).trans (zBF _ (tc t) x (CW t)))
 exp:=fun t x=>fe _ _ x
 pur:=fun t x v hv=>Rb.1 (iU _ _ x) v hv
 made:=fun t cs x h=>decs (zAv _ _ cs x h)
 byt:=zBB
noncomputable def T:TT:=[(2,ti Tryz.prog 2),(3,ti Tryz.prog 3),(4,ti Tryz.prog 4),(5,ti Tryz.prog 5),(9,ti Tryz.prog 9),(12,ti Tryz.prog 12),(21,ti Tryz.prog 21),(22,ti Tryz.prog 22),(23,ti Tryz.prog 23),(25,ti Tryz.prog 25),(42,ti Tryz.prog 42),(44,ti Tryz.prog 44),(49,ti Tryz.prog 49),(66,ti Tryz.prog 66),(71,ti Tryz.prog 71),(101,ti Tryz.prog 101),(116,ti Tryz.prog 116),(119,ti Tryz.prog 119),(122,ti Tryz.prog 122),(131,ti Tryz.prog 131),(133,ti Tryz.prog 133),(140,ti Tryz.prog 140),(149,ti Tryz.prog 149),(172,ti Tryz.prog 172),(174,ti Tryz.prog 174),(185,ti Tryz.prog 185),(217,ti Tryz.prog 217)]
def FK:List (Nat×List Kd):=[(44,[.int .u8, .str, .int .i64, .str, .bool])]
theorem tok:TOK Tryz.prog T FK:=gI (l:=[2,3,4,5,9,12,21,22,23,25,42,44,49,66,71,101,116,119,122,131,133,140,149,172,174,185,217]) (by
 intro p hp;simp only[FK,Nb,Ve,or_false]at hp;rcases hp with rfl<;>kernel_rfl)
theorem mixed:Tryz.prog.follows .mixedOrders=true:=by kernel_rfl
noncomputable def body(f:Go.Func):Code:=match f.body with|some c=>c|none=> .skip
noncomputable def rsl(f:Go.Func):List ResultVar:=f.results.toList
end Go.Lv.VT
