/- What stands for the values of types. -/
import Derived.Test.YtcdeccnjlkkejaaGreatDoorProg
import Derived.Test.YtcdeccnjlkkejaaGreatDoorLf
import Derived.Test.YtcdeccnjlkkejaaGreatDoorTy
import Derived.KernelRfl
set_option linter.unusedSimpArgs false
set_option linter.unusedVariables false
namespace Go.Lv.VT
set_option maxRecDepth 100000
open Go.Proofs
inductive TC where
 |bool|int_i32|int_i64|int_u32|int_u64|int_u8|sl_119|sl_172|sl_23|sl_44|sl_49|sl_5|sl_66|sl_9|st_VArr12_str|st_VArr2_i64|st_VDecl|st_VToken|st_VValue|st_Vglue_start|st_Vnest_found|st_Vtoken_scanner|str|other
def Ct:TC->Type
 | .bool=>Bool| .int_i32=>Int| .int_i64=>Int| .int_u32=>Int| .int_u64=>Int| .int_u8=>UInt8| .sl_119=>List zz| .sl_172=>List Qa| .sl_23=>List (List zg)| .sl_44=>List zb| .sl_49=>List zg| .sl_5=>List UInt8| .sl_66=>List zgD| .sl_9=>List Str| .st_VArr12_str=>QI| .st_VArr2_i64=>Qa| .st_VDecl=>zgD| .st_VToken=>zb| .st_VValue=>zg| .st_Vglue_start=>zz| .st_Vnest_found=>zH| .st_Vtoken_scanner=>za| .str=>Str| .other=>Unit
def tab:List (Nat×TC):=[(2, .int_i64),(3, .int_i64),(4, .bool),(5, .int_u8),(9, .str),(12, .int_u64),(21, .int_i32),(22, .sl_44),(23, .sl_49),(25, .int_i64),(42, .sl_5),(44, .st_VToken),(49, .st_VValue),(52, .sl_23),(66, .st_VDecl),(71, .sl_66),(101, .st_Vnest_found),(116, .sl_119),(119, .st_Vglue_start),(122, .sl_9),(133, .st_Vtoken_scanner),(140, .sl_172),(149, .st_VArr12_str),(172, .st_VArr2_i64),(174, .int_u64),(185, .int_u32),(217, .int_u64)]
def tc(t:Nat):TC:=match lk tab t with|some c=>c|none=> .other
def Cn(t:Nat):Type:=Ct (tc t)
def dC:(c:TC)->Ct c
 | .bool=>(default:Bool)| .int_i32=>(default:Int)| .int_i64=>(default:Int)| .int_u32=>(default:Int)| .int_u64=>(default:Int)| .int_u8=>(default:UInt8)| .sl_119=>(default:List zz)| .sl_172=>(default:List Qa)| .sl_23=>(default:List (List zg))| .sl_44=>(default:List zb)| .sl_49=>(default:List zg)| .sl_5=>(default:List UInt8)| .sl_66=>(default:List zgD)| .sl_9=>(default:List Str)| .st_VArr12_str=>(default:QI)| .st_VArr2_i64=>(default:Qa)| .st_VDecl=>(default:zgD)| .st_VToken=>(default:zb)| .st_VValue=>(default:zg)| .st_Vglue_start=>(default:zz)| .st_Vnest_found=>(default:zH)| .st_Vtoken_scanner=>(default:za)| .str=>(default:Str)| .other=>()
def size:TC->Nat
 | .st_VArr12_str=>12| .st_VArr2_i64=>2| .st_VDecl=>3| .st_VToken=>5| .st_VValue=>6| .st_Vglue_start=>2| .st_Vnest_found=>3| .st_Vtoken_scanner=>2|_=>1
def zmp(x:QI):List PV:=[.str x.e0, .str x.e1, .str x.e2, .str x.e3, .str x.e4, .str x.e5, .str x.e6, .str x.e7, .str x.e8, .str x.e9, .str x.e10, .str x.e11]
def CS(x:Qa):List PV:=[.at (.int .i64 x.e0), .at (.int .i64 x.e1)]
def Xm(x:zb):List PV:=[.at (.int .u8 x.kind), .str x.text, .at (.int .i64 x.num), .str x.unit, .at (.bool x.flag)]
mutual
def zD:zg->List PV
 |⟨x_token,x_list⟩=>[.at (.int .u8 x_token.kind), .str x_token.text, .at (.int .i64 x_token.num), .str x_token.unit, .at (.bool x_token.flag), .sl (Dy x_list)]
def Dy:List zg->List (List PV)
 |[]=>[]
 |v::r=>zD v::Dy r
end
theorem wD: ∀(l:List zg),Dy l=l.map zD
 |[]=>by rw[Dy];rfl
 |v::r=>by rw[Dy,wD r];rfl
def sP(x:zgD):List PV:=[.str x.name, .sl (x.value.map zD), .at (.bool x.important)]
def EU(x:zz):List PV:=[.at (.int .i64 x.token), .at (.int .i64 x.at_)]
def zk0(x:zH):List PV:=[.at (.int .i64 x.depth), .at (.int .i64 x.tokens), .at (.bool x.bad)]
def zhw(x:za):List PV:=[.str x.s, .at (.int .i64 x.at_)]
theorem BS(x_token:zb)(x_list:List zg):zD ⟨x_token,x_list⟩=[.at (.int .u8 x_token.kind), .str x_token.text, .at (.int .i64 x_token.num), .str x_token.unit, .at (.bool x_token.flag), .sl (x_list.map zD)]:=by simp only[zD,wD]
def fC(n:Nat):(c:TC)->Ct c->List PV
 | .bool,(x:Bool)=>[.at (.bool x)]
 | .int_i32,(x:Int)=>[.at (.int .i32 x)]
 | .int_i64,(x:Int)=>[.at (.int .i64 x)]
 | .int_u32,(x:Int)=>[.at (.int .u32 x)]
 | .int_u64,(x:Int)=>[.at (.int .u64 x)]
 | .int_u8,(x:UInt8)=>[.at (.int .u8 x.toNat)]
 | .sl_119,(x:List zz)=>[.sl (x.map EU)]
 | .sl_172,(x:List Qa)=>[.sl (x.map CS)]
 | .sl_23,(x:List (List zg))=>[.sl (x.map (fun y=>[.sl (y.map zD)]))]
 | .sl_44,(x:List zb)=>[.sl (x.map Xm)]
 | .sl_49,(x:List zg)=>[.sl (x.map zD)]
 | .sl_5,(x:List UInt8)=>[.sl (x.map (fun y=>[.at (.int .u8 y.toNat)]))]
 | .sl_66,(x:List zgD)=>[.sl (x.map sP)]
 | .sl_9,(x:List Str)=>[.sl (x.map (fun y=>[.str y]))]
 | .st_VArr12_str,(x:QI)=>zmp x
 | .st_VArr2_i64,(x:Qa)=>CS x
 | .st_VDecl,(x:zgD)=>sP x
 | .st_VToken,(x:zb)=>Xm x
 | .st_VValue,(x:zg)=>zD x
 | .st_Vglue_start,(x:zz)=>EU x
 | .st_Vnest_found,(x:zH)=>zk0 x
 | .st_Vtoken_scanner,(x:za)=>zhw x
 | .str,(x:Str)=>[.str x]
 | .other,_=>List.replicate n (.at (.slice none 0 0))
def eC(n:Nat):(c:TC)->Ct c->List (EV Cn)
 | .bool,(x:Bool)=>[.bool x]
 | .int_i32,(x:Int)=>[.int .i32 x]
 | .int_i64,(x:Int)=>[.int .i64 x]
 | .int_u32,(x:Int)=>[.int .u32 x]
 | .int_u64,(x:Int)=>[.int .u64 x]
 | .int_u8,(x:UInt8)=>[.int .u8 (x.toNat:Int)]
 | .sl_119,(x:List zz)=>[.sl 119 x]
 | .sl_172,(x:List Qa)=>[.sl 172 x]
 | .sl_23,(x:List (List zg))=>[.sl 23 x]
 | .sl_44,(x:List zb)=>[.sl 44 x]
 | .sl_49,(x:List zg)=>[.sl 49 x]
 | .sl_5,(x:List UInt8)=>[.sl 5 x]
 | .sl_66,(x:List zgD)=>[.sl 66 x]
 | .sl_9,(x:List Str)=>[.sl 9 x]
 | .st_VArr12_str,(x:QI)=>[.str x.e0, .str x.e1, .str x.e2, .str x.e3, .str x.e4, .str x.e5, .str x.e6, .str x.e7, .str x.e8, .str x.e9, .str x.e10, .str x.e11]
 | .st_VArr2_i64,(x:Qa)=>[.int .i64 x.e0, .int .i64 x.e1]
 | .st_VDecl,(x:zgD)=>[.str x.name, .sl 49 x.value, .bool x.important]
 | .st_VToken,(x:zb)=>[.int .u8 x.kind, .str x.text, .int .i64 x.num, .str x.unit, .bool x.flag]
 | .st_VValue,(x:zg)=>[.int .u8 x.token.kind, .str x.token.text, .int .i64 x.token.num, .str x.token.unit, .bool x.token.flag, .sl 49 x.list]
 | .st_Vglue_start,(x:zz)=>[.int .i64 x.token, .int .i64 x.at_]
 | .st_Vnest_found,(x:zH)=>[.int .i64 x.depth, .int .i64 x.tokens, .bool x.bad]
 | .st_Vtoken_scanner,(x:za)=>[.str x.s, .int .i64 x.at_]
 | .str,(x:Str)=>[.str x]
 | .other,_=>List.replicate n .nil
def uG:EV Cn->Option Int
 | .int .i32 n=>some n
 |_=>none
def mi:EV Cn->Option Int
 | .int .i64 n=>some n
 |_=>none
def eG:EV Cn->Option Int
 | .int .u32 n=>some n
 |_=>none
def dG:EV Cn->Option Int
 | .int .u64 n=>some n
 |_=>none
def vv:EV Cn->Option Int
 | .int .u8 n=>some n
 |_=>none
def om:EV Cn->Option Bool
 | .bool b=>some b
 |_=>none
def dStr:EV Cn->Option Str
 | .str l=>some l
 |_=>none
def EK:EV Cn->Option (List UInt8)
 | .nil=>some []
 | .sl 5 l=>some l
 |_=>none
def DK:EV Cn->Option (List Str)
 | .nil=>some []
 | .sl 9 l=>some l
 |_=>none
def LF:EV Cn->Option (List (List zg))
 | .nil=>some []
 | .sl 23 l=>some l
 |_=>none
def CF:EV Cn->Option (List zb)
 | .nil=>some []
 | .sl 44 l=>some l
 |_=>none
def yu:EV Cn->Option (List zg)
 | .nil=>some []
 | .sl 49 l=>some l
 |_=>none
def BF:EV Cn->Option (List zgD)
 | .nil=>some []
 | .sl 66 l=>some l
 |_=>none
def BG:EV Cn->Option (List zz)
 | .nil=>some []
 | .sl 119 l=>some l
 |_=>none
def yF:EV Cn->Option (List Qa)
 | .nil=>some []
 | .sl 172 l=>some l
 |_=>none
def mC:(c:TC)->List (EV Cn)->Option (Ct c)
 | .bool=>fun cs=>match cs with|[a0]=>(om a0).bind fun x0=>some x0|_=>none
 | .int_i32=>fun cs=>match cs with|[a0]=>(uG a0).bind fun x0=>some x0|_=>none
 | .int_i64=>fun cs=>match cs with|[a0]=>(mi a0).bind fun x0=>some x0|_=>none
 | .int_u32=>fun cs=>match cs with|[a0]=>(eG a0).bind fun x0=>some x0|_=>none
 | .int_u64=>fun cs=>match cs with|[a0]=>(dG a0).bind fun x0=>some x0|_=>none
 | .int_u8=>fun cs=>match cs with|[a0]=>(vv a0).bind Zq|_=>none
 | .sl_119=>fun cs=>match cs with|[a0]=>(BG a0).bind fun x0=>some x0|_=>none
 | .sl_172=>fun cs=>match cs with|[a0]=>(yF a0).bind fun x0=>some x0|_=>none
 | .sl_23=>fun cs=>match cs with|[a0]=>(LF a0).bind fun x0=>some x0|_=>none
 | .sl_44=>fun cs=>match cs with|[a0]=>(CF a0).bind fun x0=>some x0|_=>none
 | .sl_49=>fun cs=>match cs with|[a0]=>(yu a0).bind fun x0=>some x0|_=>none
 | .sl_5=>fun cs=>match cs with|[a0]=>(EK a0).bind fun x0=>some x0|_=>none
 | .sl_66=>fun cs=>match cs with|[a0]=>(BF a0).bind fun x0=>some x0|_=>none
 | .sl_9=>fun cs=>match cs with|[a0]=>(DK a0).bind fun x0=>some x0|_=>none
 | .st_VArr12_str=>fun cs=>match cs with|[a0,a1,a2,a3,a4,a5,a6,a7,a8,a9,a10,a11]=>(dStr a0).bind fun x0=>(dStr a1).bind fun x1=>(dStr a2).bind fun x2=>(dStr a3).bind fun x3=>(dStr a4).bind fun x4=>(dStr a5).bind fun x5=>(dStr a6).bind fun x6=>(dStr a7).bind fun x7=>(dStr a8).bind fun x8=>(dStr a9).bind fun x9=>(dStr a10).bind fun x10=>(dStr a11).bind fun x11=>some (⟨x0,x1,x2,x3,x4,x5,x6,x7,x8,x9,x10,x11⟩:QI)|_=>none
 | .st_VArr2_i64=>fun cs=>match cs with|[a0,a1]=>(mi a0).bind fun x0=>(mi a1).bind fun x1=>some (⟨x0,x1⟩:Qa)|_=>none
 | .st_VDecl=>fun cs=>match cs with|[a0,a1,a2]=>(dStr a0).bind fun x0=>(yu a1).bind fun x1=>(om a2).bind fun x2=>some (⟨x0,x1,x2⟩:zgD)|_=>none
 | .st_VToken=>fun cs=>match cs with|[a0,a1,a2,a3,a4]=>(vv a0).bind fun x0=>(dStr a1).bind fun x1=>(mi a2).bind fun x2=>(dStr a3).bind fun x3=>(om a4).bind fun x4=>some (⟨x0,x1,x2,x3,x4⟩:zb)|_=>none
 | .st_VValue=>fun cs=>match cs with|[a0,a1,a2,a3,a4,a5]=>(vv a0).bind fun x0=>(dStr a1).bind fun x1=>(mi a2).bind fun x2=>(dStr a3).bind fun x3=>(om a4).bind fun x4=>(yu a5).bind fun x5=>some (⟨(⟨x0,x1,x2,x3,x4⟩:zb),x5⟩:zg)|_=>none
 | .st_Vglue_start=>fun cs=>match cs with|[a0,a1]=>(mi a0).bind fun x0=>(mi a1).bind fun x1=>some (⟨x0,x1⟩:zz)|_=>none
 | .st_Vnest_found=>fun cs=>match cs with|[a0,a1,a2]=>(mi a0).bind fun x0=>(mi a1).bind fun x1=>(om a2).bind fun x2=>some (⟨x0,x1,x2⟩:zH)|_=>none
 | .st_Vtoken_scanner=>fun cs=>match cs with|[a0,a1]=>(dStr a0).bind fun x0=>(mi a1).bind fun x1=>some (⟨x0,x1⟩:za)|_=>none
 | .str=>fun cs=>match cs with|[a0]=>(dStr a0).bind fun x0=>some x0|_=>none
 | .other=>fun _=>none
def bC:(c:TC)->Option ((List UInt8->List (Ct c))×(List (Ct c)->List UInt8))
 | .int_u8=>some (fun l=>l,fun l=>l)
 |_=>none
noncomputable def I:Ip:=⟨Cn,fun t=>dC (tc t),fun t=>eC (Tryz.prog.cellsOf t) (tc t),fun t=>mC (tc t),fun t=>fC (Tryz.prog.cellsOf t) (tc t),fun t=>bC (tc t)⟩
theorem zDR:(tab.all fun p=>Nat.beq (Tryz.prog.cellsOf p.1) (size p.2))=true:=by kernel_rfl
theorem DY(t:Nat)(h:tc t≠ .other):Tryz.prog.cellsOf t=size (tc t):=by
 unfold tc at h ⊢;cases hl:lk tab t with
 |none=>rw[hl]at h;exact absurd rfl h
 |some c=> simp only;exact Cb (Ta.1 zDR _ (Zc hl))
def Dec(a:EV Cn)(p:PV):Prop:=Ul (I:=I) a=true/\WkP (pvE I a) p
theorem decs{cs:List (EV Cn)}{ps:List PV}(h:All2 Dec cs ps):(∀v∈cs,Ul (I:=I) v=true)/\cs.length=ps.length/\ ∀(j:Nat) (a b:PV),(cs.map (pvE I))[j]? =some a->ps[j]? =some b->WkP a b:=by
 induction h with
 |nil=>exact⟨fun v hv=>(by cases hv),rfl,fun j a b ha=>(by cases ha)⟩
 |cons h1 _ ih=>
  refine⟨fun v hv=> ?_,congrArg Nat.succ ih.2.1,fun j a b ha hb=> ?_⟩
  ·rcases Ab.1 hv with rfl|hv
   ·exact h1.1
   ·exact ih.1 v hv
  ·cases j with
   |zero=>injection ha with ha;injection hb with hb;rw[<-ha,<-hb];exact h1.2
   |succ j=>exact ih.2.2 j a b ha hb
theorem H8{a:EV Cn}{x:Int}(h:uG a=some x):Dec a (.at (.int .i32 x)):=by
 unfold uG at h;split at h
 ·cases h;exact⟨rfl, .refl _⟩
 ·cases h
theorem qR{a:EV Cn}{x:Int}(h:mi a=some x):Dec a (.at (.int .i64 x)):=by
 unfold mi at h;split at h
 ·cases h;exact⟨rfl, .refl _⟩
 ·cases h
theorem l8{a:EV Cn}{x:Int}(h:eG a=some x):Dec a (.at (.int .u32 x)):=by
 unfold eG at h;split at h
 ·cases h;exact⟨rfl, .refl _⟩
 ·cases h
theorem Y8{a:EV Cn}{x:Int}(h:dG a=some x):Dec a (.at (.int .u64 x)):=by
 unfold dG at h;split at h
 ·cases h;exact⟨rfl, .refl _⟩
 ·cases h
theorem uH{a:EV Cn}{x:Int}(h:vv a=some x):Dec a (.at (.int .u8 x)):=by
 unfold vv at h;split at h
 ·cases h;exact⟨rfl, .refl _⟩
 ·cases h
theorem Pw{a:EV Cn}{x:Bool}(h:om a=some x):Dec a (.at (.bool x)):=by
 unfold om at h;split at h
 ·cases h;exact⟨rfl, .refl _⟩
 ·cases h
theorem Qy{a:EV Cn}{x:Str}(h:dStr a=some x):Dec a (.str x):=by
 unfold dStr at h;split at h
 ·cases h;exact⟨rfl, .refl _⟩
 ·cases h
theorem wX{a:EV Cn}{x:List UInt8}(h:EK a=some x):Dec a (.sl (x.map (I.full 5))):=by
 unfold EK at h;split at h
 ·cases h;exact⟨rfl, .nil⟩
 ·cases h;exact⟨rfl, .refl _⟩
 ·cases h
theorem vX{a:EV Cn}{x:List Str}(h:DK a=some x):Dec a (.sl (x.map (I.full 9))):=by
 unfold DK at h;split at h
 ·cases h;exact⟨rfl, .nil⟩
 ·cases h;exact⟨rfl, .refl _⟩
 ·cases h
theorem NZ{a:EV Cn}{x:List (List zg)}(h:LF a=some x):Dec a (.sl (x.map (I.full 23))):=by
 unfold LF at h;split at h
 ·cases h;exact⟨rfl, .nil⟩
 ·cases h;exact⟨rfl, .refl _⟩
 ·cases h
theorem MZ{a:EV Cn}{x:List zb}(h:CF a=some x):Dec a (.sl (x.map (I.full 44))):=by
 unfold CF at h;split at h
 ·cases h;exact⟨rfl, .nil⟩
 ·cases h;exact⟨rfl, .refl _⟩
 ·cases h
theorem eH{a:EV Cn}{x:List zg}(h:yu a=some x):Dec a (.sl (x.map (I.full 49))):=by
 unfold yu at h;split at h
 ·cases h;exact⟨rfl, .nil⟩
 ·cases h;exact⟨rfl, .refl _⟩
 ·cases h
theorem LZ{a:EV Cn}{x:List zgD}(h:BF a=some x):Dec a (.sl (x.map (I.full 66))):=by
 unfold BF at h;split at h
 ·cases h;exact⟨rfl, .nil⟩
 ·cases h;exact⟨rfl, .refl _⟩
 ·cases h
theorem F5{a:EV Cn}{x:List zz}(h:BG a=some x):Dec a (.sl (x.map (I.full 119))):=by
 unfold BG at h;split at h
 ·cases h;exact⟨rfl, .nil⟩
 ·cases h;exact⟨rfl, .refl _⟩
 ·cases h
theorem E5{a:EV Cn}{x:List Qa}(h:yF a=some x):Dec a (.sl (x.map (I.full 172))):=by
 unfold yF at h;split at h
 ·cases h;exact⟨rfl, .nil⟩
 ·cases h;exact⟨rfl, .refl _⟩
 ·cases h
theorem zBR(n:Nat): ∀(c:TC) (cs:List (EV Cn)) (x:Ct c),mC c cs=some x->All2 Dec cs (fC n c x)
 | .bool,cs,x,h=>by
  simp only[mC]at h;split at h
  ·obtain⟨x0,h0,h⟩:=Ba.1 h;injection h with h;subst h;exact .cons (Pw h0) .nil
  ·cases h
 | .int_i32,cs,x,h=>by
  simp only[mC]at h;split at h
  ·obtain⟨x0,h0,h⟩:=Ba.1 h;injection h with h;subst h;exact .cons (H8 h0) .nil
  ·cases h
 | .int_i64,cs,x,h=>by
  simp only[mC]at h;split at h
  ·obtain⟨x0,h0,h⟩:=Ba.1 h;injection h with h;subst h;exact .cons (qR h0) .nil
  ·cases h
 | .int_u32,cs,x,h=>by
  simp only[mC]at h;split at h
  ·obtain⟨x0,h0,h⟩:=Ba.1 h;injection h with h;subst h;exact .cons (l8 h0) .nil
  ·cases h
 | .int_u64,cs,x,h=>by
  simp only[mC]at h;split at h
  ·obtain⟨x0,h0,h⟩:=Ba.1 h;injection h with h;subst h;exact .cons (Y8 h0) .nil
  ·cases h
 | .int_u8,cs,x,h=>by
  simp only[mC]at h;split at h
  ·obtain⟨x0,h0,h⟩:=Ba.1 h;have:=J2 h;subst this;exact .cons (uH h0) .nil
  ·cases h
 | .sl_119,cs,x,h=>by
  simp only[mC]at h;split at h
  ·obtain⟨x0,h0,h⟩:=Ba.1 h;injection h with h;subst h;exact .cons (F5 h0) .nil
  ·cases h
 | .sl_172,cs,x,h=>by
  simp only[mC]at h;split at h
  ·obtain⟨x0,h0,h⟩:=Ba.1 h;injection h with h;subst h;exact .cons (E5 h0) .nil
  ·cases h
 | .sl_23,cs,x,h=>by
  simp only[mC]at h;split at h
  ·obtain⟨x0,h0,h⟩:=Ba.1 h;injection h with h;subst h;exact .cons (NZ h0) .nil
  ·cases h
 | .sl_44,cs,x,h=>by
  simp only[mC]at h;split at h
  ·obtain⟨x0,h0,h⟩:=Ba.1 h;injection h with h;subst h;exact .cons (MZ h0) .nil
  ·cases h
 | .sl_49,cs,x,h=>by
  simp only[mC]at h;split at h
  ·obtain⟨x0,h0,h⟩:=Ba.1 h;injection h with h;subst h;exact .cons (eH h0) .nil
  ·cases h
 | .sl_5,cs,x,h=>by
  simp only[mC]at h;split at h
  ·obtain⟨x0,h0,h⟩:=Ba.1 h;injection h with h;subst h;exact .cons (wX h0) .nil
  ·cases h
 | .sl_66,cs,x,h=>by
  simp only[mC]at h;split at h
  ·obtain⟨x0,h0,h⟩:=Ba.1 h;injection h with h;subst h;exact .cons (LZ h0) .nil
  ·cases h
 | .sl_9,cs,x,h=>by
  simp only[mC]at h;split at h
  ·obtain⟨x0,h0,h⟩:=Ba.1 h;injection h with h;subst h;exact .cons (vX h0) .nil
  ·cases h
 | .st_VArr12_str,cs,x,h=>by
  simp only[mC]at h;split at h
  ·obtain⟨x0,h0,h⟩:=Ba.1 h;obtain⟨x1,h1,h⟩:=Ba.1 h;obtain⟨x2,h2,h⟩:=Ba.1 h;obtain⟨x3,h3,h⟩:=Ba.1 h;obtain⟨x4,h4,h⟩:=Ba.1 h;obtain⟨x5,h5,h⟩:=Ba.1 h;obtain⟨x6,h6,h⟩:=Ba.1 h;obtain⟨x7,h7,h⟩:=Ba.1 h;obtain⟨x8,h8,h⟩:=Ba.1 h;obtain⟨x9,h9,h⟩:=Ba.1 h;obtain⟨x10,h10,h⟩:=Ba.1 h;obtain⟨x11,h11,h⟩:=Ba.1 h;injection h with h;subst h;exact .cons (Qy h0) (.cons (Qy h1) (.cons (Qy h2) (.cons (Qy h3) (.cons (Qy h4) (.cons (Qy h5) (.cons (Qy h6) (.cons (Qy h7) (.cons (Qy h8) (.cons (Qy h9) (.cons (Qy h10) (.cons (Qy h11) .nil)))))))))))
  ·cases h
 | .st_VArr2_i64,cs,x,h=>by
  simp only[mC]at h;split at h
  ·obtain⟨x0,h0,h⟩:=Ba.1 h;obtain⟨x1,h1,h⟩:=Ba.1 h;injection h with h;subst h;exact .cons (qR h0) (.cons (qR h1) .nil)
  ·cases h
 | .st_VDecl,cs,x,h=>by
  simp only[mC]at h;split at h
  ·obtain⟨x0,h0,h⟩:=Ba.1 h;obtain⟨x1,h1,h⟩:=Ba.1 h;obtain⟨x2,h2,h⟩:=Ba.1 h;injection h with h;subst h;exact .cons (Qy h0) (.cons (eH h1) (.cons (Pw h2) .nil))
  ·cases h
 | .st_VToken,cs,x,h=>by
  simp only[mC]at h;split at h
  ·obtain⟨x0,h0,h⟩:=Ba.1 h;obtain⟨x1,h1,h⟩:=Ba.1 h;obtain⟨x2,h2,h⟩:=Ba.1 h;obtain⟨x3,h3,h⟩:=Ba.1 h;obtain⟨x4,h4,h⟩:=Ba.1 h;injection h with h;subst h;exact .cons (uH h0) (.cons (Qy h1) (.cons (qR h2) (.cons (Qy h3) (.cons (Pw h4) .nil))))
  ·cases h
 | .st_VValue,cs,x,h=>by
  simp only[mC]at h;split at h
  ·obtain⟨x0,h0,h⟩:=Ba.1 h;obtain⟨x1,h1,h⟩:=Ba.1 h;obtain⟨x2,h2,h⟩:=Ba.1 h;obtain⟨x3,h3,h⟩:=Ba.1 h;obtain⟨x4,h4,h⟩:=Ba.1 h;obtain⟨x5,h5,h⟩:=Ba.1 h;injection h with h;subst h;show All2 Dec _ (zD _);simp only[zD,wD];exact .cons (uH h0) (.cons (Qy h1) (.cons (qR h2) (.cons (Qy h3) (.cons (Pw h4) (.cons (eH h5) .nil)))))
  ·cases h
 | .st_Vglue_start,cs,x,h=>by
  simp only[mC]at h;split at h
  ·obtain⟨x0,h0,h⟩:=Ba.1 h;obtain⟨x1,h1,h⟩:=Ba.1 h;injection h with h;subst h;exact .cons (qR h0) (.cons (qR h1) .nil)
  ·cases h
 | .st_Vnest_found,cs,x,h=>by
  simp only[mC]at h;split at h
  ·obtain⟨x0,h0,h⟩:=Ba.1 h;obtain⟨x1,h1,h⟩:=Ba.1 h;obtain⟨x2,h2,h⟩:=Ba.1 h;injection h with h;subst h;exact .cons (qR h0) (.cons (qR h1) (.cons (Pw h2) .nil))
  ·cases h
 | .st_Vtoken_scanner,cs,x,h=>by
  simp only[mC]at h;split at h
  ·obtain⟨x0,h0,h⟩:=Ba.1 h;obtain⟨x1,h1,h⟩:=Ba.1 h;injection h with h;subst h;exact .cons (Qy h0) (.cons (qR h1) .nil)
  ·cases h
 | .str,cs,x,h=>by
  simp only[mC]at h;split at h
  ·obtain⟨x0,h0,h⟩:=Ba.1 h;injection h with h;subst h;exact .cons (Qy h0) .nil
  ·cases h
 | .other,cs,x,h=>by cases h
theorem fe(n:Nat): ∀(c:TC) (x:Ct c),fC n c x=(eC n c x).map (pvE I)
 | .bool,x=>rfl
 | .int_i32,x=>rfl
 | .int_i64,x=>rfl
 | .int_u32,x=>rfl
 | .int_u64,x=>rfl
 | .int_u8,x=>rfl
 | .sl_119,x=>rfl
 | .sl_172,x=>rfl
 | .sl_23,x=>rfl
 | .sl_44,x=>rfl
 | .sl_49,x=>rfl
 | .sl_5,x=>rfl
 | .sl_66,x=>rfl
 | .sl_9,x=>rfl
 | .st_VArr12_str,x=>rfl
 | .st_VArr2_i64,x=>rfl
 | .st_VDecl,x=>rfl
 | .st_VToken,x=>rfl
 | .st_VValue,(x:zg)=>by obtain⟨x_token,x_list⟩:=x;show zD _=_;simp only[zD,wD];rfl
 | .st_Vglue_start,x=>rfl
 | .st_Vnest_found,x=>rfl
 | .st_Vtoken_scanner,x=>rfl
 | .str,x=>rfl
 | .other,x=>by show List.replicate n (PV.at (Value.slice none 0 0))=(List.replicate n EV.nil).map (pvE I);rw[List.map_replicate];rfl
theorem zCY(n:Nat)(c:TC)(x:Ct c)(h:c≠ .other->n=size c):(eC n c x).length=n:=by
 cases c
 case other=>simp[eC]
 all_goals (rw[h (by simp)];rfl)
theorem zBs(n:Nat): ∀(c:TC) (x:Ct c),(eC n c x).all (Ul (I:=I))=true
 | .bool,x=>rfl
 | .int_i32,x=>rfl
 | .int_i64,x=>rfl
 | .int_u32,x=>rfl
 | .int_u64,x=>rfl
 | .int_u8,x=>rfl
 | .sl_119,x=>rfl
 | .sl_172,x=>rfl
 | .sl_23,x=>rfl
 | .sl_44,x=>rfl
 | .sl_49,x=>rfl
 | .sl_5,x=>rfl
 | .sl_66,x=>rfl
 | .sl_9,x=>rfl
 | .st_VArr12_str,x=>rfl
 | .st_VArr2_i64,x=>rfl
 | .st_VDecl,x=>rfl
 | .st_VToken,x=>rfl
 | .st_VValue,x=>rfl
 | .st_Vglue_start,x=>rfl
 | .st_Vnest_found,x=>rfl
 | .st_Vtoken_scanner,x=>rfl
 | .str,x=>rfl
 | .other,x=>by show(List.replicate n EV.nil).all (Ul (I:=I))=true;rw[Ta];intro v hv;rw[(List.mem_replicate.1 hv).2];rfl
theorem zDS:(tab.all fun p=>match p.2 with| .int_u8=>(match kdOf Tryz.prog p.1 with| .int .u8=>true|_=>false)|_=>true)=true:=by kernel_rfl
theorem zD3(t:Nat)(h:tc t= .int_u8):kdOf Tryz.prog t= .int .u8:=by
 unfold tc at h;cases hl:lk tab t with
 |none=>rw[hl]at h;cases h
 |some c=>
  rw[hl]at h;have h:c= .int_u8:=h;subst h;have:=Ta.1 zDS _ (Zc hl);simp only at this;split at this
  ·assumption
  ·cases this
theorem zBd(n:Nat): ∀(c:TC) (p:(List UInt8->List (Ct c))×(List (Ct c)->List UInt8)),bC c=some p->(∀l,(p.1 l).map (fC n c)=l.map fun b=>[PV.at (.int .u8 b.toNat)])/\(∀l,l.map (fC n c)=(p.2 l).map fun b=>[PV.at (.int .u8 b.toNat)])/\c= .int_u8:=by
 intro c p h;cases c
 case int_u8=>cases h;exact⟨fun l=>rfl,fun l=>rfl,rfl⟩
 all_goals cases h
theorem zCV(t:Nat)(p:(List UInt8->List (I.C t))×(List (I.C t)->List UInt8))(h:I.byt t=some p):(∀l,(p.1 l).map (I.full t)=l.map fun b=>[PV.at (.int .u8 b.toNat)])/\(∀l,l.map (I.full t)=(p.2 l).map fun b=>[PV.at (.int .u8 b.toNat)])/\kdOf Tryz.prog t= .int .u8:=by obtain⟨h1,h2,h3⟩:=zBd (Tryz.prog.cellsOf t) (tc t) p h;exact⟨h1,h2,zD3 t h3⟩
theorem ipOK:IpOK Tryz.prog I where
 len:=fun t x=>by show(fC _ _ x).length=_;exact(congrArg List.length (fe _ (tc t) x)).trans ((Xa ..).trans (zCY _ (tc t) x (DY t)))
 exp:=fun t x=>fe _ _ x
 pur:=fun t x v hv=>Ta.1 (zBs _ _ x) v hv
 made:=fun t cs x h=>decs (zBR _ _ cs x h)
 byt:=zCV
noncomputable def T:TT:=[(2,ti Tryz.prog 2),(3,ti Tryz.prog 3),(4,ti Tryz.prog 4),(5,ti Tryz.prog 5),(9,ti Tryz.prog 9),(12,ti Tryz.prog 12),(21,ti Tryz.prog 21),(22,ti Tryz.prog 22),(23,ti Tryz.prog 23),(25,ti Tryz.prog 25),(42,ti Tryz.prog 42),(44,ti Tryz.prog 44),(49,ti Tryz.prog 49),(52,ti Tryz.prog 52),(66,ti Tryz.prog 66),(71,ti Tryz.prog 71),(101,ti Tryz.prog 101),(116,ti Tryz.prog 116),(119,ti Tryz.prog 119),(122,ti Tryz.prog 122),(131,ti Tryz.prog 131),(133,ti Tryz.prog 133),(140,ti Tryz.prog 140),(149,ti Tryz.prog 149),(172,ti Tryz.prog 172),(174,ti Tryz.prog 174),(185,ti Tryz.prog 185),(217,ti Tryz.prog 217)]
def FK:List (Nat×List Kd):=[(44,[.int .u8, .str, .int .i64, .str, .bool])]
theorem tok:TOK Tryz.prog T FK:=zDT (l:=[2,3,4,5,9,12,21,22,23,25,42,44,49,52,66,71,101,116,119,122,131,133,140,149,172,174,185,217]) (by
 intro p hp;simp only[FK,Ab,Ke,ng]at hp;rcases hp with rfl<;>kernel_rfl)
theorem mixed:Tryz.prog.follows .mixedOrders=true:=by kernel_rfl
noncomputable def body(f:Go.Func):Code:=match f.body with|some c=>c|none=> .skip
noncomputable def rsl(f:Go.Func):List ResultVar:=f.results.toList
end Go.Lv.VT
