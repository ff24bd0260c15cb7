/- What stands for the values of types. -/
import Derived.Test.YtcdeccnjlkkejaaGreatDoorProg
import Derived.Test.YtcdeccnjlkkejaaGreatDoorLf
import Derived.Test.YtcdeccnjlkkejaaGreatDoorTy
import Derived.KernelRfl
set_option linter.unusedSimpArgs false
set_option linter.unusedVariables false
namespace Go.Lv.VT
set_option maxRecDepth 100000
open Go.Proofs
inductive TC where
 |bool|int_i32|int_i64|int_u32|int_u64|int_u8|sl_119|sl_23|sl_44|sl_49|sl_5|sl_66|sl_9|st_VArr12_str|st_VDecl|st_VToken|st_VValue|st_Vglue_start|st_Vnest_found|st_Vtoken_scanner|str|other
def Ct:TC->Type
 | .bool=>Bool| .int_i32=>Int| .int_i64=>Int| .int_u32=>Int| .int_u64=>Int| .int_u8=>UInt8| .sl_119=>List zu| .sl_23=>List (List zb)| .sl_44=>List ze| .sl_49=>List zb| .sl_5=>List UInt8| .sl_66=>List zT| .sl_9=>List Str| .st_VArr12_str=>QA| .st_VDecl=>zT| .st_VToken=>ze| .st_VValue=>zb| .st_Vglue_start=>zu| .st_Vnest_found=>zw| .st_Vtoken_scanner=>za| .str=>Str| .other=>Unit
def tab:List (Nat×TC):=[(2, .int_i64),(3, .int_i64),(4, .bool),(5, .int_u8),(9, .str),(21, .int_i32),(22, .sl_44),(23, .sl_49),(25, .int_i64),(42, .sl_5),(44, .st_VToken),(49, .st_VValue),(52, .sl_23),(66, .st_VDecl),(71, .sl_66),(101, .st_Vnest_found),(116, .sl_119),(119, .st_Vglue_start),(122, .sl_9),(133, .st_Vtoken_scanner),(149, .st_VArr12_str),(174, .int_u64),(185, .int_u32),(217, .int_u64)]
def tc(t:Nat):TC:=match lk tab t with|some c=>c|none=> .other
def Cn(t:Nat):Type:=Ct (tc t)
def dC:(c:TC)->Ct c
 | .bool=>(default:Bool)| .int_i32=>(default:Int)| .int_i64=>(default:Int)| .int_u32=>(default:Int)| .int_u64=>(default:Int)| .int_u8=>(default:UInt8)| .sl_119=>(default:List zu)| .sl_23=>(default:List (List zb))| .sl_44=>(default:List ze)| .sl_49=>(default:List zb)| .sl_5=>(default:List UInt8)| .sl_66=>(default:List zT)| .sl_9=>(default:List Str)| .st_VArr12_str=>(default:QA)| .st_VDecl=>(default:zT)| .st_VToken=>(default:ze)| .st_VValue=>(default:zb)| .st_Vglue_start=>(default:zu)| .st_Vnest_found=>(default:zw)| .st_Vtoken_scanner=>(default:za)| .str=>(default:Str)| .other=>()
def size:TC->Nat
 | .st_VArr12_str=>12| .st_VDecl=>3| .st_VToken=>5| .st_VValue=>6| .st_Vglue_start=>2| .st_Vnest_found=>3| .st_Vtoken_scanner=>2|_=>1
def V5(x:QA):List PV:=[.str x.e0, .str x.e1, .str x.e2, .str x.e3, .str x.e4, .str x.e5, .str x.e6, .str x.e7, .str x.e8, .str x.e9, .str x.e10, .str x.e11]
def mM(x:ze):List PV:=[.at (.int .u8 x.kind), .str x.text, .at (.int .i64 x.num), .str x.unit, .at (.bool x.flag)]
mutual
def QD:zb->List PV
 |⟨x_token,x_list⟩=>[.at (.int .u8 x_token.kind), .str x_token.text, .at (.int .i64 x_token.num), .str x_token.unit, .at (.bool x_token.flag), .sl (ut x_list)]
def ut:List zb->List (List PV)
 |[]=>[]
 |v::r=>QD v::ut r
end
theorem aF: ∀(l:List zb),ut l=l.map QD
 |[]=>by rw[ut];rfl
 |v::r=>by rw[ut,aF r];rfl
def WL(x:zT):List PV:=[.str x.name, .sl (x.value.map QD), .at (.bool x.important)]
def tO(x:zu):List PV:=[.at (.int .i64 x.token), .at (.int .i64 x.at_)]
def H6(x:zw):List PV:=[.at (.int .i64 x.depth), .at (.int .i64 x.tokens), .at (.bool x.bad)]
def U6(x:za):List PV:=[.str x.s, .at (.int .i64 x.at_)]
def fC(n:Nat):(c:TC)->Ct c->List PV
 | .bool,(x:Bool)=>[.at (.bool x)]
 | .int_i32,(x:Int)=>[.at (.int .i32 x)]
 | .int_i64,(x:Int)=>[.at (.int .i64 x)]
 | .int_u32,(x:Int)=>[.at (.int .u32 x)]
 | .int_u64,(x:Int)=>[.at (.int .u64 x)]
 | .int_u8,(x:UInt8)=>[.at (.int .u8 x.toNat)]
 | .sl_119,(x:List zu)=>[.sl (x.map tO)]
 | .sl_23,(x:List (List zb))=>[.sl (x.map (fun y=>[.sl (y.map QD)]))]
 | .sl_44,(x:List ze)=>[.sl (x.map mM)]
 | .sl_49,(x:List zb)=>[.sl (x.map QD)]
 | .sl_5,(x:List UInt8)=>[.sl (x.map (fun y=>[.at (.int .u8 y.toNat)]))]
 | .sl_66,(x:List zT)=>[.sl (x.map WL)]
 | .sl_9,(x:List Str)=>[.sl (x.map (fun y=>[.str y]))]
 | .st_VArr12_str,(x:QA)=>V5 x
 | .st_VDecl,(x:zT)=>WL x
 | .st_VToken,(x:ze)=>mM x
 | .st_VValue,(x:zb)=>QD x
 | .st_Vglue_start,(x:zu)=>tO x
 | .st_Vnest_found,(x:zw)=>H6 x
 | .st_Vtoken_scanner,(x:za)=>U6 x
 | .str,(x:Str)=>[.str x]
 | .other,_=>List.replicate n (.at (.slice none 0 0))
def eC(n:Nat):(c:TC)->Ct c->List (EV Cn)
 | .bool,(x:Bool)=>[.bool x]
 | .int_i32,(x:Int)=>[.int .i32 x]
 | .int_i64,(x:Int)=>[.int .i64 x]
 | .int_u32,(x:Int)=>[.int .u32 x]
 | .int_u64,(x:Int)=>[.int .u64 x]
 | .int_u8,(x:UInt8)=>[.int .u8 (x.toNat:Int)]
 | .sl_119,(x:List zu)=>[.sl 119 x]
 | .sl_23,(x:List (List zb))=>[.sl 23 x]
 | .sl_44,(x:List ze)=>[.sl 44 x]
 | .sl_49,(x:List zb)=>[.sl 49 x]
 | .sl_5,(x:List UInt8)=>[.sl 5 x]
 | .sl_66,(x:List zT)=>[.sl 66 x]
 | .sl_9,(x:List Str)=>[.sl 9 x]
 | .st_VArr12_str,(x:QA)=>[.str x.e0, .str x.e1, .str x.e2, .str x.e3, .str x.e4, .str x.e5, .str x.e6, .str x.e7, .str x.e8, .str x.e9, .str x.e10, .str x.e11]
 | .st_VDecl,(x:zT)=>[.str x.name, .sl 49 x.value, .bool x.important]
 | .st_VToken,(x:ze)=>[.int .u8 x.kind, .str x.text, .int .i64 x.num, .str x.unit, .bool x.flag]
 | .st_VValue,(x:zb)=>[.int .u8 x.token.kind, .str x.token.text, .int .i64 x.token.num, .str x.token.unit, .bool x.token.flag, .sl 49 x.list]
 | .st_Vglue_start,(x:zu)=>[.int .i64 x.token, .int .i64 x.at_]
 | .st_Vnest_found,(x:zw)=>[.int .i64 x.depth, .int .i64 x.tokens, .bool x.bad]
 | .st_Vtoken_scanner,(x:za)=>[.str x.s, .int .i64 x.at_]
 | .str,(x:Str)=>[.str x]
 | .other,_=>List.replicate n .nil
def oC:EV Cn->Option Int
 | .int .i32 n=>some n
 |_=>none
def Pi:EV Cn->Option Int
 | .int .i64 n=>some n
 |_=>none
def nC:EV Cn->Option Int
 | .int .u32 n=>some n
 |_=>none
def lC:EV Cn->Option Int
 | .int .u64 n=>some n
 |_=>none
def Sr:EV Cn->Option Int
 | .int .u8 n=>some n
 |_=>none
def Hl:EV Cn->Option Bool
 | .bool b=>some b
 |_=>none
def dStr:EV Cn->Option Str
 | .str l=>some l
 |_=>none
def Cz:EV Cn->Option (List UInt8)
 | .nil=>some []
 | .sl 5 l=>some l
 |_=>none
def Bz:EV Cn->Option (List Str)
 | .nil=>some []
 | .sl 9 l=>some l
 |_=>none
def YA:EV Cn->Option (List (List zb))
 | .nil=>some []
 | .sl 23 l=>some l
 |_=>none
def XA:EV Cn->Option (List ze)
 | .nil=>some []
 | .sl 44 l=>some l
 |_=>none
def gq:EV Cn->Option (List zb)
 | .nil=>some []
 | .sl 49 l=>some l
 |_=>none
def WA:EV Cn->Option (List zT)
 | .nil=>some []
 | .sl 66 l=>some l
 |_=>none
def wB:EV Cn->Option (List zu)
 | .nil=>some []
 | .sl 119 l=>some l
 |_=>none
def mC:(c:TC)->List (EV Cn)->Option (Ct c)
 | .bool=>fun cs=>match cs with|[a0]=>(Hl a0).bind fun x0=>some x0|_=>none
 | .int_i32=>fun cs=>match cs with|[a0]=>(oC a0).bind fun x0=>some x0|_=>none
 | .int_i64=>fun cs=>match cs with|[a0]=>(Pi a0).bind fun x0=>some x0|_=>none
 | .int_u32=>fun cs=>match cs with|[a0]=>(nC a0).bind fun x0=>some x0|_=>none
 | .int_u64=>fun cs=>match cs with|[a0]=>(lC a0).bind fun x0=>some x0|_=>none
 | .int_u8=>fun cs=>match cs with|[a0]=>(Sr a0).bind qf|_=>none
 | .sl_119=>fun cs=>match cs with|[a0]=>(wB a0).bind fun x0=>some x0|_=>none
 | .sl_23=>fun cs=>match cs with|[a0]=>(YA a0).bind fun x0=>some x0|_=>none
 | .sl_44=>fun cs=>match cs with|[a0]=>(XA a0).bind fun x0=>some x0|_=>none
 | .sl_49=>fun cs=>match cs with|[a0]=>(gq a0).bind fun x0=>some x0|_=>none
 | .sl_5=>fun cs=>match cs with|[a0]=>(Cz a0).bind fun x0=>some x0|_=>none
 | .sl_66=>fun cs=>match cs with|[a0]=>(WA a0).bind fun x0=>some x0|_=>none
 | .sl_9=>fun cs=>match cs with|[a0]=>(Bz a0).bind fun x0=>some x0|_=>none
 | .st_VArr12_str=>fun cs=>match cs with|[a0,a1,a2,a3,a4,a5,a6,a7,a8,a9,a10,a11]=>(dStr a0).bind fun x0=>(dStr a1).bind fun x1=>(dStr a2).bind fun x2=>(dStr a3).bind fun x3=>(dStr a4).bind fun x4=>(dStr a5).bind fun x5=>(dStr a6).bind fun x6=>(dStr a7).bind fun x7=>(dStr a8).bind fun x8=>(dStr a9).bind fun x9=>(dStr a10).bind fun x10=>(dStr a11).bind fun x11=>some (⟨x0,x1,x2,x3,x4,x5,x6,x7,x8,x9,x10,x11⟩:QA)|_=>none
 | .st_VDecl=>fun cs=>match cs with|[a0,a1,a2]=>(dStr a0).bind fun x0=>(gq a1).bind fun x1=>(Hl a2).bind fun x2=>some (⟨x0,x1,x2⟩:zT)|_=>none
 | .st_VToken=>fun cs=>match cs with|[a0,a1,a2,a3,a4]=>(Sr a0).bind fun x0=>(dStr a1).bind fun x1=>(Pi a2).bind fun x2=>(dStr a3).bind fun x3=>(Hl a4).bind fun x4=>some (⟨x0,x1,x2,x3,x4⟩:ze)|_=>none
 | .st_VValue=>fun cs=>match cs with|[a0,a1,a2,a3,a4,a5]=>(Sr a0).bind fun x0=>(dStr a1).bind fun x1=>(Pi a2).bind fun x2=>(dStr a3).bind fun x3=>(Hl a4).bind fun x4=>(gq a5).bind fun x5=>some (⟨(⟨x0,x1,x2,x3,x4⟩:ze),x5⟩:zb)|_=>none
 | .st_Vglue_start=>fun cs=>match cs with|[a0,a1]=>(Pi a0).bind fun x0=>(Pi a1).bind fun x1=>some (⟨x0,x1⟩:zu)|_=>none
 | .st_Vnest_found=>fun cs=>match cs with|[a0,a1,a2]=>(Pi a0).bind fun x0=>(Pi a1).bind fun x1=>(Hl a2).bind fun x2=>some (⟨x0,x1,x2⟩:zw)|_=>none
 | .st_Vtoken_scanner=>fun cs=>match cs with|[a0,a1]=>(dStr a0).bind fun x0=>(Pi a1).bind fun x1=>some (⟨x0,x1⟩:za)|_=>none
 | .str=>fun cs=>match cs with|[a0]=>(dStr a0).bind fun x0=>some x0|_=>none
 | .other=>fun _=>none
def bC:(c:TC)->Option ((List UInt8->List (Ct c))×(List (Ct c)->List UInt8))
 | .int_u8=>some (fun l=>l,fun l=>l)
 |_=>none
noncomputable def I:Ip:=⟨Cn,fun t=>dC (tc t),fun t=>eC (Tryz.prog.cellsOf t) (tc t),fun t=>mC (tc t),fun t=>fC (Tryz.prog.cellsOf t) (tc t),fun t=>bC (tc t)⟩
theorem GQ:(tab.all fun p=>Nat.beq (Tryz.prog.cellsOf p.1) (size p.2))=true:=by kernel_rfl
theorem yV(t:Nat)(h:tc t≠ .other):Tryz.prog.cellsOf t=size (tc t):=by
 unfold tc at h ⊢;cases hl:lk tab t with
 |none=>rw[hl]at h;exact absurd rfl h
 |some c=> simp only;exact Ra (Rb.1 GQ _ (Ag hl))
def Dec(a:EV Cn)(p:PV):Prop:=Ti (I:=I) a=true/\WkP (pvE I a) p
theorem decs{cs:List (EV Cn)}{ps:List PV}(h:All2 Dec cs ps):(∀v∈cs,Ti (I:=I) v=true)/\cs.length=ps.length/\ ∀(j:Nat) (a b:PV),(cs.map (pvE I))[j]? =some a->ps[j]? =some b->WkP a b:=by
 induction h with
 |nil=>exact⟨fun v hv=>(by cases hv),rfl,fun j a b ha=>(by cases ha)⟩
 |cons h1 _ ih=>
  refine⟨fun v hv=> ?_,congrArg Nat.succ ih.2.1,fun j a b ha hb=> ?_⟩
  ·rcases Kb.1 hv with rfl|hv
   ·exact h1.1
   ·exact ih.1 v hv
  ·cases j with
   |zero=>injection ha with ha;injection hb with hb;rw[<-ha,<-hb];exact h1.2
   |succ j=>exact ih.2.2 j a b ha hb
theorem xZ{a:EV Cn}{x:Int}(h:oC a=some x):Dec a (.at (.int .i32 x)):=by
 unfold oC at h;split at h
 ·cases h;exact⟨rfl, .refl _⟩
 ·cases h
theorem QO{a:EV Cn}{x:Int}(h:Pi a=some x):Dec a (.at (.int .i64 x)):=by
 unfold Pi at h;split at h
 ·cases h;exact⟨rfl, .refl _⟩
 ·cases h
theorem wZ{a:EV Cn}{x:Int}(h:nC a=some x):Dec a (.at (.int .u32 x)):=by
 unfold nC at h;split at h
 ·cases h;exact⟨rfl, .refl _⟩
 ·cases h
theorem vZ{a:EV Cn}{x:Int}(h:lC a=some x):Dec a (.at (.int .u64 x)):=by
 unfold lC at h;split at h
 ·cases h;exact⟨rfl, .refl _⟩
 ·cases h
theorem FE{a:EV Cn}{x:Int}(h:Sr a=some x):Dec a (.at (.int .u8 x)):=by
 unfold Sr at h;split at h
 ·cases h;exact⟨rfl, .refl _⟩
 ·cases h
theorem Ls{a:EV Cn}{x:Bool}(h:Hl a=some x):Dec a (.at (.bool x)):=by
 unfold Hl at h;split at h
 ·cases h;exact⟨rfl, .refl _⟩
 ·cases h
theorem Qn{a:EV Cn}{x:Str}(h:dStr a=some x):Dec a (.str x):=by
 unfold dStr at h;split at h
 ·cases h;exact⟨rfl, .refl _⟩
 ·cases h
theorem rV{a:EV Cn}{x:List UInt8}(h:Cz a=some x):Dec a (.sl (x.map (I.full 5))):=by
 unfold Cz at h;split at h
 ·cases h;exact⟨rfl, .nil⟩
 ·cases h;exact⟨rfl, .refl _⟩
 ·cases h
theorem pV{a:EV Cn}{x:List Str}(h:Bz a=some x):Dec a (.sl (x.map (I.full 9))):=by
 unfold Bz at h;split at h
 ·cases h;exact⟨rfl, .nil⟩
 ·cases h;exact⟨rfl, .refl _⟩
 ·cases h
theorem xX{a:EV Cn}{x:List (List zb)}(h:YA a=some x):Dec a (.sl (x.map (I.full 23))):=by
 unfold YA at h;split at h
 ·cases h;exact⟨rfl, .nil⟩
 ·cases h;exact⟨rfl, .refl _⟩
 ·cases h
theorem wX{a:EV Cn}{x:List ze}(h:XA a=some x):Dec a (.sl (x.map (I.full 44))):=by
 unfold XA at h;split at h
 ·cases h;exact⟨rfl, .nil⟩
 ·cases h;exact⟨rfl, .refl _⟩
 ·cases h
theorem YD{a:EV Cn}{x:List zb}(h:gq a=some x):Dec a (.sl (x.map (I.full 49))):=by
 unfold gq at h;split at h
 ·cases h;exact⟨rfl, .nil⟩
 ·cases h;exact⟨rfl, .refl _⟩
 ·cases h
theorem vX{a:EV Cn}{x:List zT}(h:WA a=some x):Dec a (.sl (x.map (I.full 66))):=by
 unfold WA at h;split at h
 ·cases h;exact⟨rfl, .nil⟩
 ·cases h;exact⟨rfl, .refl _⟩
 ·cases h
theorem PY{a:EV Cn}{x:List zu}(h:wB a=some x):Dec a (.sl (x.map (I.full 119))):=by
 unfold wB at h;split at h
 ·cases h;exact⟨rfl, .nil⟩
 ·cases h;exact⟨rfl, .refl _⟩
 ·cases h
theorem xS(n:Nat): ∀(c:TC) (cs:List (EV Cn)) (x:Ct c),mC c cs=some x->All2 Dec cs (fC n c x)
 | .bool,cs,x,h=>by
  simp only[mC]at h;split at h
  ·obtain⟨x0,h0,h⟩:=Ba.1 h;injection h with h;subst h;exact .cons (Ls h0) .nil
  ·cases h
 | .int_i32,cs,x,h=>by
  simp only[mC]at h;split at h
  ·obtain⟨x0,h0,h⟩:=Ba.1 h;injection h with h;subst h;exact .cons (xZ h0) .nil
  ·cases h
 | .int_i64,cs,x,h=>by
  simp only[mC]at h;split at h
  ·obtain⟨x0,h0,h⟩:=Ba.1 h;injection h with h;subst h;exact .cons (QO h0) .nil
  ·cases h
 | .int_u32,cs,x,h=>by
  simp only[mC]at h;split at h
  ·obtain⟨x0,h0,h⟩:=Ba.1 h;injection h with h;subst h;exact .cons (wZ h0) .nil
  ·cases h
 | .int_u64,cs,x,h=>by
  simp only[mC]at h;split at h
  ·obtain⟨x0,h0,h⟩:=Ba.1 h;injection h with h;subst h;exact .cons (vZ h0) .nil
  ·cases h
 | .int_u8,cs,x,h=>by
  simp only[mC]at h;split at h
  ·obtain⟨x0,h0,h⟩:=Ba.1 h;have:=aX h;subst this;exact .cons (FE h0) .nil
  ·cases h
 | .sl_119,cs,x,h=>by
  simp only[mC]at h;split at h
  ·obtain⟨x0,h0,h⟩:=Ba.1 h;injection h with h;subst h;exact .cons (PY h0) .nil
  ·cases h
 | .sl_23,cs,x,h=>by
  simp only[mC]at h;split at h
  ·obtain⟨x0,h0,h⟩:=Ba.1 h;injection h with h;subst h;exact .cons (xX h0) .nil
  ·cases h
 | .sl_44,cs,x,h=>by
  simp only[mC]at h;split at h
  ·obtain⟨x0,h0,h⟩:=Ba.1 h;injection h with h;subst h;exact .cons (wX h0) .nil
  ·cases h
 | .sl_49,cs,x,h=>by
  simp only[mC]at h;split at h
  ·obtain⟨x0,h0,h⟩:=Ba.1 h;injection h with h;subst h;exact .cons (YD h0) .nil
  ·cases h
 | .sl_5,cs,x,h=>by
  simp only[mC]at h;split at h
  ·obtain⟨x0,h0,h⟩:=Ba.1 h;injection h with h;subst h;exact .cons (rV h0) .nil
  ·cases h
 | .sl_66,cs,x,h=>by
  simp only[mC]at h;split at h
  ·obtain⟨x0,h0,h⟩:=Ba.1 h;injection h with h;subst h;exact .cons (vX h0) .nil
  ·cases h
 | .sl_9,cs,x,h=>by
  simp only[mC]at h;split at h
  ·obtain⟨x0,h0,h⟩:=Ba.1 h;injection h with h;subst h;exact .cons (pV h0) .nil
  ·cases h
 | .st_VArr12_str,cs,x,h=>by
  simp only[mC]at h;split at h
  ·obtain⟨x0,h0,h⟩:=Ba.1 h;obtain⟨x1,h1,h⟩:=Ba.1 h;obtain⟨x2,h2,h⟩:=Ba.1 h;obtain⟨x3,h3,h⟩:=Ba.1 h;obtain⟨x4,h4,h⟩:=Ba.1 h;obtain⟨x5,h5,h⟩:=Ba.1 h;obtain⟨x6,h6,h⟩:=Ba.1 h;obtain⟨x7,h7,h⟩:=Ba.1 h;obtain⟨x8,h8,h⟩:=Ba.1 h;obtain⟨x9,h9,h⟩:=Ba.1 h;obtain⟨x10,h10,h⟩:=Ba.1 h;obtain⟨x11,h11,h⟩:=Ba.1 h;injection h with h;subst h;exact .cons (Qn h0) (.cons (Qn h1) (.cons (Qn h2) (.cons (Qn h3) (.cons (Qn h4) (.cons (Qn h5) (.cons (Qn h6) (.cons (Qn h7) (.cons (Qn h8) (.cons (Qn h9) (.cons (Qn h10) (.cons (Qn h11) .nil)))))))))))
  ·cases h
 | .st_VDecl,cs,x,h=>by
  simp only[mC]at h;split at h
  ·obtain⟨x0,h0,h⟩:=Ba.1 h;obtain⟨x1,h1,h⟩:=Ba.1 h;obtain⟨x2,h2,h⟩:=Ba.1 h;injection h with h;subst h;exact .cons (Qn h0) (.cons (YD h1) (.cons (Ls h2) .nil))
  ·cases h
 | .st_VToken,cs,x,h=>by
  simp only[mC]at h;split at h
  ·obtain⟨x0,h0,h⟩:=Ba.1 h;obtain⟨x1,h1,h⟩:=Ba.1 h;obtain⟨x2,h2,h⟩:=Ba.1 h;obtain⟨x3,h3,h⟩:=Ba.1 h;obtain⟨x4,h4,h⟩:=Ba.1 h;injection h with h;subst h;exact .cons (FE h0) (.cons (Qn h1) (.cons (QO h2) (.cons (Qn h3) (.cons (Ls h4) .nil))))
  ·cases h
 | .st_VValue,cs,x,h=>by
  simp only[mC]at h;split at h
  ·obtain⟨x0,h0,h⟩:=Ba.1 h;obtain⟨x1,h1,h⟩:=Ba.1 h;obtain⟨x2,h2,h⟩:=Ba.1 h;obtain⟨x3,h3,h⟩:=Ba.1 h;obtain⟨x4,h4,h⟩:=Ba.1 h;obtain⟨x5,h5,h⟩:=Ba.1 h;injection h with h;subst h;show All2 Dec _ (QD _);simp only[QD,aF];exact .cons (FE h0) (.cons (Qn h1) (.cons (QO h2) (.cons (Qn h3) (.cons (Ls h4) (.cons (YD h5) .nil)))))
  ·cases h
 | .st_Vglue_start,cs,x,h=>by
  simp only[mC]at h;split at h
  ·obtain⟨x0,h0,h⟩:=Ba.1 h;obtain⟨x1,h1,h⟩:=Ba.1 h;injection h with h;subst h;exact .cons (QO h0) (.cons (QO h1) .nil)
  ·cases h
 | .st_Vnest_found,cs,x,h=>by
  simp only[mC]at h;split at h
  ·obtain⟨x0,h0,h⟩:=Ba.1 h;obtain⟨x1,h1,h⟩:=Ba.1 h;obtain⟨x2,h2,h⟩:=Ba.1 h;injection h with h;subst h;exact .cons (QO h0) (.cons (QO h1) (.cons (Ls h2) .nil))
  ·cases h
 | .st_Vtoken_scanner,cs,x,h=>by
  simp only[mC]at h;split at h
  ·obtain⟨x0,h0,h⟩:=Ba.1 h;obtain⟨x1,h1,h⟩:=Ba.1 h;injection h with h;subst h;exact .cons (Qn h0) (.cons (QO h1) .nil)
  ·cases h
 | .str,cs,x,h=>by
  simp only[mC]at h;split at h
  ·obtain⟨x0,h0,h⟩:=Ba.1 h;injection h with h;subst h;exact .cons (Qn h0) .nil
  ·cases h
 | .other,cs,x,h=>by cases h
theorem fe(n:Nat): ∀(c:TC) (x:Ct c),fC n c x=(eC n c x).map (pvE I)
 | .bool,x=>rfl
 | .int_i32,x=>rfl
 | .int_i64,x=>rfl
 | .int_u32,x=>rfl
 | .int_u64,x=>rfl
 | .int_u8,x=>rfl
 | .sl_119,x=>rfl
 | .sl_23,x=>rfl
 | .sl_44,x=>rfl
 | .sl_49,x=>rfl
 | .sl_5,x=>rfl
 | .sl_66,x=>rfl
 | .sl_9,x=>rfl
 | .st_VArr12_str,x=>rfl
 | .st_VDecl,x=>rfl
 | .st_VToken,x=>rfl
 | .st_VValue,(x:zb)=>by obtain⟨x_token,x_list⟩:=x;show QD _=_;simp only[QD,aF];rfl
 | .st_Vglue_start,x=>rfl
 | .st_Vnest_found,x=>rfl
 | .st_Vtoken_scanner,x=>rfl
 | .str,x=>rfl
 | .other,x=>by show List.replicate n (PV.at (Value.slice none 0 0))=(List.replicate n EV.nil).map (pvE I);rw[List.map_replicate];rfl
theorem xQ(n:Nat)(c:TC)(x:Ct c)(h:c≠ .other->n=size c):(eC n c x).length=n:=by
 cases c
 case other=>simp[eC]
 all_goals (rw[h (by simp)];rfl)
theorem NS(n:Nat): ∀(c:TC) (x:Ct c),(eC n c x).all (Ti (I:=I))=true
 | .bool,x=>rfl
 | .int_i32,x=>rfl
 | .int_i64,x=>rfl
 | .int_u32,x=>rfl
 | .int_u64,x=>rfl
 | .int_u8,x=>rfl
 | .sl_119,x=>rfl
 | .sl_23,x=>rfl
 | .sl_44,x=>rfl
 | .sl_49,x=>rfl
 | .sl_5,x=>rfl
 | .sl_66,x=>rfl
 | .sl_9,x=>rfl
 | .st_VArr12_str,x=>rfl
 | .st_VDecl,x=>rfl
 | .st_VToken,x=>rfl
 | .st_VValue,x=>rfl
 | .st_Vglue_start,x=>rfl
 | .st_Vnest_found,x=>rfl
 | .st_Vtoken_scanner,x=>rfl
 | .str,x=>rfl
 | .other,x=>by show(List.replicate n EV.nil).all (Ti (I:=I))=true;rw[Rb];intro v hv;rw[(List.mem_replicate.1 hv).2];rfl
theorem FQ:(tab.all fun p=>match p.2 with| .int_u8=>(match kdOf Tryz.prog p.1 with| .int .u8=>true|_=>false)|_=>true)=true:=by kernel_rfl
theorem WQ(t:Nat)(h:tc t= .int_u8):kdOf Tryz.prog t= .int .u8:=by
 unfold tc at h;cases hl:lk tab t with
 |none=>rw[hl]at h;cases h
 |some c=>
  rw[hl]at h;have h:c= .int_u8:=h;subst h;have:=Rb.1 FQ _ (Ag hl);simp only at this;split at this
  ·assumption
  ·cases this
theorem aT(n:Nat): ∀(c:TC) (p:(List UInt8->List (Ct c))×(List (Ct c)->List UInt8)),bC c=some p->(∀l,(p.1 l).map (fC n c)=l.map fun b=>[PV.at (.int .u8 b.toNat)])/\(∀l,l.map (fC n c)=(p.2 l).map fun b=>[PV.at (.int .u8 b.toNat)])/\c= .int_u8:=by
 intro c p h;cases c
 case int_u8=>cases h;exact⟨fun l=>rfl,fun l=>rfl,rfl⟩
 all_goals cases h
theorem DR(t:Nat)(p:(List UInt8->List (I.C t))×(List (I.C t)->List UInt8))(h:I.byt t=some p):(∀l,(p.1 l).map (I.full t)=l.map fun b=>[PV.at (.int .u8 b.toNat)])/\(∀l,l.map (I.full t)=(p.2 l).map fun b=>[PV.at (.int .u8 b.toNat)])/\kdOf Tryz.prog t= .int .u8:=by obtain⟨h1,h2,h3⟩:=aT (Tryz.prog.cellsOf t) (tc t) p h;exact⟨h1,h2,WQ t h3⟩
theorem ipOK:IpOK Tryz.prog I where
 len:=fun t x=>by show(fC _ _ x).length=_;exact(congrArg List.length (fe _ (tc t) x)).trans ((ja ..).trans (xQ _ (tc t) x (yV t)))
 exp:=fun t x=>fe _ _ x
 pur:=fun t x v hv=>Rb.1 (NS _ _ x) v hv
 made:=fun t cs x h=>decs (xS _ _ cs x h)
 byt:=DR
noncomputable def T:TT:=[(2,ti Tryz.prog 2),(3,ti Tryz.prog 3),(4,ti Tryz.prog 4),(5,ti Tryz.prog 5),(9,ti Tryz.prog 9),(21,ti Tryz.prog 21),(22,ti Tryz.prog 22),(23,ti Tryz.prog 23),(25,ti Tryz.prog 25),(42,ti Tryz.prog 42),(44,ti Tryz.prog 44),(49,ti Tryz.prog 49),(52,ti Tryz.prog 52),(66,ti Tryz.prog 66),(71,ti Tryz.prog 71),(101,ti Tryz.prog 101),(116,ti Tryz.prog 116),(119,ti Tryz.prog 119),(122,ti Tryz.prog 122),(131,ti Tryz.prog 131),(133,ti Tryz.prog 133),(149,ti Tryz.prog 149),(174,ti Tryz.prog 174),(185,ti Tryz.prog 185),(217,ti Tryz.prog 217)]
def FK:List (Nat×List Kd):=[(44,[.int .u8, .str, .int .i64, .str, .bool])]
theorem tok:TOK Tryz.prog T FK:=BA (l:=[2,3,4,5,9,21,22,23,25,42,44,49,52,66,71,101,116,119,122,131,133,149,174,185,217]) (by
 intro p hp;simp only[FK,Kb,List.not_mem_nil,or_false]at hp;rcases hp with rfl<;>kernel_rfl)
theorem mixed:Tryz.prog.follows .mixedOrders=true:=by kernel_rfl
noncomputable def body(f:Go.Func):Code:=match f.body with|some c=>c|none=> .skip
noncomputable def rsl(f:Go.Func):List ResultVar:=f.results.toList
end Go.Lv.VT
