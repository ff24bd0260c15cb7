/- What stands for the values of types. -/
import Derived.Test.YtbamonbfpghnhaaGreatDoorProg
import Derived.Test.YtbamonbfpghnhaaGreatDoorLf
import Derived.Test.YtbamonbfpghnhaaGreatDoorTy
import Derived.KernelRfl
set_option linter.unusedSimpArgs false
set_option linter.unusedVariables false
namespace Go.Lv.VT
set_option maxRecDepth 100000
open Go.Proofs
inductive TC where
 |bool|int_i32|int_i64|int_u32|int_u64|int_u8|sl_107|sl_33|sl_35|sl_49|sl_5|sl_51|sl_9|st_VArr12_str|st_VDecl|st_VToken|st_VValue|st_Vglue_start|st_Vnest_found|st_Vtoken_scanner|str|other
def Ct:TC->Type
 | .bool=>Bool| .int_i32=>Int| .int_i64=>Int| .int_u32=>Int| .int_u64=>Int| .int_u8=>UInt8| .sl_107=>List zu| .sl_33=>List (List zb)| .sl_35=>List zI| .sl_49=>List ze| .sl_5=>List UInt8| .sl_51=>List zb| .sl_9=>List Str| .st_VArr12_str=>QJ| .st_VDecl=>zI| .st_VToken=>ze| .st_VValue=>zb| .st_Vglue_start=>zu| .st_Vnest_found=>zw| .st_Vtoken_scanner=>za| .str=>Str| .other=>Unit
def tab:List (Nat×TC):=[(2, .int_i64),(3, .int_i64),(4, .bool),(5, .int_u8),(9, .str),(11, .str),(21, .int_i32),(22, .sl_35),(25, .int_i64),(28, .sl_9),(33, .sl_51),(35, .st_VDecl),(41, .sl_49),(49, .st_VToken),(51, .st_VValue),(57, .sl_5),(68, .sl_33),(91, .st_Vtoken_scanner),(102, .st_Vnest_found),(104, .sl_107),(107, .st_Vglue_start),(120, .int_u64),(122, .st_VArr12_str),(128, .int_u32),(149, .int_u64)]
def tc(t:Nat):TC:=match lk tab t with|some c=>c|none=> .other
def Cn(t:Nat):Type:=Ct (tc t)
def dC:(c:TC)->Ct c
 | .bool=>(default:Bool)| .int_i32=>(default:Int)| .int_i64=>(default:Int)| .int_u32=>(default:Int)| .int_u64=>(default:Int)| .int_u8=>(default:UInt8)| .sl_107=>(default:List zu)| .sl_33=>(default:List (List zb))| .sl_35=>(default:List zI)| .sl_49=>(default:List ze)| .sl_5=>(default:List UInt8)| .sl_51=>(default:List zb)| .sl_9=>(default:List Str)| .st_VArr12_str=>(default:QJ)| .st_VDecl=>(default:zI)| .st_VToken=>(default:ze)| .st_VValue=>(default:zb)| .st_Vglue_start=>(default:zu)| .st_Vnest_found=>(default:zw)| .st_Vtoken_scanner=>(default:za)| .str=>(default:Str)| .other=>()
def size:TC->Nat
 | .st_VArr12_str=>12| .st_VDecl=>3| .st_VToken=>5| .st_VValue=>6| .st_Vglue_start=>2| .st_Vnest_found=>3| .st_Vtoken_scanner=>2|_=>1
def X8(x:QJ):List PV:=[.str x.e0, .str x.e1, .str x.e2, .str x.e3, .str x.e4, .str x.e5, .str x.e6, .str x.e7, .str x.e8, .str x.e9, .str x.e10, .str x.e11]
def WO(x:ze):List PV:=[.at (.int .u8 x.kind), .str x.text, .at (.int .i64 x.num), .str x.unit, .at (.bool x.flag)]
mutual
def Zl:zb->List PV
 |⟨x_token,x_list⟩=>[.at (.int .u8 x_token.kind), .str x_token.text, .at (.int .i64 x_token.num), .str x_token.unit, .at (.bool x_token.flag), .sl (Wv x_list)]
def Wv:List zb->List (List PV)
 |[]=>[]
 |v::r=>Zl v::Wv r
end
theorem yA: ∀(l:List zb),Wv l=l.map Zl
 |[]=>by rw[Wv];rfl
 |v::r=>by rw[Wv,yA r];rfl
def Qa(x:zI):List PV:=[.str x.name, .sl (x.value.map Zl), .at (.bool x.important)]
def yQ(x:zu):List PV:=[.at (.int .i64 x.token), .at (.int .i64 x.at_)]
def K9(x:zw):List PV:=[.at (.int .i64 x.depth), .at (.int .i64 x.tokens), .at (.bool x.bad)]
def X9(x:za):List PV:=[.str x.s, .at (.int .i64 x.at_)]
theorem KQ(x_token:ze)(x_list:List zb):Zl ⟨x_token,x_list⟩=[.at (.int .u8 x_token.kind), .str x_token.text, .at (.int .i64 x_token.num), .str x_token.unit, .at (.bool x_token.flag), .sl (x_list.map Zl)]:=by simp only[Zl,yA]
theorem V8(x:zb):Zl x=[.at (.int .u8 x.token.kind), .str x.token.text, .at (.int .i64 x.token.num), .str x.token.unit, .at (.bool x.token.flag), .sl (x.list.map Zl)]:=by cases x;exact KQ ..
def fC(n:Nat):(c:TC)->Ct c->List PV
 | .bool,(x:Bool)=>[.at (.bool x)]
 | .int_i32,(x:Int)=>[.at (.int .i32 x)]
 | .int_i64,(x:Int)=>[.at (.int .i64 x)]
 | .int_u32,(x:Int)=>[.at (.int .u32 x)]
 | .int_u64,(x:Int)=>[.at (.int .u64 x)]
 | .int_u8,(x:UInt8)=>[.at (.int .u8 x.toNat)]
 | .sl_107,(x:List zu)=>[.sl (x.map yQ)]
 | .sl_33,(x:List (List zb))=>[.sl (x.map (fun y=>[.sl (y.map Zl)]))]
 | .sl_35,(x:List zI)=>[.sl (x.map Qa)]
 | .sl_49,(x:List ze)=>[.sl (x.map WO)]
 | .sl_5,(x:List UInt8)=>[.sl (x.map (fun y=>[.at (.int .u8 y.toNat)]))]
 | .sl_51,(x:List zb)=>[.sl (x.map Zl)]
 | .sl_9,(x:List Str)=>[.sl (x.map (fun y=>[.str y]))]
 | .st_VArr12_str,(x:QJ)=>X8 x
 | .st_VDecl,(x:zI)=>Qa x
 | .st_VToken,(x:ze)=>WO x
 | .st_VValue,(x:zb)=>Zl x
 | .st_Vglue_start,(x:zu)=>yQ x
 | .st_Vnest_found,(x:zw)=>K9 x
 | .st_Vtoken_scanner,(x:za)=>X9 x
 | .str,(x:Str)=>[.str x]
 | .other,_=>List.replicate n (.at (.slice none 0 0))
def eC(n:Nat):(c:TC)->Ct c->List (EV Cn)
 | .bool,(x:Bool)=>[.bool x]
 | .int_i32,(x:Int)=>[.int .i32 x]
 | .int_i64,(x:Int)=>[.int .i64 x]
 | .int_u32,(x:Int)=>[.int .u32 x]
 | .int_u64,(x:Int)=>[.int .u64 x]
 | .int_u8,(x:UInt8)=>[.int .u8 (x.toNat:Int)]
 | .sl_107,(x:List zu)=>[.sl 107 x]
 | .sl_33,(x:List (List zb))=>[.sl 33 x]
 | .sl_35,(x:List zI)=>[.sl 35 x]
 | .sl_49,(x:List ze)=>[.sl 49 x]
 | .sl_5,(x:List UInt8)=>[.sl 5 x]
 | .sl_51,(x:List zb)=>[.sl 51 x]
 | .sl_9,(x:List Str)=>[.sl 9 x]
 | .st_VArr12_str,(x:QJ)=>[.str x.e0, .str x.e1, .str x.e2, .str x.e3, .str x.e4, .str x.e5, .str x.e6, .str x.e7, .str x.e8, .str x.e9, .str x.e10, .str x.e11]
 | .st_VDecl,(x:zI)=>[.str x.name, .sl 51 x.value, .bool x.important]
 | .st_VToken,(x:ze)=>[.int .u8 x.kind, .str x.text, .int .i64 x.num, .str x.unit, .bool x.flag]
 | .st_VValue,(x:zb)=>[.int .u8 x.token.kind, .str x.token.text, .int .i64 x.token.num, .str x.token.unit, .bool x.token.flag, .sl 51 x.list]
 | .st_Vglue_start,(x:zu)=>[.int .i64 x.token, .int .i64 x.at_]
 | .st_Vnest_found,(x:zw)=>[.int .i64 x.depth, .int .i64 x.tokens, .bool x.bad]
 | .st_Vtoken_scanner,(x:za)=>[.str x.s, .int .i64 x.at_]
 | .str,(x:Str)=>[.str x]
 | .other,_=>List.replicate n .nil
def rE:EV Cn->Option Int
 | .int .i32 n=>some n
 |_=>none
def Cj:EV Cn->Option Int
 | .int .i64 n=>some n
 |_=>none
def VE:EV Cn->Option Int
 | .int .u32 n=>some n
 |_=>none
def UE:EV Cn->Option Int
 | .int .u64 n=>some n
 |_=>none
def Wu:EV Cn->Option Int
 | .int .u8 n=>some n
 |_=>none
def Pm:EV Cn->Option Bool
 | .bool b=>some b
 |_=>none
def dStr:EV Cn->Option Str
 | .str l=>some l
 |_=>none
def OB:EV Cn->Option (List UInt8)
 | .nil=>some []
 | .sl 5 l=>some l
 |_=>none
def NB:EV Cn->Option (List Str)
 | .nil=>some []
 | .sl 9 l=>some l
 |_=>none
def NC:EV Cn->Option (List (List zb))
 | .nil=>some []
 | .sl 33 l=>some l
 |_=>none
def MC:EV Cn->Option (List zI)
 | .nil=>some []
 | .sl 35 l=>some l
 |_=>none
def LC:EV Cn->Option (List ze)
 | .nil=>some []
 | .sl 49 l=>some l
 |_=>none
def Au:EV Cn->Option (List zb)
 | .nil=>some []
 | .sl 51 l=>some l
 |_=>none
def eD:EV Cn->Option (List zu)
 | .nil=>some []
 | .sl 107 l=>some l
 |_=>none
def mC:(c:TC)->List (EV Cn)->Option (Ct c)
 | .bool=>fun cs=>match cs with|[a0]=>(Pm a0).bind fun x0=>some x0|_=>none
 | .int_i32=>fun cs=>match cs with|[a0]=>(rE a0).bind fun x0=>some x0|_=>none
 | .int_i64=>fun cs=>match cs with|[a0]=>(Cj a0).bind fun x0=>some x0|_=>none
 | .int_u32=>fun cs=>match cs with|[a0]=>(VE a0).bind fun x0=>some x0|_=>none
 | .int_u64=>fun cs=>match cs with|[a0]=>(UE a0).bind fun x0=>some x0|_=>none
 | .int_u8=>fun cs=>match cs with|[a0]=>(Wu a0).bind ql|_=>none
 | .sl_107=>fun cs=>match cs with|[a0]=>(eD a0).bind fun x0=>some x0|_=>none
 | .sl_33=>fun cs=>match cs with|[a0]=>(NC a0).bind fun x0=>some x0|_=>none
 | .sl_35=>fun cs=>match cs with|[a0]=>(MC a0).bind fun x0=>some x0|_=>none
 | .sl_49=>fun cs=>match cs with|[a0]=>(LC a0).bind fun x0=>some x0|_=>none
 | .sl_5=>fun cs=>match cs with|[a0]=>(OB a0).bind fun x0=>some x0|_=>none
 | .sl_51=>fun cs=>match cs with|[a0]=>(Au a0).bind fun x0=>some x0|_=>none
 | .sl_9=>fun cs=>match cs with|[a0]=>(NB a0).bind fun x0=>some x0|_=>none
 | .st_VArr12_str=>fun cs=>match cs with|[a0,a1,a2,a3,a4,a5,a6,a7,a8,a9,a10,a11]=>(dStr a0).bind fun x0=>(dStr a1).bind fun x1=>(dStr a2).bind fun x2=>(dStr a3).bind fun x3=>(dStr a4).bind fun x4=>(dStr a5).bind fun x5=>(dStr a6).bind fun x6=>(dStr a7).bind fun x7=>(dStr a8).bind fun x8=>(dStr a9).bind fun x9=>(dStr a10).bind fun x10=>(dStr a11).bind fun x11=>some (⟨x0,x1,x2,x3,x4,x5,x6,x7,x8,x9,x10,x11⟩:QJ)|_=>none
 | .st_VDecl=>fun cs=>match cs with|[a0,a1,a2]=>(dStr a0).bind fun x0=>(Au a1).bind fun x1=>(Pm a2).bind fun x2=>some (⟨x0,x1,x2⟩:zI)|_=>none
 | .st_VToken=>fun cs=>match cs with|[a0,a1,a2,a3,a4]=>(Wu a0).bind fun x0=>(dStr a1).bind fun x1=>(Cj a2).bind fun x2=>(dStr a3).bind fun x3=>(Pm a4).bind fun x4=>some (⟨x0,x1,x2,x3,x4⟩:ze)|_=>none
 | .st_VValue=>fun cs=>match cs with|[a0,a1,a2,a3,a4,a5]=>(Wu a0).bind fun x0=>(dStr a1).bind fun x1=>(Cj a2).bind fun x2=>(dStr a3).bind fun x3=>(Pm a4).bind fun x4=>(Au a5).bind fun x5=>some (⟨(⟨x0,x1,x2,x3,x4⟩:ze),x5⟩:zb)|_=>none
 | .st_Vglue_start=>fun cs=>match cs with|[a0,a1]=>(Cj a0).bind fun x0=>(Cj a1).bind fun x1=>some (⟨x0,x1⟩:zu)|_=>none
 | .st_Vnest_found=>fun cs=>match cs with|[a0,a1,a2]=>(Cj a0).bind fun x0=>(Cj a1).bind fun x1=>(Pm a2).bind fun x2=>some (⟨x0,x1,x2⟩:zw)|_=>none
 | .st_Vtoken_scanner=>fun cs=>match cs with|[a0,a1]=>(dStr a0).bind fun x0=>(Cj a1).bind fun x1=>some (⟨x0,x1⟩:za)|_=>none
 | .str=>fun cs=>match cs with|[a0]=>(dStr a0).bind fun x0=>some x0|_=>none
 | .other=>fun _=>none
def bC:(c:TC)->Option ((List UInt8->List (Ct c))×(List (Ct c)->List UInt8))
 | .int_u8=>some (fun l=>l,fun l=>l)
 |_=>none
noncomputable def I:Ip:=⟨Cn,fun t=>dC (tc t),fun t=>eC (Tryz.prog.cellsOf t) (tc t),fun t=>mC (tc t),fun t=>fC (Tryz.prog.cellsOf t) (tc t),fun t=>bC (tc t)⟩
theorem zCy:(tab.all fun p=>Nat.beq (Tryz.prog.cellsOf p.1) (size p.2))=true:=by kernel_rfl
theorem CX(t:Nat)(h:tc t≠ .other):Tryz.prog.cellsOf t=size (tc t):=by
 unfold tc at h ⊢;cases hl:lk tab t with
 |none=>rw[hl]at h;exact absurd rfl h
 |some c=> simp only;exact Ta (Pb.1 zCy _ (Pg hl))
def Dec(a:EV Cn)(p:PV):Prop:=bi (I:=I) a=true/\WkP (pvE I a) p
theorem decs{cs:List (EV Cn)}{ps:List PV}(h:All2 Dec cs ps):(∀v∈cs,bi (I:=I) v=true)/\cs.length=ps.length/\ ∀(j:Nat) (a b:PV),(cs.map (pvE I))[j]? =some a->ps[j]? =some b->WkP a b:=by
 induction h with
 |nil=>exact⟨fun v hv=>(by cases hv),rfl,fun j a b ha=>(by cases ha)⟩
 |cons h1 _ ih=>
  refine⟨fun v hv=> ?_,congrArg Nat.succ ih.2.1,fun j a b ha hb=> ?_⟩
  ·rcases Ab.1 hv with rfl|hv
   ·exact h1.1
   ·exact ih.1 v hv
  ·cases j with
   |zero=>injection ha with ha;injection hb with hb;rw[<-ha,<-hb];exact h1.2
   |succ j=>exact ih.2.2 j a b ha hb
theorem X4{a:EV Cn}{x:Int}(h:rE a=some x):Dec a (.at (.int .i32 x)):=by
 unfold rE at h;split at h
 ·cases h;exact⟨rfl, .refl _⟩
 ·cases h
theorem Q0{a:EV Cn}{x:Int}(h:Cj a=some x):Dec a (.at (.int .i64 x)):=by
 unfold Cj at h;split at h
 ·cases h;exact⟨rfl, .refl _⟩
 ·cases h
theorem V4{a:EV Cn}{x:Int}(h:VE a=some x):Dec a (.at (.int .u32 x)):=by
 unfold VE at h;split at h
 ·cases h;exact⟨rfl, .refl _⟩
 ·cases h
theorem U4{a:EV Cn}{x:Int}(h:UE a=some x):Dec a (.at (.int .u64 x)):=by
 unfold UE at h;split at h
 ·cases h;exact⟨rfl, .refl _⟩
 ·cases h
theorem yF{a:EV Cn}{x:Int}(h:Wu a=some x):Dec a (.at (.int .u8 x)):=by
 unfold Wu at h;split at h
 ·cases h;exact⟨rfl, .refl _⟩
 ·cases h
theorem nu{a:EV Cn}{x:Bool}(h:Pm a=some x):Dec a (.at (.bool x)):=by
 unfold Pm at h;split at h
 ·cases h;exact⟨rfl, .refl _⟩
 ·cases h
theorem Qw{a:EV Cn}{x:Str}(h:dStr a=some x):Dec a (.str x):=by
 unfold dStr at h;split at h
 ·cases h;exact⟨rfl, .refl _⟩
 ·cases h
theorem rW{a:EV Cn}{x:List UInt8}(h:OB a=some x):Dec a (.sl (x.map (I.full 5))):=by
 unfold OB at h;split at h
 ·cases h;exact⟨rfl, .nil⟩
 ·cases h;exact⟨rfl, .refl _⟩
 ·cases h
theorem pW{a:EV Cn}{x:List Str}(h:NB a=some x):Dec a (.sl (x.map (I.full 9))):=by
 unfold NB at h;split at h
 ·cases h;exact⟨rfl, .nil⟩
 ·cases h;exact⟨rfl, .refl _⟩
 ·cases h
theorem BZ{a:EV Cn}{x:List (List zb)}(h:NC a=some x):Dec a (.sl (x.map (I.full 33))):=by
 unfold NC at h;split at h
 ·cases h;exact⟨rfl, .nil⟩
 ·cases h;exact⟨rfl, .refl _⟩
 ·cases h
theorem AZ{a:EV Cn}{x:List zI}(h:MC a=some x):Dec a (.sl (x.map (I.full 35))):=by
 unfold MC at h;split at h
 ·cases h;exact⟨rfl, .nil⟩
 ·cases h;exact⟨rfl, .refl _⟩
 ·cases h
theorem yY{a:EV Cn}{x:List ze}(h:LC a=some x):Dec a (.sl (x.map (I.full 49))):=by
 unfold LC at h;split at h
 ·cases h;exact⟨rfl, .nil⟩
 ·cases h;exact⟨rfl, .refl _⟩
 ·cases h
theorem eF{a:EV Cn}{x:List zb}(h:Au a=some x):Dec a (.sl (x.map (I.full 51))):=by
 unfold Au at h;split at h
 ·cases h;exact⟨rfl, .nil⟩
 ·cases h;exact⟨rfl, .refl _⟩
 ·cases h
theorem YZ{a:EV Cn}{x:List zu}(h:eD a=some x):Dec a (.sl (x.map (I.full 107))):=by
 unfold eD at h;split at h
 ·cases h;exact⟨rfl, .nil⟩
 ·cases h;exact⟨rfl, .refl _⟩
 ·cases h
theorem YU(n:Nat): ∀(c:TC) (cs:List (EV Cn)) (x:Ct c),mC c cs=some x->All2 Dec cs (fC n c x)
 | .bool,cs,x,h=>by
  simp only[mC]at h;split at h
  ·obtain⟨x0,h0,h⟩:=Ba.1 h;injection h with h;subst h;exact .cons (nu h0) .nil
  ·cases h
 | .int_i32,cs,x,h=>by
  simp only[mC]at h;split at h
  ·obtain⟨x0,h0,h⟩:=Ba.1 h;injection h with h;subst h;exact .cons (X4 h0) .nil
  ·cases h
 | .int_i64,cs,x,h=>by
  simp only[mC]at h;split at h
  ·obtain⟨x0,h0,h⟩:=Ba.1 h;injection h with h;subst h;exact .cons (Q0 h0) .nil
  ·cases h
 | .int_u32,cs,x,h=>by
  simp only[mC]at h;split at h
  ·obtain⟨x0,h0,h⟩:=Ba.1 h;injection h with h;subst h;exact .cons (V4 h0) .nil
  ·cases h
 | .int_u64,cs,x,h=>by
  simp only[mC]at h;split at h
  ·obtain⟨x0,h0,h⟩:=Ba.1 h;injection h with h;subst h;exact .cons (U4 h0) .nil
  ·cases h
 | .int_u8,cs,x,h=>by
  simp only[mC]at h;split at h
  ·obtain⟨x0,h0,h⟩:=Ba.1 h;have:=eY h;subst this;exact .cons (yF h0) .nil
  ·cases h
 | .sl_107,cs,x,h=>by
  simp only[mC]at h;split at h
  ·obtain⟨x0,h0,h⟩:=Ba.1 h;injection h with h;subst h;exact .cons (YZ h0) .nil
  ·cases h
 | .sl_33,cs,x,h=>by
  simp only[mC]at h;split at h
  ·obtain⟨x0,h0,h⟩:=Ba.1 h;injection h with h;subst h;exact .cons (BZ h0) .nil
  ·cases h
 | .sl_35,cs,x,h=>by
  simp only[mC]at h;split at h
  ·obtain⟨x0,h0,h⟩:=Ba.1 h;injection h with h;subst h;exact .cons (AZ h0) .nil
  ·cases h
 | .sl_49,cs,x,h=>by
  simp only[mC]at h;split at h
  ·obtain⟨x0,h0,h⟩:=Ba.1 h;injection h with h;subst h;exact .cons (yY h0) .nil
  ·cases h
 | .sl_5,cs,x,h=>by
  simp only[mC]at h;split at h
  ·obtain⟨x0,h0,h⟩:=Ba.1 h;injection h with h;subst h;exact .cons (rW h0) .nil
  ·cases h
 | .sl_51,cs,x,h=>by
  simp only[mC]at h;split at h
  ·obtain⟨x0,h0,h⟩:=Ba.1 h;injection h with h;subst h;exact .cons (eF h0) .nil
  ·cases h
 | .sl_9,cs,x,h=>by
  simp only[mC]at h;split at h
  ·obtain⟨x0,h0,h⟩:=Ba.1 h;injection h with h;subst h;exact .cons (pW h0) .nil
  ·cases h
 | .st_VArr12_str,cs,x,h=>by
  simp only[mC]at h;split at h
  ·obtain⟨x0,h0,h⟩:=Ba.1 h;obtain⟨x1,h1,h⟩:=Ba.1 h;obtain⟨x2,h2,h⟩:=Ba.1 h;obtain⟨x3,h3,h⟩:=Ba.1 h;obtain⟨x4,h4,h⟩:=Ba.1 h;obtain⟨x5,h5,h⟩:=Ba.1 h;obtain⟨x6,h6,h⟩:=Ba.1 h;obtain⟨x7,h7,h⟩:=Ba.1 h;obtain⟨x8,h8,h⟩:=Ba.1 h;obtain⟨x9,h9,h⟩:=Ba.1 h;obtain⟨x10,h10,h⟩:=Ba.1 h;obtain⟨x11,h11,h⟩:=Ba.1 h;injection h with h;subst h;exact .cons (Qw h0) (.cons (Qw h1) (.cons (Qw h2) (.cons (Qw h3) (.cons (Qw h4) (.cons (Qw h5) (.cons (Qw h6) (.cons (Qw h7) (.cons (Qw h8) (.cons (Qw h9) (.cons (Qw h10) (.cons (Qw h11) .nil)))))))))))
  ·cases h
 | .st_VDecl,cs,x,h=>by
  simp only[mC]at h;split at h
  ·obtain⟨x0,h0,h⟩:=Ba.1 h;obtain⟨x1,h1,h⟩:=Ba.1 h;obtain⟨x2,h2,h⟩:=Ba.1 h;injection h with h;subst h;exact .cons (Qw h0) (.cons (eF h1) (.cons (nu h2) .nil))
  ·cases h
 | .st_VToken,cs,x,h=>by
  simp only[mC]at h;split at h
  ·obtain⟨x0,h0,h⟩:=Ba.1 h;obtain⟨x1,h1,h⟩:=Ba.1 h;obtain⟨x2,h2,h⟩:=Ba.1 h;obtain⟨x3,h3,h⟩:=Ba.1 h;obtain⟨x4,h4,h⟩:=Ba.1 h;injection h with h;subst h;exact .cons (yF h0) (.cons (Qw h1) (.cons (Q0 h2) (.cons (Qw h3) (.cons (nu h4) .nil))))
  ·cases h
 | .st_VValue,cs,x,h=>by
  simp only[mC]at h;split at h
  ·obtain⟨x0,h0,h⟩:=Ba.1 h;obtain⟨x1,h1,h⟩:=Ba.1 h;obtain⟨x2,h2,h⟩:=Ba.1 h;obtain⟨x3,h3,h⟩:=Ba.1 h;obtain⟨x4,h4,h⟩:=Ba.1 h;obtain⟨x5,h5,h⟩:=Ba.1 h;injection h with h;subst h;show All2 Dec _ (Zl _);simp only[Zl,yA];exact .cons (yF h0) (.cons (Qw h1) (.cons (Q0 h2) (.cons (Qw h3) (.cons (nu h4) (.cons (eF h5) .nil)))))
  ·cases h
 | .st_Vglue_start,cs,x,h=>by
  simp only[mC]at h;split at h
  ·obtain⟨x0,h0,h⟩:=Ba.1 h;obtain⟨x1,h1,h⟩:=Ba.1 h;injection h with h;subst h;exact .cons (Q0 h0) (.cons (Q0 h1) .nil)
  ·cases h
 | .st_Vnest_found,cs,x,h=>by
  simp only[mC]at h;split at h
  ·obtain⟨x0,h0,h⟩:=Ba.1 h;obtain⟨x1,h1,h⟩:=Ba.1 h;obtain⟨x2,h2,h⟩:=Ba.1 h;injection h with h;subst h;exact .cons (Q0 h0) (.cons (Q0 h1) (.cons (nu h2) .nil))
  ·cases h
 | .st_Vtoken_scanner,cs,x,h=>by
  simp only[mC]at h;split at h
  ·obtain⟨x0,h0,h⟩:=Ba.1 h;obtain⟨x1,h1,h⟩:=Ba.1 h;injection h with h;subst h;exact .cons (Qw h0) (.cons (Q0 h1) .nil)
  ·cases h
 | .str,cs,x,h=>by
  simp only[mC]at h;split at h
  ·obtain⟨x0,h0,h⟩:=Ba.1 h;injection h with h;subst h;exact .cons (Qw h0) .nil
  ·cases h
 | .other,cs,x,h=>by cases h
theorem fe(n:Nat): ∀(c:TC) (x:Ct c),fC n c x=(eC n c x).map (pvE I)
 | .bool,x=>rfl
 | .int_i32,x=>rfl
 | .int_i64,x=>rfl
 | .int_u32,x=>rfl
 | .int_u64,x=>rfl
 | .int_u8,x=>rfl
 | .sl_107,x=>rfl
 | .sl_33,x=>rfl
 | .sl_35,x=>rfl
 | .sl_49,x=>rfl
 | .sl_5,x=>rfl
 | .sl_51,x=>rfl
 | .sl_9,x=>rfl
 | .st_VArr12_str,x=>rfl
 | .st_VDecl,x=>rfl
 | .st_VToken,x=>rfl
 | .st_VValue,(x:zb)=>by obtain⟨x_token,x_list⟩:=x;show Zl _=_;simp only[Zl,yA];rfl
 | .st_Vglue_start,x=>rfl
 | .st_Vnest_found,x=>rfl
 | .st_Vtoken_scanner,x=>rfl
 | .str,x=>rfl
 | .other,x=>by show List.replicate n (PV.at (Value.slice none 0 0))=(List.replicate n EV.nil).map (pvE I);rw[List.map_replicate];rfl
theorem zBq(n:Nat)(c:TC)(x:Ct c)(h:c≠ .other->n=size c):(eC n c x).length=n:=by
 cases c
 case other=>simp[eC]
 all_goals (rw[h (by simp)];rfl)
theorem LU(n:Nat): ∀(c:TC) (x:Ct c),(eC n c x).all (bi (I:=I))=true
 | .bool,x=>rfl
 | .int_i32,x=>rfl
 | .int_i64,x=>rfl
 | .int_u32,x=>rfl
 | .int_u64,x=>rfl
 | .int_u8,x=>rfl
 | .sl_107,x=>rfl
 | .sl_33,x=>rfl
 | .sl_35,x=>rfl
 | .sl_49,x=>rfl
 | .sl_5,x=>rfl
 | .sl_51,x=>rfl
 | .sl_9,x=>rfl
 | .st_VArr12_str,x=>rfl
 | .st_VDecl,x=>rfl
 | .st_VToken,x=>rfl
 | .st_VValue,x=>rfl
 | .st_Vglue_start,x=>rfl
 | .st_Vnest_found,x=>rfl
 | .st_Vtoken_scanner,x=>rfl
 | .str,x=>rfl
 | .other,x=>by show(List.replicate n EV.nil).all (bi (I:=I))=true;rw[Pb];intro v hv;rw[(List.mem_replicate.1 hv).2];rfl
theorem zCz:(tab.all fun p=>match p.2 with| .int_u8=>(match kdOf Tryz.prog p.1 with| .int .u8=>true|_=>false)|_=>true)=true:=by kernel_rfl
theorem zCO(t:Nat)(h:tc t= .int_u8):kdOf Tryz.prog t= .int .u8:=by
 unfold tc at h;cases hl:lk tab t with
 |none=>rw[hl]at h;cases h
 |some c=>
  rw[hl]at h;have h:c= .int_u8:=h;subst h;have:=Pb.1 zCz _ (Pg hl);simp only at this;split at this
  ·assumption
  ·cases this
theorem bT(n:Nat): ∀(c:TC) (p:(List UInt8->List (Ct c))×(List (Ct c)->List UInt8)),bC c=some p->(∀l,(p.1 l).map (fC n c)=l.map fun b=>[PV.at (.int .u8 b.toNat)])/\(∀l,l.map (fC n c)=(p.2 l).map fun b=>[PV.at (.int .u8 b.toNat)])/\c= .int_u8:=by
 intro c p h;cases c
 case int_u8=>cases h;exact⟨fun l=>rfl,fun l=>rfl,rfl⟩
 all_goals cases h
theorem zBk(t:Nat)(p:(List UInt8->List (I.C t))×(List (I.C t)->List UInt8))(h:I.byt t=some p):(∀l,(p.1 l).map (I.full t)=l.map fun b=>[PV.at (.int .u8 b.toNat)])/\(∀l,l.map (I.full t)=(p.2 l).map fun b=>[PV.at (.int .u8 b.toNat)])/\kdOf Tryz.prog t= .int .u8:=by obtain⟨h1,h2,h3⟩:=bT (Tryz.prog.cellsOf t) (tc t) p h;exact⟨h1,h2,zCO t h3⟩
theorem ipOK:IpOK Tryz.prog I where
 len:=fun t x=>by show(fC _ _ x).length=_;exact(congrArg List.length (fe _ (tc t) x)).trans ((Kb ..).trans (zBq _ (tc t) x (CX t)))
 exp:=fun t x=>fe _ _ x
 pur:=fun t x v hv=>Pb.1 (LU _ _ x) v hv
 made:=fun t cs x h=>decs (YU _ _ cs x h)
 byt:=zBk
noncomputable def T:TT:=[(2,ti Tryz.prog 2),(3,ti Tryz.prog 3),(4,ti Tryz.prog 4),(5,ti Tryz.prog 5),(9,ti Tryz.prog 9),(11,ti Tryz.prog 11),(21,ti Tryz.prog 21),(22,ti Tryz.prog 22),(25,ti Tryz.prog 25),(28,ti Tryz.prog 28),(33,ti Tryz.prog 33),(35,ti Tryz.prog 35),(41,ti Tryz.prog 41),(49,ti Tryz.prog 49),(51,ti Tryz.prog 51),(57,ti Tryz.prog 57),(68,ti Tryz.prog 68),(89,ti Tryz.prog 89),(91,ti Tryz.prog 91),(102,ti Tryz.prog 102),(104,ti Tryz.prog 104),(107,ti Tryz.prog 107),(120,ti Tryz.prog 120),(122,ti Tryz.prog 122),(128,ti Tryz.prog 128),(149,ti Tryz.prog 149)]
def FK:List (Nat×List Kd):=[(49,[.int .u8, .str, .int .i64, .str, .bool])]
theorem tok:TOK Tryz.prog T FK:=UB (l:=[2,3,4,5,9,11,21,22,25,28,33,35,41,49,51,57,68,89,91,102,104,107,120,122,128,149]) (by
 intro p hp;simp only[FK,Ab,Jd,Lf]at hp;rcases hp with rfl<;>kernel_rfl)
theorem mixed:Tryz.prog.follows .mixedOrders=true:=by kernel_rfl
noncomputable def body(f:Go.Func):Code:=match f.body with|some c=>c|none=> .skip
noncomputable def rsl(f:Go.Func):List ResultVar:=f.results.toList
end Go.Lv.VT
