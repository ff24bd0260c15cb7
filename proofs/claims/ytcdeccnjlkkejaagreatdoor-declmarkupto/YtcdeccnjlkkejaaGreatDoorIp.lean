/- What stands for the values of types. -/
import Derived.Test.YtcdeccnjlkkejaaGreatDoorProg
import Derived.Test.YtcdeccnjlkkejaaGreatDoorLf
import Derived.Test.YtcdeccnjlkkejaaGreatDoorTy
import Derived.KernelRfl
set_option linter.unusedSimpArgs false
set_option linter.unusedVariables false
namespace Go.Lv.VT
set_option maxRecDepth 100000
open Go.Proofs
inductive TC where
 |bool|int_i32|int_i64|int_u32|int_u64|int_u8|sl_119|sl_23|sl_44|sl_49|sl_5|sl_66|sl_9|st_VArr12_str|st_VDecl|st_VToken|st_VValue|st_Vglue_start|st_Vnest_found|st_Vtoken_scanner|str|other
def Ct:TC->Type
 | .bool=>Bool| .int_i32=>Int| .int_i64=>Int| .int_u32=>Int| .int_u64=>Int| .int_u8=>UInt8| .sl_119=>List zw| .sl_23=>List (List zf)| .sl_44=>List ze| .sl_49=>List zf| .sl_5=>List UInt8| .sl_66=>List zJ| .sl_9=>List Str| .st_VArr12_str=>zai| .st_VDecl=>zJ| .st_VToken=>ze| .st_VValue=>zf| .st_Vglue_start=>zw| .st_Vnest_found=>zx| .st_Vtoken_scanner=>za| .str=>Str| .other=>Unit
def tab:List (Nat×TC):=[(2, .int_i64),(3, .int_i64),(4, .bool),(5, .int_u8),(9, .str),(21, .int_i32),(22, .sl_44),(23, .sl_49),(25, .int_i64),(42, .sl_5),(44, .st_VToken),(49, .st_VValue),(52, .sl_23),(66, .st_VDecl),(71, .sl_66),(101, .st_Vnest_found),(116, .sl_119),(119, .st_Vglue_start),(122, .sl_9),(133, .st_Vtoken_scanner),(149, .st_VArr12_str),(174, .int_u64),(185, .int_u32),(217, .int_u64)]
def tc(t:Nat):TC:=match lk tab t with|some c=>c|none=> .other
def Cn(t:Nat):Type:=Ct (tc t)
def dC:(c:TC)->Ct c
 | .bool=>(default:Bool)| .int_i32=>(default:Int)| .int_i64=>(default:Int)| .int_u32=>(default:Int)| .int_u64=>(default:Int)| .int_u8=>(default:UInt8)| .sl_119=>(default:List zw)| .sl_23=>(default:List (List zf))| .sl_44=>(default:List ze)| .sl_49=>(default:List zf)| .sl_5=>(default:List UInt8)| .sl_66=>(default:List zJ)| .sl_9=>(default:List Str)| .st_VArr12_str=>(default:zai)| .st_VDecl=>(default:zJ)| .st_VToken=>(default:ze)| .st_VValue=>(default:zf)| .st_Vglue_start=>(default:zw)| .st_Vnest_found=>(default:zx)| .st_Vtoken_scanner=>(default:za)| .str=>(default:Str)| .other=>()
def size:TC->Nat
 | .st_VArr12_str=>12| .st_VDecl=>3| .st_VToken=>5| .st_VValue=>6| .st_Vglue_start=>2| .st_Vnest_found=>3| .st_Vtoken_scanner=>2|_=>1
def N9(x:zai):List PV:=[.str x.e0, .str x.e1, .str x.e2, .str x.e3, .str x.e4, .str x.e5, .str x.e6, .str x.e7, .str x.e8, .str x.e9, .str x.e10, .str x.e11]
def GQ(x:ze):List PV:=[.at (.int .u8 x.kind), .str x.text, .at (.int .i64 x.num), .str x.unit, .at (.bool x.flag)]
mutual
def Zp:zf->List PV
 |⟨x_token,x_list⟩=>[.at (.int .u8 x_token.kind), .str x_token.text, .at (.int .i64 x_token.num), .str x_token.unit, .at (.bool x_token.flag), .sl (ow x_list)]
def ow:List zf->List (List PV)
 |[]=>[]
 |v::r=>Zp v::ow r
end
theorem JC: ∀(l:List zf),ow l=l.map Zp
 |[]=>by rw[ow];rfl
 |v::r=>by rw[ow,JC r];rfl
def Im(x:zJ):List PV:=[.str x.name, .sl (x.value.map Zp), .at (.bool x.important)]
def tT(x:zw):List PV:=[.at (.int .i64 x.token), .at (.int .i64 x.at_)]
def zmj(x:zx):List PV:=[.at (.int .i64 x.depth), .at (.int .i64 x.tokens), .at (.bool x.bad)]
def ziZ(x:za):List PV:=[.str x.s, .at (.int .i64 x.at_)]
theorem MS(x_token:ze)(x_list:List zf):Zp ⟨x_token,x_list⟩=[.at (.int .u8 x_token.kind), .str x_token.text, .at (.int .i64 x_token.num), .str x_token.unit, .at (.bool x_token.flag), .sl (x_list.map Zp)]:=by simp only[Zp,JC]
theorem M9(x:zf):Zp x=[.at (.int .u8 x.token.kind), .str x.token.text, .at (.int .i64 x.token.num), .str x.token.unit, .at (.bool x.token.flag), .sl (x.list.map Zp)]:=by cases x;exact MS ..
def fC(n:Nat):(c:TC)->Ct c->List PV
 | .bool,(x:Bool)=>[.at (.bool x)]
 | .int_i32,(x:Int)=>[.at (.int .i32 x)]
 | .int_i64,(x:Int)=>[.at (.int .i64 x)]
 | .int_u32,(x:Int)=>[.at (.int .u32 x)]
 | .int_u64,(x:Int)=>[.at (.int .u64 x)]
 | .int_u8,(x:UInt8)=>[.at (.int .u8 x.toNat)]
 | .sl_119,(x:List zw)=>[.sl (x.map tT)]
 | .sl_23,(x:List (List zf))=>[.sl (x.map (fun y=>[.sl (y.map Zp)]))]
 | .sl_44,(x:List ze)=>[.sl (x.map GQ)]
 | .sl_49,(x:List zf)=>[.sl (x.map Zp)]
 | .sl_5,(x:List UInt8)=>[.sl (x.map (fun y=>[.at (.int .u8 y.toNat)]))]
 | .sl_66,(x:List zJ)=>[.sl (x.map Im)]
 | .sl_9,(x:List Str)=>[.sl (x.map (fun y=>[.str y]))]
 | .st_VArr12_str,(x:zai)=>N9 x
 | .st_VDecl,(x:zJ)=>Im x
 | .st_VToken,(x:ze)=>GQ x
 | .st_VValue,(x:zf)=>Zp x
 | .st_Vglue_start,(x:zw)=>tT x
 | .st_Vnest_found,(x:zx)=>zmj x
 | .st_Vtoken_scanner,(x:za)=>ziZ x
 | .str,(x:Str)=>[.str x]
 | .other,_=>List.replicate n (.at (.slice none 0 0))
def eC(n:Nat):(c:TC)->Ct c->List (EV Cn)
 | .bool,(x:Bool)=>[.bool x]
 | .int_i32,(x:Int)=>[.int .i32 x]
 | .int_i64,(x:Int)=>[.int .i64 x]
 | .int_u32,(x:Int)=>[.int .u32 x]
 | .int_u64,(x:Int)=>[.int .u64 x]
 | .int_u8,(x:UInt8)=>[.int .u8 (x.toNat:Int)]
 | .sl_119,(x:List zw)=>[.sl 119 x]
 | .sl_23,(x:List (List zf))=>[.sl 23 x]
 | .sl_44,(x:List ze)=>[.sl 44 x]
 | .sl_49,(x:List zf)=>[.sl 49 x]
 | .sl_5,(x:List UInt8)=>[.sl 5 x]
 | .sl_66,(x:List zJ)=>[.sl 66 x]
 | .sl_9,(x:List Str)=>[.sl 9 x]
 | .st_VArr12_str,(x:zai)=>[.str x.e0, .str x.e1, .str x.e2, .str x.e3, .str x.e4, .str x.e5, .str x.e6, .str x.e7, .str x.e8, .str x.e9, .str x.e10, .str x.e11]
 | .st_VDecl,(x:zJ)=>[.str x.name, .sl 49 x.value, .bool x.important]
 | .st_VToken,(x:ze)=>[.int .u8 x.kind, .str x.text, .int .i64 x.num, .str x.unit, .bool x.flag]
 | .st_VValue,(x:zf)=>[.int .u8 x.token.kind, .str x.token.text, .int .i64 x.token.num, .str x.token.unit, .bool x.token.flag, .sl 49 x.list]
 | .st_Vglue_start,(x:zw)=>[.int .i64 x.token, .int .i64 x.at_]
 | .st_Vnest_found,(x:zx)=>[.int .i64 x.depth, .int .i64 x.tokens, .bool x.bad]
 | .st_Vtoken_scanner,(x:za)=>[.str x.s, .int .i64 x.at_]
 | .str,(x:Str)=>[.str x]
 | .other,_=>List.replicate n .nil
def XG:EV Cn->Option Int
 | .int .i32 n=>some n
 |_=>none
def Rj:EV Cn->Option Int
 | .int .i64 n=>some n
 |_=>none
def WG:EV Cn->Option Int
 | .int .u32 n=>some n
 |_=>none
def VG:EV Cn->Option Int
 | .int .u64 n=>some n
 |_=>none
def Cv:EV Cn->Option Int
 | .int .u8 n=>some n
 |_=>none
def om:EV Cn->Option Bool
 | .bool b=>some b
 |_=>none
def dStr:EV Cn->Option Str
 | .str l=>some l
 |_=>none
def xJ:EV Cn->Option (List UInt8)
 | .nil=>some []
 | .sl 5 l=>some l
 |_=>none
def wJ:EV Cn->Option (List Str)
 | .nil=>some []
 | .sl 9 l=>some l
 |_=>none
def NE:EV Cn->Option (List (List zf))
 | .nil=>some []
 | .sl 23 l=>some l
 |_=>none
def wD:EV Cn->Option (List ze)
 | .nil=>some []
 | .sl 44 l=>some l
 |_=>none
def ku:EV Cn->Option (List zf)
 | .nil=>some []
 | .sl 49 l=>some l
 |_=>none
def vD:EV Cn->Option (List zJ)
 | .nil=>some []
 | .sl 66 l=>some l
 |_=>none
def fF:EV Cn->Option (List zw)
 | .nil=>some []
 | .sl 119 l=>some l
 |_=>none
def mC:(c:TC)->List (EV Cn)->Option (Ct c)
 | .bool=>fun cs=>match cs with|[a0]=>(om a0).bind fun x0=>some x0|_=>none
 | .int_i32=>fun cs=>match cs with|[a0]=>(XG a0).bind fun x0=>some x0|_=>none
 | .int_i64=>fun cs=>match cs with|[a0]=>(Rj a0).bind fun x0=>some x0|_=>none
 | .int_u32=>fun cs=>match cs with|[a0]=>(WG a0).bind fun x0=>some x0|_=>none
 | .int_u64=>fun cs=>match cs with|[a0]=>(VG a0).bind fun x0=>some x0|_=>none
 | .int_u8=>fun cs=>match cs with|[a0]=>(Cv a0).bind ZF|_=>none
 | .sl_119=>fun cs=>match cs with|[a0]=>(fF a0).bind fun x0=>some x0|_=>none
 | .sl_23=>fun cs=>match cs with|[a0]=>(NE a0).bind fun x0=>some x0|_=>none
 | .sl_44=>fun cs=>match cs with|[a0]=>(wD a0).bind fun x0=>some x0|_=>none
 | .sl_49=>fun cs=>match cs with|[a0]=>(ku a0).bind fun x0=>some x0|_=>none
 | .sl_5=>fun cs=>match cs with|[a0]=>(xJ a0).bind fun x0=>some x0|_=>none
 | .sl_66=>fun cs=>match cs with|[a0]=>(vD a0).bind fun x0=>some x0|_=>none
 | .sl_9=>fun cs=>match cs with|[a0]=>(wJ a0).bind fun x0=>some x0|_=>none
 | .st_VArr12_str=>fun cs=>match cs with|[a0,a1,a2,a3,a4,a5,a6,a7,a8,a9,a10,a11]=>(dStr a0).bind fun x0=>(dStr a1).bind fun x1=>(dStr a2).bind fun x2=>(dStr a3).bind fun x3=>(dStr a4).bind fun x4=>(dStr a5).bind fun x5=>(dStr a6).bind fun x6=>(dStr a7).bind fun x7=>(dStr a8).bind fun x8=>(dStr a9).bind fun x9=>(dStr a10).bind fun x10=>(dStr a11).bind fun x11=>some (⟨x0,x1,x2,x3,x4,x5,x6,x7,x8,x9,x10,x11⟩:zai)|_=>none
 | .st_VDecl=>fun cs=>match cs with|[a0,a1,a2]=>(dStr a0).bind fun x0=>(ku a1).bind fun x1=>(om a2).bind fun x2=>some (⟨x0,x1,x2⟩:zJ)|_=>none
 | .st_VToken=>fun cs=>match cs with|[a0,a1,a2,a3,a4]=>(Cv a0).bind fun x0=>(dStr a1).bind fun x1=>(Rj a2).bind fun x2=>(dStr a3).bind fun x3=>(om a4).bind fun x4=>some (⟨x0,x1,x2,x3,x4⟩:ze)|_=>none
 | .st_VValue=>fun cs=>match cs with|[a0,a1,a2,a3,a4,a5]=>(Cv a0).bind fun x0=>(dStr a1).bind fun x1=>(Rj a2).bind fun x2=>(dStr a3).bind fun x3=>(om a4).bind fun x4=>(ku a5).bind fun x5=>some (⟨(⟨x0,x1,x2,x3,x4⟩:ze),x5⟩:zf)|_=>none
 | .st_Vglue_start=>fun cs=>match cs with|[a0,a1]=>(Rj a0).bind fun x0=>(Rj a1).bind fun x1=>some (⟨x0,x1⟩:zw)|_=>none
 | .st_Vnest_found=>fun cs=>match cs with|[a0,a1,a2]=>(Rj a0).bind fun x0=>(Rj a1).bind fun x1=>(om a2).bind fun x2=>some (⟨x0,x1,x2⟩:zx)|_=>none
 | .st_Vtoken_scanner=>fun cs=>match cs with|[a0,a1]=>(dStr a0).bind fun x0=>(Rj a1).bind fun x1=>some (⟨x0,x1⟩:za)|_=>none
 | .str=>fun cs=>match cs with|[a0]=>(dStr a0).bind fun x0=>some x0|_=>none
 | .other=>fun _=>none
def bC:(c:TC)->Option ((List UInt8->List (Ct c))×(List (Ct c)->List UInt8))
 | .int_u8=>some (fun l=>l,fun l=>l)
 |_=>none
noncomputable def I:Ip:=⟨Cn,fun t=>dC (tc t),fun t=>eC (Tryz.prog.cellsOf t) (tc t),fun t=>mC (tc t),fun t=>fC (Tryz.prog.cellsOf t) (tc t),fun t=>bC (tc t)⟩
theorem zFN:(tab.all fun p=>Nat.beq (Tryz.prog.cellsOf p.1) (size p.2))=true:=by kernel_rfl
theorem kX(t:Nat)(h:tc t≠ .other):Tryz.prog.cellsOf t=size (tc t):=by
 unfold tc at h ⊢;cases hl:lk tab t with
 |none=>rw[hl]at h;exact absurd rfl h
 |some c=> simp only;exact Ta (Xb.1 zFN _ (Kg hl))
def Dec(a:EV Cn)(p:PV):Prop:=Cj (I:=I) a=true/\WkP (pvE I a) p
theorem decs{cs:List (EV Cn)}{ps:List PV}(h:All2 Dec cs ps):(∀v∈cs,Cj (I:=I) v=true)/\cs.length=ps.length/\ ∀(j:Nat) (a b:PV),(cs.map (pvE I))[j]? =some a->ps[j]? =some b->WkP a b:=by
 induction h with
 |nil=>exact⟨fun v hv=>(by cases hv),rfl,fun j a b ha=>(by cases ha)⟩
 |cons h1 _ ih=>
  refine⟨fun v hv=> ?_,congrArg Nat.succ ih.2.1,fun j a b ha hb=> ?_⟩
  ·rcases Fb.1 hv with rfl|hv
   ·exact h1.1
   ·exact ih.1 v hv
  ·cases j with
   |zero=>injection ha with ha;injection hb with hb;rw[<-ha,<-hb];exact h1.2
   |succ j=>exact ih.2.2 j a b ha hb
theorem D6{a:EV Cn}{x:Int}(h:XG a=some x):Dec a (.at (.int .i32 x)):=by
 unfold XG at h;split at h
 ·cases h;exact⟨rfl, .refl _⟩
 ·cases h
theorem Sm{a:EV Cn}{x:Int}(h:Rj a=some x):Dec a (.at (.int .i64 x)):=by
 unfold Rj at h;split at h
 ·cases h;exact⟨rfl, .refl _⟩
 ·cases h
theorem l5{a:EV Cn}{x:Int}(h:WG a=some x):Dec a (.at (.int .u32 x)):=by
 unfold WG at h;split at h
 ·cases h;exact⟨rfl, .refl _⟩
 ·cases h
theorem Y5{a:EV Cn}{x:Int}(h:VG a=some x):Dec a (.at (.int .u64 x)):=by
 unfold VG at h;split at h
 ·cases h;exact⟨rfl, .refl _⟩
 ·cases h
theorem YH{a:EV Cn}{x:Int}(h:Cv a=some x):Dec a (.at (.int .u8 x)):=by
 unfold Cv at h;split at h
 ·cases h;exact⟨rfl, .refl _⟩
 ·cases h
theorem jv{a:EV Cn}{x:Bool}(h:om a=some x):Dec a (.at (.bool x)):=by
 unfold om at h;split at h
 ·cases h;exact⟨rfl, .refl _⟩
 ·cases h
theorem Q5{a:EV Cn}{x:Str}(h:dStr a=some x):Dec a (.str x):=by
 unfold dStr at h;split at h
 ·cases h;exact⟨rfl, .refl _⟩
 ·cases h
theorem zAe{a:EV Cn}{x:List UInt8}(h:xJ a=some x):Dec a (.sl (x.map (I.full 5))):=by
 unfold xJ at h;split at h
 ·cases h;exact⟨rfl, .nil⟩
 ·cases h;exact⟨rfl, .refl _⟩
 ·cases h
theorem zAf{a:EV Cn}{x:List Str}(h:wJ a=some x):Dec a (.sl (x.map (I.full 9))):=by
 unfold wJ at h;split at h
 ·cases h;exact⟨rfl, .nil⟩
 ·cases h;exact⟨rfl, .refl _⟩
 ·cases h
theorem jY{a:EV Cn}{x:List (List zf)}(h:NE a=some x):Dec a (.sl (x.map (I.full 23))):=by
 unfold NE at h;split at h
 ·cases h;exact⟨rfl, .nil⟩
 ·cases h;exact⟨rfl, .refl _⟩
 ·cases h
theorem iY{a:EV Cn}{x:List ze}(h:wD a=some x):Dec a (.sl (x.map (I.full 44))):=by
 unfold wD at h;split at h
 ·cases h;exact⟨rfl, .nil⟩
 ·cases h;exact⟨rfl, .refl _⟩
 ·cases h
theorem rG{a:EV Cn}{x:List zf}(h:ku a=some x):Dec a (.sl (x.map (I.full 49))):=by
 unfold ku at h;split at h
 ·cases h;exact⟨rfl, .nil⟩
 ·cases h;exact⟨rfl, .refl _⟩
 ·cases h
theorem gY{a:EV Cn}{x:List zJ}(h:vD a=some x):Dec a (.sl (x.map (I.full 66))):=by
 unfold vD at h;split at h
 ·cases h;exact⟨rfl, .nil⟩
 ·cases h;exact⟨rfl, .refl _⟩
 ·cases h
theorem J2{a:EV Cn}{x:List zw}(h:fF a=some x):Dec a (.sl (x.map (I.full 119))):=by
 unfold fF at h;split at h
 ·cases h;exact⟨rfl, .nil⟩
 ·cases h;exact⟨rfl, .refl _⟩
 ·cases h
theorem zDr(n:Nat): ∀(c:TC) (cs:List (EV Cn)) (x:Ct c),mC c cs=some x->All2 Dec cs (fC n c x)
 | .bool,cs,x,h=>by
  simp only[mC]at h;split at h
  ·obtain⟨x0,h0,h⟩:=Ca.1 h;injection h with h;subst h;exact .cons (jv h0) .nil
  ·cases h
 | .int_i32,cs,x,h=>by
  simp only[mC]at h;split at h
  ·obtain⟨x0,h0,h⟩:=Ca.1 h;injection h with h;subst h;exact .cons (D6 h0) .nil
  ·cases h
 | .int_i64,cs,x,h=>by
  simp only[mC]at h;split at h
  ·obtain⟨x0,h0,h⟩:=Ca.1 h;injection h with h;subst h;exact .cons (Sm h0) .nil
  ·cases h
 | .int_u32,cs,x,h=>by
  simp only[mC]at h;split at h
  ·obtain⟨x0,h0,h⟩:=Ca.1 h;injection h with h;subst h;exact .cons (l5 h0) .nil
  ·cases h
 | .int_u64,cs,x,h=>by
  simp only[mC]at h;split at h
  ·obtain⟨x0,h0,h⟩:=Ca.1 h;injection h with h;subst h;exact .cons (Y5 h0) .nil
  ·cases h
 | .int_u8,cs,x,h=>by
  simp only[mC]at h;split at h
  ·obtain⟨x0,h0,h⟩:=Ca.1 h;have:=eZ h;subst this;exact .cons (YH h0) .nil
  ·cases h
 | .sl_119,cs,x,h=>by
  simp only[mC]at h;split at h
  ·obtain⟨x0,h0,h⟩:=Ca.1 h;injection h with h;subst h;exact .cons (J2 h0) .nil
  ·cases h
 | .sl_23,cs,x,h=>by
  simp only[mC]at h;split at h
  ·obtain⟨x0,h0,h⟩:=Ca.1 h;injection h with h;subst h;exact .cons (jY h0) .nil
  ·cases h
 | .sl_44,cs,x,h=>by
  simp only[mC]at h;split at h
  ·obtain⟨x0,h0,h⟩:=Ca.1 h;injection h with h;subst h;exact .cons (iY h0) .nil
  ·cases h
 | .sl_49,cs,x,h=>by
  simp only[mC]at h;split at h
  ·obtain⟨x0,h0,h⟩:=Ca.1 h;injection h with h;subst h;exact .cons (rG h0) .nil
  ·cases h
 | .sl_5,cs,x,h=>by
  simp only[mC]at h;split at h
  ·obtain⟨x0,h0,h⟩:=Ca.1 h;injection h with h;subst h;exact .cons (zAe h0) .nil
  ·cases h
 | .sl_66,cs,x,h=>by
  simp only[mC]at h;split at h
  ·obtain⟨x0,h0,h⟩:=Ca.1 h;injection h with h;subst h;exact .cons (gY h0) .nil
  ·cases h
 | .sl_9,cs,x,h=>by
  simp only[mC]at h;split at h
  ·obtain⟨x0,h0,h⟩:=Ca.1 h;injection h with h;subst h;exact .cons (zAf h0) .nil
  ·cases h
 | .st_VArr12_str,cs,x,h=>by
  simp only[mC]at h;split at h
  ·obtain⟨x0,h0,h⟩:=Ca.1 h;obtain⟨x1,h1,h⟩:=Ca.1 h;obtain⟨x2,h2,h⟩:=Ca.1 h;obtain⟨x3,h3,h⟩:=Ca.1 h;obtain⟨x4,h4,h⟩:=Ca.1 h;obtain⟨x5,h5,h⟩:=Ca.1 h;obtain⟨x6,h6,h⟩:=Ca.1 h;obtain⟨x7,h7,h⟩:=Ca.1 h;obtain⟨x8,h8,h⟩:=Ca.1 h;obtain⟨x9,h9,h⟩:=Ca.1 h;obtain⟨x10,h10,h⟩:=Ca.1 h;obtain⟨x11,h11,h⟩:=Ca.1 h;injection h with h;subst h;exact .cons (Q5 h0) (.cons (Q5 h1) (.cons (Q5 h2) (.cons (Q5 h3) (.cons (Q5 h4) (.cons (Q5 h5) (.cons (Q5 h6) (.cons (Q5 h7) (.cons (Q5 h8) (.cons (Q5 h9) (.cons (Q5 h10) (.cons (Q5 h11) .nil)))))))))))
  ·cases h
 | .st_VDecl,cs,x,h=>by
  simp only[mC]at h;split at h
  ·obtain⟨x0,h0,h⟩:=Ca.1 h;obtain⟨x1,h1,h⟩:=Ca.1 h;obtain⟨x2,h2,h⟩:=Ca.1 h;injection h with h;subst h;exact .cons (Q5 h0) (.cons (rG h1) (.cons (jv h2) .nil))
  ·cases h
 | .st_VToken,cs,x,h=>by
  simp only[mC]at h;split at h
  ·obtain⟨x0,h0,h⟩:=Ca.1 h;obtain⟨x1,h1,h⟩:=Ca.1 h;obtain⟨x2,h2,h⟩:=Ca.1 h;obtain⟨x3,h3,h⟩:=Ca.1 h;obtain⟨x4,h4,h⟩:=Ca.1 h;injection h with h;subst h;exact .cons (YH h0) (.cons (Q5 h1) (.cons (Sm h2) (.cons (Q5 h3) (.cons (jv h4) .nil))))
  ·cases h
 | .st_VValue,cs,x,h=>by
  simp only[mC]at h;split at h
  ·obtain⟨x0,h0,h⟩:=Ca.1 h;obtain⟨x1,h1,h⟩:=Ca.1 h;obtain⟨x2,h2,h⟩:=Ca.1 h;obtain⟨x3,h3,h⟩:=Ca.1 h;obtain⟨x4,h4,h⟩:=Ca.1 h;obtain⟨x5,h5,h⟩:=Ca.1 h;injection h with h;subst h;show All2 Dec _ (Zp _);simp only[Zp,JC];exact .cons (YH h0) (.cons (Q5 h1) (.cons (Sm h2) (.cons (Q5 h3) (.cons (jv h4) (.cons (rG h5) .nil)))))
  ·cases h
 | .st_Vglue_start,cs,x,h=>by
  simp only[mC]at h;split at h
  ·obtain⟨x0,h0,h⟩:=Ca.1 h;obtain⟨x1,h1,h⟩:=Ca.1 h;injection h with h;subst h;exact .cons (Sm h0) (.cons (Sm h1) .nil)
  ·cases h
 | .st_Vnest_found,cs,x,h=>by
  simp only[mC]at h;split at h
  ·obtain⟨x0,h0,h⟩:=Ca.1 h;obtain⟨x1,h1,h⟩:=Ca.1 h;obtain⟨x2,h2,h⟩:=Ca.1 h;injection h with h;subst h;exact .cons (Sm h0) (.cons (Sm h1) (.cons (jv h2) .nil))
  ·cases h
 | .st_Vtoken_scanner,cs,x,h=>by
  simp only[mC]at h;split at h
  ·obtain⟨x0,h0,h⟩:=Ca.1 h;obtain⟨x1,h1,h⟩:=Ca.1 h;injection h with h;subst h;exact .cons (Q5 h0) (.cons (Sm h1) .nil)
  ·cases h
 | .str,cs,x,h=>by
  simp only[mC]at h;split at h
  ·obtain⟨x0,h0,h⟩:=Ca.1 h;injection h with h;subst h;exact .cons (Q5 h0) .nil
  ·cases h
 | .other,cs,x,h=>by cases h
theorem fe(n:Nat): ∀(c:TC) (x:Ct c),fC n c x=(eC n c x).map (pvE I)
 | .bool,x=>rfl
 | .int_i32,x=>rfl
 | .int_i64,x=>rfl
 | .int_u32,x=>rfl
 | .int_u64,x=>rfl
 | .int_u8,x=>rfl
 | .sl_119,x=>rfl
 | .sl_23,x=>rfl
 | .sl_44,x=>rfl
 | .sl_49,x=>rfl
 | .sl_5,x=>rfl
 | .sl_66,x=>rfl
 | .sl_9,x=>rfl
 | .st_VArr12_str,x=>rfl
 | .st_VDecl,x=>rfl
 | .st_VToken,x=>rfl
 | .st_VValue,(x:zf)=>by obtain⟨x_token,x_list⟩:=x;show Zp _=_;simp only[Zp,JC];rfl
 | .st_Vglue_start,x=>rfl
 | .st_Vnest_found,x=>rfl
 | .st_Vtoken_scanner,x=>rfl
 | .str,x=>rfl
 | .other,x=>by show List.replicate n (PV.at (Value.slice none 0 0))=(List.replicate n EV.nil).map (pvE I);rw[List.map_replicate];rfl
theorem zEH(n:Nat)(c:TC)(x:Ct c)(h:c≠ .other->n=size c):(eC n c x).length=n:=by
 cases c
 case other=>simp[eC]
 all_goals (rw[h (by simp)];rfl)
theorem zC3(n:Nat): ∀(c:TC) (x:Ct c),(eC n c x).all (Cj (I:=I))=true
 | .bool,x=>rfl
 | .int_i32,x=>rfl
 | .int_i64,x=>rfl
 | .int_u32,x=>rfl
 | .int_u64,x=>rfl
 | .int_u8,x=>rfl
 | .sl_119,x=>rfl
 | .sl_23,x=>rfl
 | .sl_44,x=>rfl
 | .sl_49,x=>rfl
 | .sl_5,x=>rfl
 | .sl_66,x=>rfl
 | .sl_9,x=>rfl
 | .st_VArr12_str,x=>rfl
 | .st_VDecl,x=>rfl
 | .st_VToken,x=>rfl
 | .st_VValue,x=>rfl
 | .st_Vglue_start,x=>rfl
 | .st_Vnest_found,x=>rfl
 | .st_Vtoken_scanner,x=>rfl
 | .str,x=>rfl
 | .other,x=>by show(List.replicate n EV.nil).all (Cj (I:=I))=true;rw[Xb];intro v hv;rw[(List.mem_replicate.1 hv).2];rfl
theorem zFO:(tab.all fun p=>match p.2 with| .int_u8=>(match kdOf Tryz.prog p.1 with| .int .u8=>true|_=>false)|_=>true)=true:=by kernel_rfl
theorem zF2(t:Nat)(h:tc t= .int_u8):kdOf Tryz.prog t= .int .u8:=by
 unfold tc at h;cases hl:lk tab t with
 |none=>rw[hl]at h;cases h
 |some c=>
  rw[hl]at h;have h:c= .int_u8:=h;subst h;have:=Xb.1 zFO _ (Kg hl);simp only at this;split at this
  ·assumption
  ·cases this
theorem zCI(n:Nat): ∀(c:TC) (p:(List UInt8->List (Ct c))×(List (Ct c)->List UInt8)),bC c=some p->(∀l,(p.1 l).map (fC n c)=l.map fun b=>[PV.at (.int .u8 b.toNat)])/\(∀l,l.map (fC n c)=(p.2 l).map fun b=>[PV.at (.int .u8 b.toNat)])/\c= .int_u8:=by
 intro c p h;cases c
 case int_u8=>cases h;exact⟨fun l=>rfl,fun l=>rfl,rfl⟩
 all_goals cases h
theorem zEC(t:Nat)(p:(List UInt8->List (I.C t))×(List (I.C t)->List UInt8))(h:I.byt t=some p):(∀l,(p.1 l).map (I.full t)=l.map fun b=>[PV.at (.int .u8 b.toNat)])/\(∀l,l.map (I.full t)=(p.2 l).map fun b=>[PV.at (.int .u8 b.toNat)])/\kdOf Tryz.prog t= .int .u8:=by obtain⟨h1,h2,h3⟩:=zCI (Tryz.prog.cellsOf t) (tc t) p h;exact⟨h1,h2,zF2 t h3⟩
theorem ipOK:IpOK Tryz.prog I where
 len:=fun t x=>by show(fC _ _ x).length=_;exact(congrArg List.length (fe _ (tc t) x)).trans ((Nb ..).trans (zEH _ (tc t) x (kX t)))
 exp:=fun t x=>fe _ _ x
 pur:=fun t x v hv=>Xb.1 (zC3 _ _ x) v hv
 made:=fun t cs x h=>decs (zDr _ _ cs x h)
 byt:=zEC
noncomputable def T:TT:=[(2,ti Tryz.prog 2),(3,ti Tryz.prog 3),(4,ti Tryz.prog 4),(5,ti Tryz.prog 5),(9,ti Tryz.prog 9),(21,ti Tryz.prog 21),(22,ti Tryz.prog 22),(23,ti Tryz.prog 23),(25,ti Tryz.prog 25),(42,ti Tryz.prog 42),(44,ti Tryz.prog 44),(49,ti Tryz.prog 49),(52,ti Tryz.prog 52),(66,ti Tryz.prog 66),(71,ti Tryz.prog 71),(101,ti Tryz.prog 101),(116,ti Tryz.prog 116),(119,ti Tryz.prog 119),(122,ti Tryz.prog 122),(131,ti Tryz.prog 131),(133,ti Tryz.prog 133),(149,ti Tryz.prog 149),(174,ti Tryz.prog 174),(185,ti Tryz.prog 185),(217,ti Tryz.prog 217)]
def FK:List (Nat×List Kd):=[(44,[.int .u8, .str, .int .i64, .str, .bool])]
theorem tok:TOK Tryz.prog T FK:=TD (l:=[2,3,4,5,9,21,22,23,25,42,44,49,52,66,71,101,116,119,122,131,133,149,174,185,217]) (by
 intro p hp;simp only[FK,Fb,Xd,uf]at hp;rcases hp with rfl<;>kernel_rfl)
theorem mixed:Tryz.prog.follows .mixedOrders=true:=by kernel_rfl
noncomputable def body(f:Go.Func):Code:=match f.body with|some c=>c|none=> .skip
noncomputable def rsl(f:Go.Func):List ResultVar:=f.results.toList
end Go.Lv.VT
