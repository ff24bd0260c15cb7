/- What stands for the values of types. -/
import Derived.Test.YtcdeccnjlkkejaaGreatDoorProg
import Derived.Test.YtcdeccnjlkkejaaGreatDoorLf
import Derived.Test.YtcdeccnjlkkejaaGreatDoorTy
import Derived.KernelRfl
set_option linter.unusedSimpArgs false
set_option linter.unusedVariables false
namespace Go.Lv.VT
set_option maxRecDepth 100000
open Go.Proofs
inductive TC where
 |bool|int_i32|int_i64|int_u32|int_u64|int_u8|sl_172|sl_23|sl_44|sl_49|sl_5|sl_66|st_VArr2_i64|st_VDecl|st_VToken|st_VValue|st_Vnest_found|st_Vtoken_scanner|str|other
def Ct:TC->Type
 | .bool=>Bool| .int_i32=>Int| .int_i64=>Int| .int_u32=>Int| .int_u64=>Int| .int_u8=>UInt8| .sl_172=>List Zg| .sl_23=>List (List zb)| .sl_44=>List zf| .sl_49=>List zb| .sl_5=>List UInt8| .sl_66=>List z8| .st_VArr2_i64=>Zg| .st_VDecl=>z8| .st_VToken=>zf| .st_VValue=>zb| .st_Vnest_found=>zJ| .st_Vtoken_scanner=>za| .str=>Str| .other=>Unit
def tab:List (Nat×TC):=[(2, .int_i64),(3, .int_i64),(4, .bool),(5, .int_u8),(9, .str),(21, .int_i32),(22, .sl_44),(23, .sl_49),(25, .int_i64),(42, .sl_5),(44, .st_VToken),(49, .st_VValue),(52, .sl_23),(66, .st_VDecl),(71, .sl_66),(101, .st_Vnest_found),(133, .st_Vtoken_scanner),(140, .sl_172),(172, .st_VArr2_i64),(185, .int_u32),(217, .int_u64)]
def tc(t:Nat):TC:=match lk tab t with|some c=>c|none=> .other
def Cn(t:Nat):Type:=Ct (tc t)
def dC:(c:TC)->Ct c
 | .bool=>(default:Bool)| .int_i32=>(default:Int)| .int_i64=>(default:Int)| .int_u32=>(default:Int)| .int_u64=>(default:Int)| .int_u8=>(default:UInt8)| .sl_172=>(default:List Zg)| .sl_23=>(default:List (List zb))| .sl_44=>(default:List zf)| .sl_49=>(default:List zb)| .sl_5=>(default:List UInt8)| .sl_66=>(default:List z8)| .st_VArr2_i64=>(default:Zg)| .st_VDecl=>(default:z8)| .st_VToken=>(default:zf)| .st_VValue=>(default:zb)| .st_Vnest_found=>(default:zJ)| .st_Vtoken_scanner=>(default:za)| .str=>(default:Str)| .other=>()
def size:TC->Nat
 | .st_VArr2_i64=>2| .st_VDecl=>3| .st_VToken=>5| .st_VValue=>6| .st_Vnest_found=>3| .st_Vtoken_scanner=>2|_=>1
def FR(x:Zg):List PV:=[.at (.int .i64 x.e0), .at (.int .i64 x.e1)]
def Xm(x:zf):List PV:=[.at (.int .u8 x.kind), .str x.text, .at (.int .i64 x.num), .str x.unit, .at (.bool x.flag)]
mutual
def zt:zb->List PV
 |⟨x_token,x_list⟩=>[.at (.int .u8 x_token.kind), .str x_token.text, .at (.int .i64 x_token.num), .str x_token.unit, .at (.bool x_token.flag), .sl (Tx x_list)]
def Tx:List zb->List (List PV)
 |[]=>[]
 |v::r=>zt v::Tx r
end
theorem OD: ∀(l:List zb),Tx l=l.map zt
 |[]=>by rw[Tx];rfl
 |v::r=>by rw[Tx,OD r];rfl
def BO(x:z8):List PV:=[.str x.name, .sl (x.value.map zt), .at (.bool x.important)]
def zlA(x:zJ):List PV:=[.at (.int .i64 x.depth), .at (.int .i64 x.tokens), .at (.bool x.bad)]
def zh5(x:za):List PV:=[.str x.s, .at (.int .i64 x.at_)]
theorem AJ(x_token:zf)(x_list:List zb):zt ⟨x_token,x_list⟩=[.at (.int .u8 x_token.kind), .str x_token.text, .at (.int .i64 x_token.num), .str x_token.unit, .at (.bool x_token.flag), .sl (x_list.map zt)]:=by simp only[zt,OD]
theorem S9(x:zb):zt x=[.at (.int .u8 x.token.kind), .str x.token.text, .at (.int .i64 x.token.num), .str x.token.unit, .at (.bool x.token.flag), .sl (x.list.map zt)]:=by cases x;exact AJ ..
def fC(n:Nat):(c:TC)->Ct c->List PV
 | .bool,(x:Bool)=>[.at (.bool x)]
 | .int_i32,(x:Int)=>[.at (.int .i32 x)]
 | .int_i64,(x:Int)=>[.at (.int .i64 x)]
 | .int_u32,(x:Int)=>[.at (.int .u32 x)]
 | .int_u64,(x:Int)=>[.at (.int .u64 x)]
 | .int_u8,(x:UInt8)=>[.at (.int .u8 x.toNat)]
 | .sl_172,(x:List Zg)=>[.sl (x.map FR)]
 | .sl_23,(x:List (List zb))=>[.sl (x.map (fun y=>[.sl (y.map zt)]))]
 | .sl_44,(x:List zf)=>[.sl (x.map Xm)]
 | .sl_49,(x:List zb)=>[.sl (x.map zt)]
 | .sl_5,(x:List UInt8)=>[.sl (x.map (fun y=>[.at (.int .u8 y.toNat)]))]
 | .sl_66,(x:List z8)=>[.sl (x.map BO)]
 | .st_VArr2_i64,(x:Zg)=>FR x
 | .st_VDecl,(x:z8)=>BO x
 | .st_VToken,(x:zf)=>Xm x
 | .st_VValue,(x:zb)=>zt x
 | .st_Vnest_found,(x:zJ)=>zlA x
 | .st_Vtoken_scanner,(x:za)=>zh5 x
 | .str,(x:Str)=>[.str x]
 | .other,_=>List.replicate n (.at (.slice none 0 0))
def eC(n:Nat):(c:TC)->Ct c->List (EV Cn)
 | .bool,(x:Bool)=>[.bool x]
 | .int_i32,(x:Int)=>[.int .i32 x]
 | .int_i64,(x:Int)=>[.int .i64 x]
 | .int_u32,(x:Int)=>[.int .u32 x]
 | .int_u64,(x:Int)=>[.int .u64 x]
 | .int_u8,(x:UInt8)=>[.int .u8 (x.toNat:Int)]
 | .sl_172,(x:List Zg)=>[.sl 172 x]
 | .sl_23,(x:List (List zb))=>[.sl 23 x]
 | .sl_44,(x:List zf)=>[.sl 44 x]
 | .sl_49,(x:List zb)=>[.sl 49 x]
 | .sl_5,(x:List UInt8)=>[.sl 5 x]
 | .sl_66,(x:List z8)=>[.sl 66 x]
 | .st_VArr2_i64,(x:Zg)=>[.int .i64 x.e0, .int .i64 x.e1]
 | .st_VDecl,(x:z8)=>[.str x.name, .sl 49 x.value, .bool x.important]
 | .st_VToken,(x:zf)=>[.int .u8 x.kind, .str x.text, .int .i64 x.num, .str x.unit, .bool x.flag]
 | .st_VValue,(x:zb)=>[.int .u8 x.token.kind, .str x.token.text, .int .i64 x.token.num, .str x.token.unit, .bool x.token.flag, .sl 49 x.list]
 | .st_Vnest_found,(x:zJ)=>[.int .i64 x.depth, .int .i64 x.tokens, .bool x.bad]
 | .st_Vtoken_scanner,(x:za)=>[.str x.s, .int .i64 x.at_]
 | .str,(x:Str)=>[.str x]
 | .other,_=>List.replicate n .nil
def MG:EV Cn->Option Int
 | .int .i32 n=>some n
 |_=>none
def Kk:EV Cn->Option Int
 | .int .i64 n=>some n
 |_=>none
def LG:EV Cn->Option Int
 | .int .u32 n=>some n
 |_=>none
def KG:EV Cn->Option Int
 | .int .u64 n=>some n
 |_=>none
def Ev:EV Cn->Option Int
 | .int .u8 n=>some n
 |_=>none
def um:EV Cn->Option Bool
 | .bool b=>some b
 |_=>none
def dStr:EV Cn->Option Str
 | .str l=>some l
 |_=>none
def nJ:EV Cn->Option (List UInt8)
 | .nil=>some []
 | .sl 5 l=>some l
 |_=>none
def TE:EV Cn->Option (List (List zb))
 | .nil=>some []
 | .sl 23 l=>some l
 |_=>none
def SE:EV Cn->Option (List zf)
 | .nil=>some []
 | .sl 44 l=>some l
 |_=>none
def ku:EV Cn->Option (List zb)
 | .nil=>some []
 | .sl 49 l=>some l
 |_=>none
def OE:EV Cn->Option (List z8)
 | .nil=>some []
 | .sl 66 l=>some l
 |_=>none
def BF:EV Cn->Option (List Zg)
 | .nil=>some []
 | .sl 172 l=>some l
 |_=>none
def mC:(c:TC)->List (EV Cn)->Option (Ct c)
 | .bool=>fun cs=>match cs with|[a0]=>(um a0).bind fun x0=>some x0|_=>none
 | .int_i32=>fun cs=>match cs with|[a0]=>(MG a0).bind fun x0=>some x0|_=>none
 | .int_i64=>fun cs=>match cs with|[a0]=>(Kk a0).bind fun x0=>some x0|_=>none
 | .int_u32=>fun cs=>match cs with|[a0]=>(LG a0).bind fun x0=>some x0|_=>none
 | .int_u64=>fun cs=>match cs with|[a0]=>(KG a0).bind fun x0=>some x0|_=>none
 | .int_u8=>fun cs=>match cs with|[a0]=>(Ev a0).bind Z0|_=>none
 | .sl_172=>fun cs=>match cs with|[a0]=>(BF a0).bind fun x0=>some x0|_=>none
 | .sl_23=>fun cs=>match cs with|[a0]=>(TE a0).bind fun x0=>some x0|_=>none
 | .sl_44=>fun cs=>match cs with|[a0]=>(SE a0).bind fun x0=>some x0|_=>none
 | .sl_49=>fun cs=>match cs with|[a0]=>(ku a0).bind fun x0=>some x0|_=>none
 | .sl_5=>fun cs=>match cs with|[a0]=>(nJ a0).bind fun x0=>some x0|_=>none
 | .sl_66=>fun cs=>match cs with|[a0]=>(OE a0).bind fun x0=>some x0|_=>none
 | .st_VArr2_i64=>fun cs=>match cs with|[a0,a1]=>(Kk a0).bind fun x0=>(Kk a1).bind fun x1=>some (⟨x0,x1⟩:Zg)|_=>none
 | .st_VDecl=>fun cs=>match cs with|[a0,a1,a2]=>(dStr a0).bind fun x0=>(ku a1).bind fun x1=>(um a2).bind fun x2=>some (⟨x0,x1,x2⟩:z8)|_=>none
 | .st_VToken=>fun cs=>match cs with|[a0,a1,a2,a3,a4]=>(Ev a0).bind fun x0=>(dStr a1).bind fun x1=>(Kk a2).bind fun x2=>(dStr a3).bind fun x3=>(um a4).bind fun x4=>some (⟨x0,x1,x2,x3,x4⟩:zf)|_=>none
 | .st_VValue=>fun cs=>match cs with|[a0,a1,a2,a3,a4,a5]=>(Ev a0).bind fun x0=>(dStr a1).bind fun x1=>(Kk a2).bind fun x2=>(dStr a3).bind fun x3=>(um a4).bind fun x4=>(ku a5).bind fun x5=>some (⟨(⟨x0,x1,x2,x3,x4⟩:zf),x5⟩:zb)|_=>none
 | .st_Vnest_found=>fun cs=>match cs with|[a0,a1,a2]=>(Kk a0).bind fun x0=>(Kk a1).bind fun x1=>(um a2).bind fun x2=>some (⟨x0,x1,x2⟩:zJ)|_=>none
 | .st_Vtoken_scanner=>fun cs=>match cs with|[a0,a1]=>(dStr a0).bind fun x0=>(Kk a1).bind fun x1=>some (⟨x0,x1⟩:za)|_=>none
 | .str=>fun cs=>match cs with|[a0]=>(dStr a0).bind fun x0=>some x0|_=>none
 | .other=>fun _=>none
def bC:(c:TC)->Option ((List UInt8->List (Ct c))×(List (Ct c)->List UInt8))
 | .int_u8=>some (fun l=>l,fun l=>l)
 |_=>none
noncomputable def I:Ip:=⟨Cn,fun t=>dC (tc t),fun t=>eC (Tryz.prog.cellsOf t) (tc t),fun t=>mC (tc t),fun t=>fC (Tryz.prog.cellsOf t) (tc t),fun t=>bC (tc t)⟩
theorem zCO:(tab.all fun p=>Nat.beq (Tryz.prog.cellsOf p.1) (size p.2))=true:=by kernel_rfl
theorem jW(t:Nat)(h:tc t≠ .other):Tryz.prog.cellsOf t=size (tc t):=by
 unfold tc at h ⊢;cases hl:lk tab t with
 |none=>rw[hl]at h;exact absurd rfl h
 |some c=> simp only;exact Fb (Ua.1 zCO _ (Zi hl))
def Dec(a:EV Cn)(p:PV):Prop:=Wl (I:=I) a=true/\WkP (pvE I a) p
theorem decs{cs:List (EV Cn)}{ps:List PV}(h:All2 Dec cs ps):(∀v∈cs,Wl (I:=I) v=true)/\cs.length=ps.length/\ ∀(j:Nat) (a b:PV),(cs.map (pvE I))[j]? =some a->ps[j]? =some b->WkP a b:=by
 induction h with
 |nil=>exact⟨fun v hv=>(by cases hv),rfl,fun j a b ha=>(by cases ha)⟩
 |cons h1 _ ih=>
  refine⟨fun v hv=> ?_,congrArg Nat.succ ih.2.1,fun j a b ha hb=> ?_⟩
  ·rcases Jb.1 hv with rfl|hv
   ·exact h1.1
   ·exact ih.1 v hv
  ·cases j with
   |zero=>injection ha with ha;injection hb with hb;rw[<-ha,<-hb];exact h1.2
   |succ j=>exact ih.2.2 j a b ha hb
theorem Y4{a:EV Cn}{x:Int}(h:MG a=some x):Dec a (.at (.int .i32 x)):=by
 unfold MG at h;split at h
 ·cases h;exact⟨rfl, .refl _⟩
 ·cases h
theorem Q9{a:EV Cn}{x:Int}(h:Kk a=some x):Dec a (.at (.int .i64 x)):=by
 unfold Kk at h;split at h
 ·cases h;exact⟨rfl, .refl _⟩
 ·cases h
theorem X4{a:EV Cn}{x:Int}(h:LG a=some x):Dec a (.at (.int .u32 x)):=by
 unfold LG at h;split at h
 ·cases h;exact⟨rfl, .refl _⟩
 ·cases h
theorem V4{a:EV Cn}{x:Int}(h:KG a=some x):Dec a (.at (.int .u64 x)):=by
 unfold KG at h;split at h
 ·cases h;exact⟨rfl, .refl _⟩
 ·cases h
theorem wH{a:EV Cn}{x:Int}(h:Ev a=some x):Dec a (.at (.int .u8 x)):=by
 unfold Ev at h;split at h
 ·cases h;exact⟨rfl, .refl _⟩
 ·cases h
theorem Hw{a:EV Cn}{x:Bool}(h:um a=some x):Dec a (.at (.bool x)):=by
 unfold um at h;split at h
 ·cases h;exact⟨rfl, .refl _⟩
 ·cases h
theorem Ao{a:EV Cn}{x:Str}(h:dStr a=some x):Dec a (.str x):=by
 unfold dStr at h;split at h
 ·cases h;exact⟨rfl, .refl _⟩
 ·cases h
theorem YW{a:EV Cn}{x:List UInt8}(h:nJ a=some x):Dec a (.sl (x.map (I.full 5))):=by
 unfold nJ at h;split at h
 ·cases h;exact⟨rfl, .nil⟩
 ·cases h;exact⟨rfl, .refl _⟩
 ·cases h
theorem vX{a:EV Cn}{x:List (List zb)}(h:TE a=some x):Dec a (.sl (x.map (I.full 23))):=by
 unfold TE at h;split at h
 ·cases h;exact⟨rfl, .nil⟩
 ·cases h;exact⟨rfl, .refl _⟩
 ·cases h
theorem uX{a:EV Cn}{x:List zf}(h:SE a=some x):Dec a (.sl (x.map (I.full 44))):=by
 unfold SE at h;split at h
 ·cases h;exact⟨rfl, .nil⟩
 ·cases h;exact⟨rfl, .refl _⟩
 ·cases h
theorem oG{a:EV Cn}{x:List zb}(h:ku a=some x):Dec a (.sl (x.map (I.full 49))):=by
 unfold ku at h;split at h
 ·cases h;exact⟨rfl, .nil⟩
 ·cases h;exact⟨rfl, .refl _⟩
 ·cases h
theorem bY{a:EV Cn}{x:List z8}(h:OE a=some x):Dec a (.sl (x.map (I.full 66))):=by
 unfold OE at h;split at h
 ·cases h;exact⟨rfl, .nil⟩
 ·cases h;exact⟨rfl, .refl _⟩
 ·cases h
theorem iZ{a:EV Cn}{x:List Zg}(h:BF a=some x):Dec a (.sl (x.map (I.full 172))):=by
 unfold BF at h;split at h
 ·cases h;exact⟨rfl, .nil⟩
 ·cases h;exact⟨rfl, .refl _⟩
 ·cases h
theorem zBh(n:Nat): ∀(c:TC) (cs:List (EV Cn)) (x:Ct c),mC c cs=some x->All2 Dec cs (fC n c x)
 | .bool,cs,x,h=>by
  simp only[mC]at h;split at h
  ·obtain⟨x0,h0,h⟩:=Da.1 h;injection h with h;subst h;exact .cons (Hw h0) .nil
  ·cases h
 | .int_i32,cs,x,h=>by
  simp only[mC]at h;split at h
  ·obtain⟨x0,h0,h⟩:=Da.1 h;injection h with h;subst h;exact .cons (Y4 h0) .nil
  ·cases h
 | .int_i64,cs,x,h=>by
  simp only[mC]at h;split at h
  ·obtain⟨x0,h0,h⟩:=Da.1 h;injection h with h;subst h;exact .cons (Q9 h0) .nil
  ·cases h
 | .int_u32,cs,x,h=>by
  simp only[mC]at h;split at h
  ·obtain⟨x0,h0,h⟩:=Da.1 h;injection h with h;subst h;exact .cons (X4 h0) .nil
  ·cases h
 | .int_u64,cs,x,h=>by
  simp only[mC]at h;split at h
  ·obtain⟨x0,h0,h⟩:=Da.1 h;injection h with h;subst h;exact .cons (V4 h0) .nil
  ·cases h
 | .int_u8,cs,x,h=>by
  simp only[mC]at h;split at h
  ·obtain⟨x0,h0,h⟩:=Da.1 h;have:=bZ h;subst this;exact .cons (wH h0) .nil
  ·cases h
 | .sl_172,cs,x,h=>by
  simp only[mC]at h;split at h
  ·obtain⟨x0,h0,h⟩:=Da.1 h;injection h with h;subst h;exact .cons (iZ h0) .nil
  ·cases h
 | .sl_23,cs,x,h=>by
  simp only[mC]at h;split at h
  ·obtain⟨x0,h0,h⟩:=Da.1 h;injection h with h;subst h;exact .cons (vX h0) .nil
  ·cases h
 | .sl_44,cs,x,h=>by
  simp only[mC]at h;split at h
  ·obtain⟨x0,h0,h⟩:=Da.1 h;injection h with h;subst h;exact .cons (uX h0) .nil
  ·cases h
 | .sl_49,cs,x,h=>by
  simp only[mC]at h;split at h
  ·obtain⟨x0,h0,h⟩:=Da.1 h;injection h with h;subst h;exact .cons (oG h0) .nil
  ·cases h
 | .sl_5,cs,x,h=>by
  simp only[mC]at h;split at h
  ·obtain⟨x0,h0,h⟩:=Da.1 h;injection h with h;subst h;exact .cons (YW h0) .nil
  ·cases h
 | .sl_66,cs,x,h=>by
  simp only[mC]at h;split at h
  ·obtain⟨x0,h0,h⟩:=Da.1 h;injection h with h;subst h;exact .cons (bY h0) .nil
  ·cases h
 | .st_VArr2_i64,cs,x,h=>by
  simp only[mC]at h;split at h
  ·obtain⟨x0,h0,h⟩:=Da.1 h;obtain⟨x1,h1,h⟩:=Da.1 h;injection h with h;subst h;exact .cons (Q9 h0) (.cons (Q9 h1) .nil)
  ·cases h
 | .st_VDecl,cs,x,h=>by
  simp only[mC]at h;split at h
  ·obtain⟨x0,h0,h⟩:=Da.1 h;obtain⟨x1,h1,h⟩:=Da.1 h;obtain⟨x2,h2,h⟩:=Da.1 h;injection h with h;subst h;exact .cons (Ao h0) (.cons (oG h1) (.cons (Hw h2) .nil))
  ·cases h
 | .st_VToken,cs,x,h=>by
  simp only[mC]at h;split at h
  ·obtain⟨x0,h0,h⟩:=Da.1 h;obtain⟨x1,h1,h⟩:=Da.1 h;obtain⟨x2,h2,h⟩:=Da.1 h;obtain⟨x3,h3,h⟩:=Da.1 h;obtain⟨x4,h4,h⟩:=Da.1 h;injection h with h;subst h;exact .cons (wH h0) (.cons (Ao h1) (.cons (Q9 h2) (.cons (Ao h3) (.cons (Hw h4) .nil))))
  ·cases h
 | .st_VValue,cs,x,h=>by
  simp only[mC]at h;split at h
  ·obtain⟨x0,h0,h⟩:=Da.1 h;obtain⟨x1,h1,h⟩:=Da.1 h;obtain⟨x2,h2,h⟩:=Da.1 h;obtain⟨x3,h3,h⟩:=Da.1 h;obtain⟨x4,h4,h⟩:=Da.1 h;obtain⟨x5,h5,h⟩:=Da.1 h;injection h with h;subst h;show All2 Dec _ (zt _);simp only[zt,OD];exact .cons (wH h0) (.cons (Ao h1) (.cons (Q9 h2) (.cons (Ao h3) (.cons (Hw h4) (.cons (oG h5) .nil)))))
  ·cases h
 | .st_Vnest_found,cs,x,h=>by
  simp only[mC]at h;split at h
  ·obtain⟨x0,h0,h⟩:=Da.1 h;obtain⟨x1,h1,h⟩:=Da.1 h;obtain⟨x2,h2,h⟩:=Da.1 h;injection h with h;subst h;exact .cons (Q9 h0) (.cons (Q9 h1) (.cons (Hw h2) .nil))
  ·cases h
 | .st_Vtoken_scanner,cs,x,h=>by
  simp only[mC]at h;split at h
  ·obtain⟨x0,h0,h⟩:=Da.1 h;obtain⟨x1,h1,h⟩:=Da.1 h;injection h with h;subst h;exact .cons (Ao h0) (.cons (Q9 h1) .nil)
  ·cases h
 | .str,cs,x,h=>by
  simp only[mC]at h;split at h
  ·obtain⟨x0,h0,h⟩:=Da.1 h;injection h with h;subst h;exact .cons (Ao h0) .nil
  ·cases h
 | .other,cs,x,h=>by cases h
theorem fe(n:Nat): ∀(c:TC) (x:Ct c),fC n c x=(eC n c x).map (pvE I)
 | .bool,x=>rfl
 | .int_i32,x=>rfl
 | .int_i64,x=>rfl
 | .int_u32,x=>rfl
 | .int_u64,x=>rfl
 | .int_u8,x=>rfl
 | .sl_172,x=>rfl
 | .sl_23,x=>rfl
 | .sl_44,x=>rfl
 | .sl_49,x=>rfl
 | .sl_5,x=>rfl
 | .sl_66,x=>rfl
 | .st_VArr2_i64,x=>rfl
 | .st_VDecl,x=>rfl
 | .st_VToken,x=>rfl
 | .st_VValue,(x:zb)=>by obtain⟨x_token,x_list⟩:=x;show zt _=_;simp only[zt,OD];rfl
 | .st_Vnest_found,x=>rfl
 | .st_Vtoken_scanner,x=>rfl
 | .str,x=>rfl
 | .other,x=>by show List.replicate n (PV.at (Value.slice none 0 0))=(List.replicate n EV.nil).map (pvE I);rw[List.map_replicate];rfl
theorem zBZ(n:Nat)(c:TC)(x:Ct c)(h:c≠ .other->n=size c):(eC n c x).length=n:=by
 cases c
 case other=>simp[eC]
 all_goals (rw[h (by simp)];rfl)
theorem zAT(n:Nat): ∀(c:TC) (x:Ct c),(eC n c x).all (Wl (I:=I))=true
 | .bool,x=>rfl
 | .int_i32,x=>rfl
 | .int_i64,x=>rfl
 | .int_u32,x=>rfl
 | .int_u64,x=>rfl
 | .int_u8,x=>rfl
 | .sl_172,x=>rfl
 | .sl_23,x=>rfl
 | .sl_44,x=>rfl
 | .sl_49,x=>rfl
 | .sl_5,x=>rfl
 | .sl_66,x=>rfl
 | .st_VArr2_i64,x=>rfl
 | .st_VDecl,x=>rfl
 | .st_VToken,x=>rfl
 | .st_VValue,x=>rfl
 | .st_Vnest_found,x=>rfl
 | .st_Vtoken_scanner,x=>rfl
 | .str,x=>rfl
 | .other,x=>by show(List.replicate n EV.nil).all (Wl (I:=I))=true;rw[Ua];intro v hv;rw[(List.mem_replicate.1 hv).2];rfl
theorem zCP:(tab.all fun p=>match p.2 with| .int_u8=>(match kdOf Tryz.prog p.1 with| .int .u8=>true|_=>false)|_=>true)=true:=by kernel_rfl
theorem zC2(t:Nat)(h:tc t= .int_u8):kdOf Tryz.prog t= .int .u8:=by
 unfold tc at h;cases hl:lk tab t with
 |none=>rw[hl]at h;cases h
 |some c=>
  rw[hl]at h;have h:c= .int_u8:=h;subst h;have:=Ua.1 zCP _ (Zi hl);simp only at this;split at this
  ·assumption
  ·cases this
theorem zAL(n:Nat): ∀(c:TC) (p:(List UInt8->List (Ct c))×(List (Ct c)->List UInt8)),bC c=some p->(∀l,(p.1 l).map (fC n c)=l.map fun b=>[PV.at (.int .u8 b.toNat)])/\(∀l,l.map (fC n c)=(p.2 l).map fun b=>[PV.at (.int .u8 b.toNat)])/\c= .int_u8:=by
 intro c p h;cases c
 case int_u8=>cases h;exact⟨fun l=>rfl,fun l=>rfl,rfl⟩
 all_goals cases h
theorem zBX(t:Nat)(p:(List UInt8->List (I.C t))×(List (I.C t)->List UInt8))(h:I.byt t=some p):(∀l,(p.1 l).map (I.full t)=l.map fun b=>[PV.at (.int .u8 b.toNat)])/\(∀l,l.map (I.full t)=(p.2 l).map fun b=>[PV.at (.int .u8 b.toNat)])/\kdOf Tryz.prog t= .int .u8:=by obtain⟨h1,h2,h3⟩:=zAL (Tryz.prog.cellsOf t) (tc t) p h;exact⟨h1,h2,zC2 t h3⟩
theorem ipOK:IpOK Tryz.prog I where
 len:=fun t x=>by show(fC _ _ x).length=_;exact(congrArg List.length (fe _ (tc t) x)).trans ((Ab ..).trans (zBZ _ (tc t) x (jW t)))
 exp:=fun t x=>fe _ _ x
 pur:=fun t x v hv=>Ua.1 (zAT _ _ x) v hv
 made:=fun t cs x h=>decs (zBh _ _ cs x h)
 byt:=zBX
noncomputable def T:TT:=[(2,ti Tryz.prog 2),(3,ti Tryz.prog 3),(4,ti Tryz.prog 4),(5,ti Tryz.prog 5),(9,ti Tryz.prog 9),(21,ti Tryz.prog 21),(22,ti Tryz.prog 22),(23,ti Tryz.prog 23),(25,ti Tryz.prog 25),(42,ti Tryz.prog 42),(44,ti Tryz.prog 44),(49,ti Tryz.prog 49),(52,ti Tryz.prog 52),(66,ti Tryz.prog 66),(71,ti Tryz.prog 71),(101,ti Tryz.prog 101),(131,ti Tryz.prog 131),(133,ti Tryz.prog 133),(140,ti Tryz.prog 140),(172,ti Tryz.prog 172),(185,ti Tryz.prog 185),(217,ti Tryz.prog 217)]
def FK:List (Nat×List Kd):=[(44,[.int .u8, .str, .int .i64, .str, .bool])]
theorem tok:TOK Tryz.prog T FK:=zCQ (l:=[2,3,4,5,9,21,22,23,25,42,44,49,52,66,71,101,131,133,140,172,185,217]) (by
 intro p hp;simp only[FK,Jb,Te,mg]at hp;rcases hp with rfl<;>kernel_rfl)
theorem mixed:Tryz.prog.follows .mixedOrders=true:=by kernel_rfl
noncomputable def body(f:Go.Func):Code:=match f.body with|some c=>c|none=> .skip
noncomputable def rsl(f:Go.Func):List ResultVar:=f.results.toList
end Go.Lv.VT
