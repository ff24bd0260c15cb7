/- What stands for the values of types. -/
import Derived.Test.YtpcfcdmidhbkmaaGreatDoorProg
import Derived.Test.YtpcfcdmidhbkmaaGreatDoorLf
import Derived.Test.YtpcfcdmidhbkmaaGreatDoorTy
import Derived.KernelRfl
set_option linter.unusedSimpArgs false
set_option linter.unusedVariables false
namespace Go.Lv.VT
set_option maxRecDepth 100000
open Go.Proofs
inductive TC where
 |bool|int_i32|int_i64|int_u32|int_u64|int_u8|sl_34|sl_44|sl_5|st_VArr12_str|st_VToken|st_Vglue_start|st_Vtoken_scanner|str|other
def Ct:TC->Type
 | .bool=>Bool| .int_i32=>Int| .int_i64=>Int| .int_u32=>Int| .int_u64=>Int| .int_u8=>UInt8| .sl_34=>List zb| .sl_44=>List zq| .sl_5=>List UInt8| .st_VArr12_str=>Qe| .st_VToken=>zb| .st_Vglue_start=>zq| .st_Vtoken_scanner=>za| .str=>Str| .other=>Unit
def tab:List (Nat×TC):=[(2, .int_i64),(3, .int_i64),(4, .bool),(5, .int_u8),(9, .str),(21, .int_i32),(22, .sl_34),(26, .int_i64),(34, .st_VToken),(40, .sl_5),(41, .sl_44),(44, .st_Vglue_start),(56, .st_VArr12_str),(61, .st_Vtoken_scanner),(67, .int_u64),(94, .int_u32),(125, .int_u64)]
def tc(t:Nat):TC:=match lk tab t with|some c=>c|none=> .other
def Cn(t:Nat):Type:=Ct (tc t)
def dC:(c:TC)->Ct c
 | .bool=>(default:Bool)| .int_i32=>(default:Int)| .int_i64=>(default:Int)| .int_u32=>(default:Int)| .int_u64=>(default:Int)| .int_u8=>(default:UInt8)| .sl_34=>(default:List zb)| .sl_44=>(default:List zq)| .sl_5=>(default:List UInt8)| .st_VArr12_str=>(default:Qe)| .st_VToken=>(default:zb)| .st_Vglue_start=>(default:zq)| .st_Vtoken_scanner=>(default:za)| .str=>(default:Str)| .other=>()
def size:TC->Nat
 | .st_VArr12_str=>12| .st_VToken=>5| .st_Vglue_start=>2| .st_Vtoken_scanner=>2|_=>1
def V6(x:Qe):List PV:=[.str x.e0, .str x.e1, .str x.e2, .str x.e3, .str x.e4, .str x.e5, .str x.e6, .str x.e7, .str x.e8, .str x.e9, .str x.e10, .str x.e11]
def Qf(x:zb):List PV:=[.at (.int .u8 x.kind), .str x.text, .at (.int .i64 x.num), .str x.unit, .at (.bool x.flag)]
def dO(x:zq):List PV:=[.at (.int .i64 x.token), .at (.int .i64 x.at_)]
def H8(x:za):List PV:=[.str x.s, .at (.int .i64 x.at_)]
def fC(n:Nat):(c:TC)->Ct c->List PV
 | .bool,(x:Bool)=>[.at (.bool x)]
 | .int_i32,(x:Int)=>[.at (.int .i32 x)]
 | .int_i64,(x:Int)=>[.at (.int .i64 x)]
 | .int_u32,(x:Int)=>[.at (.int .u32 x)]
 | .int_u64,(x:Int)=>[.at (.int .u64 x)]
 | .int_u8,(x:UInt8)=>[.at (.int .u8 x.toNat)]
 | .sl_34,(x:List zb)=>[.sl (x.map Qf)]
 | .sl_44,(x:List zq)=>[.sl (x.map dO)]
 | .sl_5,(x:List UInt8)=>[.sl (x.map (fun y=>[.at (.int .u8 y.toNat)]))]
 | .st_VArr12_str,(x:Qe)=>V6 x
 | .st_VToken,(x:zb)=>Qf x
 | .st_Vglue_start,(x:zq)=>dO x
 | .st_Vtoken_scanner,(x:za)=>H8 x
 | .str,(x:Str)=>[.str x]
 | .other,_=>List.replicate n (.at (.slice none 0 0))
def eC(n:Nat):(c:TC)->Ct c->List (EV Cn)
 | .bool,(x:Bool)=>[.bool x]
 | .int_i32,(x:Int)=>[.int .i32 x]
 | .int_i64,(x:Int)=>[.int .i64 x]
 | .int_u32,(x:Int)=>[.int .u32 x]
 | .int_u64,(x:Int)=>[.int .u64 x]
 | .int_u8,(x:UInt8)=>[.int .u8 (x.toNat:Int)]
 | .sl_34,(x:List zb)=>[.sl 34 x]
 | .sl_44,(x:List zq)=>[.sl 44 x]
 | .sl_5,(x:List UInt8)=>[.sl 5 x]
 | .st_VArr12_str,(x:Qe)=>[.str x.e0, .str x.e1, .str x.e2, .str x.e3, .str x.e4, .str x.e5, .str x.e6, .str x.e7, .str x.e8, .str x.e9, .str x.e10, .str x.e11]
 | .st_VToken,(x:zb)=>[.int .u8 x.kind, .str x.text, .int .i64 x.num, .str x.unit, .bool x.flag]
 | .st_Vglue_start,(x:zq)=>[.int .i64 x.token, .int .i64 x.at_]
 | .st_Vtoken_scanner,(x:za)=>[.str x.s, .int .i64 x.at_]
 | .str,(x:Str)=>[.str x]
 | .other,_=>List.replicate n .nil
def XE:EV Cn->Option Int
 | .int .i32 n=>some n
 |_=>none
def Ym:EV Cn->Option Int
 | .int .i64 n=>some n
 |_=>none
def WE:EV Cn->Option Int
 | .int .u32 n=>some n
 |_=>none
def VE:EV Cn->Option Int
 | .int .u64 n=>some n
 |_=>none
def yw:EV Cn->Option Int
 | .int .u8 n=>some n
 |_=>none
def Tv:EV Cn->Option Bool
 | .bool b=>some b
 |_=>none
def dStr:EV Cn->Option Str
 | .str l=>some l
 |_=>none
def TB:EV Cn->Option (List UInt8)
 | .nil=>some []
 | .sl 5 l=>some l
 |_=>none
def WC:EV Cn->Option (List zb)
 | .nil=>some []
 | .sl 34 l=>some l
 |_=>none
def VC:EV Cn->Option (List zq)
 | .nil=>some []
 | .sl 44 l=>some l
 |_=>none
def mC:(c:TC)->List (EV Cn)->Option (Ct c)
 | .bool=>fun cs=>match cs with|[a0]=>(Tv a0).bind fun x0=>some x0|_=>none
 | .int_i32=>fun cs=>match cs with|[a0]=>(XE a0).bind fun x0=>some x0|_=>none
 | .int_i64=>fun cs=>match cs with|[a0]=>(Ym a0).bind fun x0=>some x0|_=>none
 | .int_u32=>fun cs=>match cs with|[a0]=>(WE a0).bind fun x0=>some x0|_=>none
 | .int_u64=>fun cs=>match cs with|[a0]=>(VE a0).bind fun x0=>some x0|_=>none
 | .int_u8=>fun cs=>match cs with|[a0]=>(yw a0).bind Zq|_=>none
 | .sl_34=>fun cs=>match cs with|[a0]=>(WC a0).bind fun x0=>some x0|_=>none
 | .sl_44=>fun cs=>match cs with|[a0]=>(VC a0).bind fun x0=>some x0|_=>none
 | .sl_5=>fun cs=>match cs with|[a0]=>(TB a0).bind fun x0=>some x0|_=>none
 | .st_VArr12_str=>fun cs=>match cs with|[a0,a1,a2,a3,a4,a5,a6,a7,a8,a9,a10,a11]=>(dStr a0).bind fun x0=>(dStr a1).bind fun x1=>(dStr a2).bind fun x2=>(dStr a3).bind fun x3=>(dStr a4).bind fun x4=>(dStr a5).bind fun x5=>(dStr a6).bind fun x6=>(dStr a7).bind fun x7=>(dStr a8).bind fun x8=>(dStr a9).bind fun x9=>(dStr a10).bind fun x10=>(dStr a11).bind fun x11=>some (⟨x0,x1,x2,x3,x4,x5,x6,x7,x8,x9,x10,x11⟩:Qe)|_=>none
 | .st_VToken=>fun cs=>match cs with|[a0,a1,a2,a3,a4]=>(yw a0).bind fun x0=>(dStr a1).bind fun x1=>(Ym a2).bind fun x2=>(dStr a3).bind fun x3=>(Tv a4).bind fun x4=>some (⟨x0,x1,x2,x3,x4⟩:zb)|_=>none
 | .st_Vglue_start=>fun cs=>match cs with|[a0,a1]=>(Ym a0).bind fun x0=>(Ym a1).bind fun x1=>some (⟨x0,x1⟩:zq)|_=>none
 | .st_Vtoken_scanner=>fun cs=>match cs with|[a0,a1]=>(dStr a0).bind fun x0=>(Ym a1).bind fun x1=>some (⟨x0,x1⟩:za)|_=>none
 | .str=>fun cs=>match cs with|[a0]=>(dStr a0).bind fun x0=>some x0|_=>none
 | .other=>fun _=>none
def bC:(c:TC)->Option ((List UInt8->List (Ct c))×(List (Ct c)->List UInt8))
 | .int_u8=>some (fun l=>l,fun l=>l)
 |_=>none
noncomputable def I:Ip:=⟨Cn,fun t=>dC (tc t),fun t=>eC (Tryz.prog.cellsOf t) (tc t),fun t=>mC (tc t),fun t=>fC (Tryz.prog.cellsOf t) (tc t),fun t=>bC (tc t)⟩
theorem zAT:(tab.all fun p=>Nat.beq (Tryz.prog.cellsOf p.1) (size p.2))=true:=by kernel_rfl
theorem VU(t:Nat)(h:tc t≠ .other):Tryz.prog.cellsOf t=size (tc t):=by
 unfold tc at h ⊢;cases hl:lk tab t with
 |none=>rw[hl]at h;exact absurd rfl h
 |some c=> simp only;exact Oa (Ub.1 zAT _ (QW hl))
def Dec(a:EV Cn)(p:PV):Prop:=Mi (I:=I) a=true/\WkP (pvE I a) p
theorem decs{cs:List (EV Cn)}{ps:List PV}(h:All2 Dec cs ps):(∀v∈cs,Mi (I:=I) v=true)/\cs.length=ps.length/\ ∀(j:Nat) (a b:PV),(cs.map (pvE I))[j]? =some a->ps[j]? =some b->WkP a b:=by
 induction h with
 |nil=>exact⟨fun v hv=>(by cases hv),rfl,fun j a b ha=>(by cases ha)⟩
 |cons h1 _ ih=>
  refine⟨fun v hv=> ?_,congrArg Nat.succ ih.2.1,fun j a b ha hb=> ?_⟩
  ·rcases Bb.1 hv with rfl|hv
   ·exact h1.1
   ·exact ih.1 v hv
  ·cases j with
   |zero=>injection ha with ha;injection hb with hb;rw[<-ha,<-hb];exact h1.2
   |succ j=>exact ih.2.2 j a b ha hb
theorem BZ{a:EV Cn}{x:Int}(h:XE a=some x):Dec a (.at (.int .i32 x)):=by
 unfold XE at h;split at h
 ·cases h;exact⟨rfl, .refl _⟩
 ·cases h
theorem wu{a:EV Cn}{x:Int}(h:Ym a=some x):Dec a (.at (.int .i64 x)):=by
 unfold Ym at h;split at h
 ·cases h;exact⟨rfl, .refl _⟩
 ·cases h
theorem AZ{a:EV Cn}{x:Int}(h:WE a=some x):Dec a (.at (.int .u32 x)):=by
 unfold WE at h;split at h
 ·cases h;exact⟨rfl, .refl _⟩
 ·cases h
theorem yY{a:EV Cn}{x:Int}(h:VE a=some x):Dec a (.at (.int .u64 x)):=by
 unfold VE at h;split at h
 ·cases h;exact⟨rfl, .refl _⟩
 ·cases h
theorem SN{a:EV Cn}{x:Int}(h:yw a=some x):Dec a (.at (.int .u8 x)):=by
 unfold yw at h;split at h
 ·cases h;exact⟨rfl, .refl _⟩
 ·cases h
theorem ML{a:EV Cn}{x:Bool}(h:Tv a=some x):Dec a (.at (.bool x)):=by
 unfold Tv at h;split at h
 ·cases h;exact⟨rfl, .refl _⟩
 ·cases h
theorem QO{a:EV Cn}{x:Str}(h:dStr a=some x):Dec a (.str x):=by
 unfold dStr at h;split at h
 ·cases h;exact⟨rfl, .refl _⟩
 ·cases h
theorem RV{a:EV Cn}{x:List UInt8}(h:TB a=some x):Dec a (.sl (x.map (I.full 5))):=by
 unfold TB at h;split at h
 ·cases h;exact⟨rfl, .nil⟩
 ·cases h;exact⟨rfl, .refl _⟩
 ·cases h
theorem DX{a:EV Cn}{x:List zb}(h:WC a=some x):Dec a (.sl (x.map (I.full 34))):=by
 unfold WC at h;split at h
 ·cases h;exact⟨rfl, .nil⟩
 ·cases h;exact⟨rfl, .refl _⟩
 ·cases h
theorem CX{a:EV Cn}{x:List zq}(h:VC a=some x):Dec a (.sl (x.map (I.full 44))):=by
 unfold VC at h;split at h
 ·cases h;exact⟨rfl, .nil⟩
 ·cases h;exact⟨rfl, .refl _⟩
 ·cases h
theorem iQ(n:Nat): ∀(c:TC) (cs:List (EV Cn)) (x:Ct c),mC c cs=some x->All2 Dec cs (fC n c x)
 | .bool,cs,x,h=>by
  simp only[mC]at h;split at h
  ·obtain⟨x0,h0,h⟩:=Ca.1 h;injection h with h;subst h;exact .cons (ML h0) .nil
  ·cases h
 | .int_i32,cs,x,h=>by
  simp only[mC]at h;split at h
  ·obtain⟨x0,h0,h⟩:=Ca.1 h;injection h with h;subst h;exact .cons (BZ h0) .nil
  ·cases h
 | .int_i64,cs,x,h=>by
  simp only[mC]at h;split at h
  ·obtain⟨x0,h0,h⟩:=Ca.1 h;injection h with h;subst h;exact .cons (wu h0) .nil
  ·cases h
 | .int_u32,cs,x,h=>by
  simp only[mC]at h;split at h
  ·obtain⟨x0,h0,h⟩:=Ca.1 h;injection h with h;subst h;exact .cons (AZ h0) .nil
  ·cases h
 | .int_u64,cs,x,h=>by
  simp only[mC]at h;split at h
  ·obtain⟨x0,h0,h⟩:=Ca.1 h;injection h with h;subst h;exact .cons (yY h0) .nil
  ·cases h
 | .int_u8,cs,x,h=>by
  simp only[mC]at h;split at h
  ·obtain⟨x0,h0,h⟩:=Ca.1 h;have:=oW h;subst this;exact .cons (SN h0) .nil
  ·cases h
 | .sl_34,cs,x,h=>by
  simp only[mC]at h;split at h
  ·obtain⟨x0,h0,h⟩:=Ca.1 h;injection h with h;subst h;exact .cons (DX h0) .nil
  ·cases h
 | .sl_44,cs,x,h=>by
  simp only[mC]at h;split at h
  ·obtain⟨x0,h0,h⟩:=Ca.1 h;injection h with h;subst h;exact .cons (CX h0) .nil
  ·cases h
 | .sl_5,cs,x,h=>by
  simp only[mC]at h;split at h
  ·obtain⟨x0,h0,h⟩:=Ca.1 h;injection h with h;subst h;exact .cons (RV h0) .nil
  ·cases h
 | .st_VArr12_str,cs,x,h=>by
  simp only[mC]at h;split at h
  ·obtain⟨x0,h0,h⟩:=Ca.1 h;obtain⟨x1,h1,h⟩:=Ca.1 h;obtain⟨x2,h2,h⟩:=Ca.1 h;obtain⟨x3,h3,h⟩:=Ca.1 h;obtain⟨x4,h4,h⟩:=Ca.1 h;obtain⟨x5,h5,h⟩:=Ca.1 h;obtain⟨x6,h6,h⟩:=Ca.1 h;obtain⟨x7,h7,h⟩:=Ca.1 h;obtain⟨x8,h8,h⟩:=Ca.1 h;obtain⟨x9,h9,h⟩:=Ca.1 h;obtain⟨x10,h10,h⟩:=Ca.1 h;obtain⟨x11,h11,h⟩:=Ca.1 h;injection h with h;subst h;exact .cons (QO h0) (.cons (QO h1) (.cons (QO h2) (.cons (QO h3) (.cons (QO h4) (.cons (QO h5) (.cons (QO h6) (.cons (QO h7) (.cons (QO h8) (.cons (QO h9) (.cons (QO h10) (.cons (QO h11) .nil)))))))))))
  ·cases h
 | .st_VToken,cs,x,h=>by
  simp only[mC]at h;split at h
  ·obtain⟨x0,h0,h⟩:=Ca.1 h;obtain⟨x1,h1,h⟩:=Ca.1 h;obtain⟨x2,h2,h⟩:=Ca.1 h;obtain⟨x3,h3,h⟩:=Ca.1 h;obtain⟨x4,h4,h⟩:=Ca.1 h;injection h with h;subst h;exact .cons (SN h0) (.cons (QO h1) (.cons (wu h2) (.cons (QO h3) (.cons (ML h4) .nil))))
  ·cases h
 | .st_Vglue_start,cs,x,h=>by
  simp only[mC]at h;split at h
  ·obtain⟨x0,h0,h⟩:=Ca.1 h;obtain⟨x1,h1,h⟩:=Ca.1 h;injection h with h;subst h;exact .cons (wu h0) (.cons (wu h1) .nil)
  ·cases h
 | .st_Vtoken_scanner,cs,x,h=>by
  simp only[mC]at h;split at h
  ·obtain⟨x0,h0,h⟩:=Ca.1 h;obtain⟨x1,h1,h⟩:=Ca.1 h;injection h with h;subst h;exact .cons (QO h0) (.cons (wu h1) .nil)
  ·cases h
 | .str,cs,x,h=>by
  simp only[mC]at h;split at h
  ·obtain⟨x0,h0,h⟩:=Ca.1 h;injection h with h;subst h;exact .cons (QO h0) .nil
  ·cases h
 | .other,cs,x,h=>by cases h
theorem fe(n:Nat): ∀(c:TC) (x:Ct c),fC n c x=(eC n c x).map (pvE I)
 | .bool,x=>rfl
 | .int_i32,x=>rfl
 | .int_i64,x=>rfl
 | .int_u32,x=>rfl
 | .int_u64,x=>rfl
 | .int_u8,x=>rfl
 | .sl_34,x=>rfl
 | .sl_44,x=>rfl
 | .sl_5,x=>rfl
 | .st_VArr12_str,x=>rfl
 | .st_VToken,x=>rfl
 | .st_Vglue_start,x=>rfl
 | .st_Vtoken_scanner,x=>rfl
 | .str,x=>rfl
 | .other,x=>by show List.replicate n (PV.at (Value.slice none 0 0))=(List.replicate n EV.nil).map (pvE I);rw[List.map_replicate];rfl
theorem FQ(n:Nat)(c:TC)(x:Ct c)(h:c≠ .other->n=size c):(eC n c x).length=n:=by
 cases c
 case other=>simp[eC]
 all_goals (rw[h (by simp)];rfl)
theorem lS(n:Nat): ∀(c:TC) (x:Ct c),(eC n c x).all (Mi (I:=I))=true
 | .bool,x=>rfl
 | .int_i32,x=>rfl
 | .int_i64,x=>rfl
 | .int_u32,x=>rfl
 | .int_u64,x=>rfl
 | .int_u8,x=>rfl
 | .sl_34,x=>rfl
 | .sl_44,x=>rfl
 | .sl_5,x=>rfl
 | .st_VArr12_str,x=>rfl
 | .st_VToken,x=>rfl
 | .st_Vglue_start,x=>rfl
 | .st_Vtoken_scanner,x=>rfl
 | .str,x=>rfl
 | .other,x=>by show(List.replicate n EV.nil).all (Mi (I:=I))=true;rw[Ub];intro v hv;rw[(List.mem_replicate.1 hv).2];rfl
theorem zAU:(tab.all fun p=>match p.2 with| .int_u8=>(match kdOf Tryz.prog p.1 with| .int .u8=>true|_=>false)|_=>true)=true:=by kernel_rfl
theorem zA6(t:Nat)(h:tc t= .int_u8):kdOf Tryz.prog t= .int .u8:=by
 unfold tc at h;cases hl:lk tab t with
 |none=>rw[hl]at h;cases h
 |some c=>
  rw[hl]at h;have h:c= .int_u8:=h;subst h;have:=Ub.1 zAU _ (QW hl);simp only at this;split at this
  ·assumption
  ·cases this
theorem MS(n:Nat): ∀(c:TC) (p:(List UInt8->List (Ct c))×(List (Ct c)->List UInt8)),bC c=some p->(∀l,(p.1 l).map (fC n c)=l.map fun b=>[PV.at (.int .u8 b.toNat)])/\(∀l,l.map (fC n c)=(p.2 l).map fun b=>[PV.at (.int .u8 b.toNat)])/\c= .int_u8:=by
 intro c p h;cases c
 case int_u8=>cases h;exact⟨fun l=>rfl,fun l=>rfl,rfl⟩
 all_goals cases h
theorem NQ(t:Nat)(p:(List UInt8->List (I.C t))×(List (I.C t)->List UInt8))(h:I.byt t=some p):(∀l,(p.1 l).map (I.full t)=l.map fun b=>[PV.at (.int .u8 b.toNat)])/\(∀l,l.map (I.full t)=(p.2 l).map fun b=>[PV.at (.int .u8 b.toNat)])/\kdOf Tryz.prog t= .int .u8:=by obtain⟨h1,h2,h3⟩:=MS (Tryz.prog.cellsOf t) (tc t) p h;exact⟨h1,h2,zA6 t h3⟩
theorem ipOK:IpOK Tryz.prog I where
 len:=fun t x=>by show(fC _ _ x).length=_;exact(congrArg List.length (fe _ (tc t) x)).trans ((Ab ..).trans (FQ _ (tc t) x (VU t)))
 exp:=fun t x=>fe _ _ x
 pur:=fun t x v hv=>Ub.1 (lS _ _ x) v hv
 made:=fun t cs x h=>decs (iQ _ _ cs x h)
 byt:=NQ
noncomputable def T:TT:=[(2,ti Tryz.prog 2),(3,ti Tryz.prog 3),(4,ti Tryz.prog 4),(5,ti Tryz.prog 5),(9,ti Tryz.prog 9),(21,ti Tryz.prog 21),(22,ti Tryz.prog 22),(26,ti Tryz.prog 26),(34,ti Tryz.prog 34),(40,ti Tryz.prog 40),(41,ti Tryz.prog 41),(44,ti Tryz.prog 44),(56,ti Tryz.prog 56),(59,ti Tryz.prog 59),(61,ti Tryz.prog 61),(67,ti Tryz.prog 67),(94,ti Tryz.prog 94),(125,ti Tryz.prog 125)]
def FK:List (Nat×List Kd):=[(34,[.int .u8, .str, .int .i64, .str, .bool])]
theorem tok:TOK Tryz.prog T FK:=VH (l:=[2,3,4,5,9,21,22,26,34,40,41,44,56,59,61,67,94,125]) (by
 intro p hp;simp only[FK,Bb,Sd,Rf]at hp;rcases hp with rfl<;>kernel_rfl)
theorem mixed:Tryz.prog.follows .mixedOrders=true:=by kernel_rfl
noncomputable def body(f:Go.Func):Code:=match f.body with|some c=>c|none=> .skip
noncomputable def rsl(f:Go.Func):List ResultVar:=f.results.toList
end Go.Lv.VT
