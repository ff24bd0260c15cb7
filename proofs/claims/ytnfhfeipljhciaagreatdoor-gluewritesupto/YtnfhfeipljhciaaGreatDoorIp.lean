/- What stands for the values of types. -/
import Derived.Test.YtnfhfeipljhciaaGreatDoorProg
import Derived.Test.YtnfhfeipljhciaaGreatDoorLf
import Derived.Test.YtnfhfeipljhciaaGreatDoorTy
import Derived.KernelRfl
set_option linter.unusedSimpArgs false
set_option linter.unusedVariables false
namespace Go.Lv.VT
set_option maxRecDepth 100000
open Go.Proofs
inductive TC where
 |bool|int_i32|int_i64|int_u32|int_u64|int_u8|sl_151|sl_5|sl_51|sl_89|sl_9|st_VArr12_str|st_VArr2_i64|st_VToken|st_Vglue_start|st_Vtoken_scanner|str|other
def Ct:TC->Type
 | .bool=>Bool| .int_i32=>Int| .int_i64=>Int| .int_u32=>Int| .int_u64=>Int| .int_u8=>UInt8| .sl_151=>List Ze| .sl_5=>List UInt8| .sl_51=>List zb| .sl_89=>List zA| .sl_9=>List Str| .st_VArr12_str=>QE| .st_VArr2_i64=>Ze| .st_VToken=>zb| .st_Vglue_start=>zA| .st_Vtoken_scanner=>za| .str=>Str| .other=>Unit
def tab:List (Nat×TC):=[(2, .int_i64),(3, .int_i64),(4, .bool),(5, .int_u8),(9, .str),(12, .int_u64),(21, .int_i32),(26, .int_i64),(41, .sl_51),(51, .st_VToken),(59, .sl_5),(86, .sl_89),(89, .st_Vglue_start),(100, .st_Vtoken_scanner),(122, .sl_151),(130, .st_VArr12_str),(136, .sl_9),(151, .st_VArr2_i64),(154, .int_u64),(171, .int_u64),(181, .int_u32)]
def tc(t:Nat):TC:=match lk tab t with|some c=>c|none=> .other
def Cn(t:Nat):Type:=Ct (tc t)
def dC:(c:TC)->Ct c
 | .bool=>(default:Bool)| .int_i32=>(default:Int)| .int_i64=>(default:Int)| .int_u32=>(default:Int)| .int_u64=>(default:Int)| .int_u8=>(default:UInt8)| .sl_151=>(default:List Ze)| .sl_5=>(default:List UInt8)| .sl_51=>(default:List zb)| .sl_89=>(default:List zA)| .sl_9=>(default:List Str)| .st_VArr12_str=>(default:QE)| .st_VArr2_i64=>(default:Ze)| .st_VToken=>(default:zb)| .st_Vglue_start=>(default:zA)| .st_Vtoken_scanner=>(default:za)| .str=>(default:Str)| .other=>()
def size:TC->Nat
 | .st_VArr12_str=>12| .st_VArr2_i64=>2| .st_VToken=>5| .st_Vglue_start=>2| .st_Vtoken_scanner=>2|_=>1
def d9(x:QE):List PV:=[.str x.e0, .str x.e1, .str x.e2, .str x.e3, .str x.e4, .str x.e5, .str x.e6, .str x.e7, .str x.e8, .str x.e9, .str x.e10, .str x.e11]
def bS(x:Ze):List PV:=[.at (.int .i64 x.e0), .at (.int .i64 x.e1)]
def ZX(x:zb):List PV:=[.at (.int .u8 x.kind), .str x.text, .at (.int .i64 x.num), .str x.unit, .at (.bool x.flag)]
def YT(x:zA):List PV:=[.at (.int .i64 x.token), .at (.int .i64 x.at_)]
def zg3(x:za):List PV:=[.str x.s, .at (.int .i64 x.at_)]
def fC(n:Nat):(c:TC)->Ct c->List PV
 | .bool,(x:Bool)=>[.at (.bool x)]
 | .int_i32,(x:Int)=>[.at (.int .i32 x)]
 | .int_i64,(x:Int)=>[.at (.int .i64 x)]
 | .int_u32,(x:Int)=>[.at (.int .u32 x)]
 | .int_u64,(x:Int)=>[.at (.int .u64 x)]
 | .int_u8,(x:UInt8)=>[.at (.int .u8 x.toNat)]
 | .sl_151,(x:List Ze)=>[.sl (x.map bS)]
 | .sl_5,(x:List UInt8)=>[.sl (x.map (fun y=>[.at (.int .u8 y.toNat)]))]
 | .sl_51,(x:List zb)=>[.sl (x.map ZX)]
 | .sl_89,(x:List zA)=>[.sl (x.map YT)]
 | .sl_9,(x:List Str)=>[.sl (x.map (fun y=>[.str y]))]
 | .st_VArr12_str,(x:QE)=>d9 x
 | .st_VArr2_i64,(x:Ze)=>bS x
 | .st_VToken,(x:zb)=>ZX x
 | .st_Vglue_start,(x:zA)=>YT x
 | .st_Vtoken_scanner,(x:za)=>zg3 x
 | .str,(x:Str)=>[.str x]
 | .other,_=>List.replicate n (.at (.slice none 0 0))
def eC(n:Nat):(c:TC)->Ct c->List (EV Cn)
 | .bool,(x:Bool)=>[.bool x]
 | .int_i32,(x:Int)=>[.int .i32 x]
 | .int_i64,(x:Int)=>[.int .i64 x]
 | .int_u32,(x:Int)=>[.int .u32 x]
 | .int_u64,(x:Int)=>[.int .u64 x]
 | .int_u8,(x:UInt8)=>[.int .u8 (x.toNat:Int)]
 | .sl_151,(x:List Ze)=>[.sl 151 x]
 | .sl_5,(x:List UInt8)=>[.sl 5 x]
 | .sl_51,(x:List zb)=>[.sl 51 x]
 | .sl_89,(x:List zA)=>[.sl 89 x]
 | .sl_9,(x:List Str)=>[.sl 9 x]
 | .st_VArr12_str,(x:QE)=>[.str x.e0, .str x.e1, .str x.e2, .str x.e3, .str x.e4, .str x.e5, .str x.e6, .str x.e7, .str x.e8, .str x.e9, .str x.e10, .str x.e11]
 | .st_VArr2_i64,(x:Ze)=>[.int .i64 x.e0, .int .i64 x.e1]
 | .st_VToken,(x:zb)=>[.int .u8 x.kind, .str x.text, .int .i64 x.num, .str x.unit, .bool x.flag]
 | .st_Vglue_start,(x:zA)=>[.int .i64 x.token, .int .i64 x.at_]
 | .st_Vtoken_scanner,(x:za)=>[.str x.s, .int .i64 x.at_]
 | .str,(x:Str)=>[.str x]
 | .other,_=>List.replicate n .nil
def IG:EV Cn->Option Int
 | .int .i32 n=>some n
 |_=>none
def Vl:EV Cn->Option Int
 | .int .i64 n=>some n
 |_=>none
def GG:EV Cn->Option Int
 | .int .u32 n=>some n
 |_=>none
def EG:EV Cn->Option Int
 | .int .u64 n=>some n
 |_=>none
def WA:EV Cn->Option Int
 | .int .u8 n=>some n
 |_=>none
def Uz:EV Cn->Option Bool
 | .bool b=>some b
 |_=>none
def dStr:EV Cn->Option Str
 | .str l=>some l
 |_=>none
def RJ:EV Cn->Option (List UInt8)
 | .nil=>some []
 | .sl 5 l=>some l
 |_=>none
def OJ:EV Cn->Option (List Str)
 | .nil=>some []
 | .sl 9 l=>some l
 |_=>none
def WE:EV Cn->Option (List zb)
 | .nil=>some []
 | .sl 51 l=>some l
 |_=>none
def OE:EV Cn->Option (List zA)
 | .nil=>some []
 | .sl 89 l=>some l
 |_=>none
def rE:EV Cn->Option (List Ze)
 | .nil=>some []
 | .sl 151 l=>some l
 |_=>none
def mC:(c:TC)->List (EV Cn)->Option (Ct c)
 | .bool=>fun cs=>match cs with|[a0]=>(Uz a0).bind fun x0=>some x0|_=>none
 | .int_i32=>fun cs=>match cs with|[a0]=>(IG a0).bind fun x0=>some x0|_=>none
 | .int_i64=>fun cs=>match cs with|[a0]=>(Vl a0).bind fun x0=>some x0|_=>none
 | .int_u32=>fun cs=>match cs with|[a0]=>(GG a0).bind fun x0=>some x0|_=>none
 | .int_u64=>fun cs=>match cs with|[a0]=>(EG a0).bind fun x0=>some x0|_=>none
 | .int_u8=>fun cs=>match cs with|[a0]=>(WA a0).bind ZK|_=>none
 | .sl_151=>fun cs=>match cs with|[a0]=>(rE a0).bind fun x0=>some x0|_=>none
 | .sl_5=>fun cs=>match cs with|[a0]=>(RJ a0).bind fun x0=>some x0|_=>none
 | .sl_51=>fun cs=>match cs with|[a0]=>(WE a0).bind fun x0=>some x0|_=>none
 | .sl_89=>fun cs=>match cs with|[a0]=>(OE a0).bind fun x0=>some x0|_=>none
 | .sl_9=>fun cs=>match cs with|[a0]=>(OJ a0).bind fun x0=>some x0|_=>none
 | .st_VArr12_str=>fun cs=>match cs with|[a0,a1,a2,a3,a4,a5,a6,a7,a8,a9,a10,a11]=>(dStr a0).bind fun x0=>(dStr a1).bind fun x1=>(dStr a2).bind fun x2=>(dStr a3).bind fun x3=>(dStr a4).bind fun x4=>(dStr a5).bind fun x5=>(dStr a6).bind fun x6=>(dStr a7).bind fun x7=>(dStr a8).bind fun x8=>(dStr a9).bind fun x9=>(dStr a10).bind fun x10=>(dStr a11).bind fun x11=>some (⟨x0,x1,x2,x3,x4,x5,x6,x7,x8,x9,x10,x11⟩:QE)|_=>none
 | .st_VArr2_i64=>fun cs=>match cs with|[a0,a1]=>(Vl a0).bind fun x0=>(Vl a1).bind fun x1=>some (⟨x0,x1⟩:Ze)|_=>none
 | .st_VToken=>fun cs=>match cs with|[a0,a1,a2,a3,a4]=>(WA a0).bind fun x0=>(dStr a1).bind fun x1=>(Vl a2).bind fun x2=>(dStr a3).bind fun x3=>(Uz a4).bind fun x4=>some (⟨x0,x1,x2,x3,x4⟩:zb)|_=>none
 | .st_Vglue_start=>fun cs=>match cs with|[a0,a1]=>(Vl a0).bind fun x0=>(Vl a1).bind fun x1=>some (⟨x0,x1⟩:zA)|_=>none
 | .st_Vtoken_scanner=>fun cs=>match cs with|[a0,a1]=>(dStr a0).bind fun x0=>(Vl a1).bind fun x1=>some (⟨x0,x1⟩:za)|_=>none
 | .str=>fun cs=>match cs with|[a0]=>(dStr a0).bind fun x0=>some x0|_=>none
 | .other=>fun _=>none
def bC:(c:TC)->Option ((List UInt8->List (Ct c))×(List (Ct c)->List UInt8))
 | .int_u8=>some (fun l=>l,fun l=>l)
 |_=>none
noncomputable def I:Ip:=⟨Cn,fun t=>dC (tc t),fun t=>eC (Tryz.prog.cellsOf t) (tc t),fun t=>mC (tc t),fun t=>fC (Tryz.prog.cellsOf t) (tc t),fun t=>bC (tc t)⟩
theorem zCG:(tab.all fun p=>Nat.beq (Tryz.prog.cellsOf p.1) (size p.2))=true:=by kernel_rfl
theorem gX(t:Nat)(h:tc t≠ .other):Tryz.prog.cellsOf t=size (tc t):=by
 unfold tc at h ⊢;cases hl:lk tab t with
 |none=>rw[hl]at h;exact absurd rfl h
 |some c=> simp only;exact Bb (Xa.1 zCG _ (Zi hl))
def Dec(a:EV Cn)(p:PV):Prop:=yl (I:=I) a=true/\WkP (pvE I a) p
theorem decs{cs:List (EV Cn)}{ps:List PV}(h:All2 Dec cs ps):(∀v∈cs,yl (I:=I) v=true)/\cs.length=ps.length/\ ∀(j:Nat) (a b:PV),(cs.map (pvE I))[j]? =some a->ps[j]? =some b->WkP a b:=by
 induction h with
 |nil=>exact⟨fun v hv=>(by cases hv),rfl,fun j a b ha=>(by cases ha)⟩
 |cons h1 _ ih=>
  refine⟨fun v hv=> ?_,congrArg Nat.succ ih.2.1,fun j a b ha hb=> ?_⟩
  ·rcases Yb.1 hv with rfl|hv
   ·exact h1.1
   ·exact ih.1 v hv
  ·cases j with
   |zero=>injection ha with ha;injection hb with hb;rw[<-ha,<-hb];exact h1.2
   |succ j=>exact ih.2.2 j a b ha hb
theorem M7{a:EV Cn}{x:Int}(h:IG a=some x):Dec a (.at (.int .i32 x)):=by
 unfold IG at h;split at h
 ·cases h;exact⟨rfl, .refl _⟩
 ·cases h
theorem Hq{a:EV Cn}{x:Int}(h:Vl a=some x):Dec a (.at (.int .i64 x)):=by
 unfold Vl at h;split at h
 ·cases h;exact⟨rfl, .refl _⟩
 ·cases h
theorem K7{a:EV Cn}{x:Int}(h:GG a=some x):Dec a (.at (.int .u32 x)):=by
 unfold GG at h;split at h
 ·cases h;exact⟨rfl, .refl _⟩
 ·cases h
theorem J7{a:EV Cn}{x:Int}(h:EG a=some x):Dec a (.at (.int .u64 x)):=by
 unfold EG at h;split at h
 ·cases h;exact⟨rfl, .refl _⟩
 ·cases h
theorem bP{a:EV Cn}{x:Int}(h:WA a=some x):Dec a (.at (.int .u8 x)):=by
 unfold WA at h;split at h
 ·cases h;exact⟨rfl, .refl _⟩
 ·cases h
theorem bM{a:EV Cn}{x:Bool}(h:Uz a=some x):Dec a (.at (.bool x)):=by
 unfold Uz at h;split at h
 ·cases h;exact⟨rfl, .refl _⟩
 ·cases h
theorem Yh{a:EV Cn}{x:Str}(h:dStr a=some x):Dec a (.str x):=by
 unfold dStr at h;split at h
 ·cases h;exact⟨rfl, .refl _⟩
 ·cases h
theorem aX{a:EV Cn}{x:List UInt8}(h:RJ a=some x):Dec a (.sl (x.map (I.full 5))):=by
 unfold RJ at h;split at h
 ·cases h;exact⟨rfl, .nil⟩
 ·cases h;exact⟨rfl, .refl _⟩
 ·cases h
theorem YX{a:EV Cn}{x:List Str}(h:OJ a=some x):Dec a (.sl (x.map (I.full 9))):=by
 unfold OJ at h;split at h
 ·cases h;exact⟨rfl, .nil⟩
 ·cases h;exact⟨rfl, .refl _⟩
 ·cases h
theorem nZ{a:EV Cn}{x:List zb}(h:WE a=some x):Dec a (.sl (x.map (I.full 51))):=by
 unfold WE at h;split at h
 ·cases h;exact⟨rfl, .nil⟩
 ·cases h;exact⟨rfl, .refl _⟩
 ·cases h
theorem kY{a:EV Cn}{x:List zA}(h:OE a=some x):Dec a (.sl (x.map (I.full 89))):=by
 unfold OE at h;split at h
 ·cases h;exact⟨rfl, .nil⟩
 ·cases h;exact⟨rfl, .refl _⟩
 ·cases h
theorem U0{a:EV Cn}{x:List Ze}(h:rE a=some x):Dec a (.sl (x.map (I.full 151))):=by
 unfold rE at h;split at h
 ·cases h;exact⟨rfl, .nil⟩
 ·cases h;exact⟨rfl, .refl _⟩
 ·cases h
theorem zAD(n:Nat): ∀(c:TC) (cs:List (EV Cn)) (x:Ct c),mC c cs=some x->All2 Dec cs (fC n c x)
 | .bool,cs,x,h=>by
  simp only[mC]at h;split at h
  ·obtain⟨x0,h0,h⟩:=Ha.1 h;injection h with h;subst h;exact .cons (bM h0) .nil
  ·cases h
 | .int_i32,cs,x,h=>by
  simp only[mC]at h;split at h
  ·obtain⟨x0,h0,h⟩:=Ha.1 h;injection h with h;subst h;exact .cons (M7 h0) .nil
  ·cases h
 | .int_i64,cs,x,h=>by
  simp only[mC]at h;split at h
  ·obtain⟨x0,h0,h⟩:=Ha.1 h;injection h with h;subst h;exact .cons (Hq h0) .nil
  ·cases h
 | .int_u32,cs,x,h=>by
  simp only[mC]at h;split at h
  ·obtain⟨x0,h0,h⟩:=Ha.1 h;injection h with h;subst h;exact .cons (K7 h0) .nil
  ·cases h
 | .int_u64,cs,x,h=>by
  simp only[mC]at h;split at h
  ·obtain⟨x0,h0,h⟩:=Ha.1 h;injection h with h;subst h;exact .cons (J7 h0) .nil
  ·cases h
 | .int_u8,cs,x,h=>by
  simp only[mC]at h;split at h
  ·obtain⟨x0,h0,h⟩:=Ha.1 h;have:=kZ h;subst this;exact .cons (bP h0) .nil
  ·cases h
 | .sl_151,cs,x,h=>by
  simp only[mC]at h;split at h
  ·obtain⟨x0,h0,h⟩:=Ha.1 h;injection h with h;subst h;exact .cons (U0 h0) .nil
  ·cases h
 | .sl_5,cs,x,h=>by
  simp only[mC]at h;split at h
  ·obtain⟨x0,h0,h⟩:=Ha.1 h;injection h with h;subst h;exact .cons (aX h0) .nil
  ·cases h
 | .sl_51,cs,x,h=>by
  simp only[mC]at h;split at h
  ·obtain⟨x0,h0,h⟩:=Ha.1 h;injection h with h;subst h;exact .cons (nZ h0) .nil
  ·cases h
 | .sl_89,cs,x,h=>by
  simp only[mC]at h;split at h
  ·obtain⟨x0,h0,h⟩:=Ha.1 h;injection h with h;subst h;exact .cons (kY h0) .nil
  ·cases h
 | .sl_9,cs,x,h=>by
  simp only[mC]at h;split at h
  ·obtain⟨x0,h0,h⟩:=Ha.1 h;injection h with h;subst h;exact .cons (YX h0) .nil
  ·cases h
 | .st_VArr12_str,cs,x,h=>by
  simp only[mC]at h;split at h
  ·obtain⟨x0,h0,h⟩:=Ha.1 h;obtain⟨x1,h1,h⟩:=Ha.1 h;obtain⟨x2,h2,h⟩:=Ha.1 h;obtain⟨x3,h3,h⟩:=Ha.1 h;obtain⟨x4,h4,h⟩:=Ha.1 h;obtain⟨x5,h5,h⟩:=Ha.1 h;obtain⟨x6,h6,h⟩:=Ha.1 h;obtain⟨x7,h7,h⟩:=Ha.1 h;obtain⟨x8,h8,h⟩:=Ha.1 h;obtain⟨x9,h9,h⟩:=Ha.1 h;obtain⟨x10,h10,h⟩:=Ha.1 h;obtain⟨x11,h11,h⟩:=Ha.1 h;injection h with h;subst h;exact .cons (Yh h0) (.cons (Yh h1) (.cons (Yh h2) (.cons (Yh h3) (.cons (Yh h4) (.cons (Yh h5) (.cons (Yh h6) (.cons (Yh h7) (.cons (Yh h8) (.cons (Yh h9) (.cons (Yh h10) (.cons (Yh h11) .nil)))))))))))
  ·cases h
 | .st_VArr2_i64,cs,x,h=>by
  simp only[mC]at h;split at h
  ·obtain⟨x0,h0,h⟩:=Ha.1 h;obtain⟨x1,h1,h⟩:=Ha.1 h;injection h with h;subst h;exact .cons (Hq h0) (.cons (Hq h1) .nil)
  ·cases h
 | .st_VToken,cs,x,h=>by
  simp only[mC]at h;split at h
  ·obtain⟨x0,h0,h⟩:=Ha.1 h;obtain⟨x1,h1,h⟩:=Ha.1 h;obtain⟨x2,h2,h⟩:=Ha.1 h;obtain⟨x3,h3,h⟩:=Ha.1 h;obtain⟨x4,h4,h⟩:=Ha.1 h;injection h with h;subst h;exact .cons (bP h0) (.cons (Yh h1) (.cons (Hq h2) (.cons (Yh h3) (.cons (bM h4) .nil))))
  ·cases h
 | .st_Vglue_start,cs,x,h=>by
  simp only[mC]at h;split at h
  ·obtain⟨x0,h0,h⟩:=Ha.1 h;obtain⟨x1,h1,h⟩:=Ha.1 h;injection h with h;subst h;exact .cons (Hq h0) (.cons (Hq h1) .nil)
  ·cases h
 | .st_Vtoken_scanner,cs,x,h=>by
  simp only[mC]at h;split at h
  ·obtain⟨x0,h0,h⟩:=Ha.1 h;obtain⟨x1,h1,h⟩:=Ha.1 h;injection h with h;subst h;exact .cons (Yh h0) (.cons (Hq h1) .nil)
  ·cases h
 | .str,cs,x,h=>by
  simp only[mC]at h;split at h
  ·obtain⟨x0,h0,h⟩:=Ha.1 h;injection h with h;subst h;exact .cons (Yh h0) .nil
  ·cases h
 | .other,cs,x,h=>by cases h
theorem fe(n:Nat): ∀(c:TC) (x:Ct c),fC n c x=(eC n c x).map (pvE I)
 | .bool,x=>rfl
 | .int_i32,x=>rfl
 | .int_i64,x=>rfl
 | .int_u32,x=>rfl
 | .int_u64,x=>rfl
 | .int_u8,x=>rfl
 | .sl_151,x=>rfl
 | .sl_5,x=>rfl
 | .sl_51,x=>rfl
 | .sl_89,x=>rfl
 | .sl_9,x=>rfl
 | .st_VArr12_str,x=>rfl
 | .st_VArr2_i64,x=>rfl
 | .st_VToken,x=>rfl
 | .st_Vglue_start,x=>rfl
 | .st_Vtoken_scanner,x=>rfl
 | .str,x=>rfl
 | .other,x=>by show List.replicate n (PV.at (Value.slice none 0 0))=(List.replicate n EV.nil).map (pvE I);rw[List.map_replicate];rfl
theorem zBL(n:Nat)(c:TC)(x:Ct c)(h:c≠ .other->n=size c):(eC n c x).length=n:=by
 cases c
 case other=>simp[eC]
 all_goals (rw[h (by simp)];rfl)
theorem zAf(n:Nat): ∀(c:TC) (x:Ct c),(eC n c x).all (yl (I:=I))=true
 | .bool,x=>rfl
 | .int_i32,x=>rfl
 | .int_i64,x=>rfl
 | .int_u32,x=>rfl
 | .int_u64,x=>rfl
 | .int_u8,x=>rfl
 | .sl_151,x=>rfl
 | .sl_5,x=>rfl
 | .sl_51,x=>rfl
 | .sl_89,x=>rfl
 | .sl_9,x=>rfl
 | .st_VArr12_str,x=>rfl
 | .st_VArr2_i64,x=>rfl
 | .st_VToken,x=>rfl
 | .st_Vglue_start,x=>rfl
 | .st_Vtoken_scanner,x=>rfl
 | .str,x=>rfl
 | .other,x=>by show(List.replicate n EV.nil).all (yl (I:=I))=true;rw[Xa];intro v hv;rw[(List.mem_replicate.1 hv).2];rfl
theorem zCH:(tab.all fun p=>match p.2 with| .int_u8=>(match kdOf Tryz.prog p.1 with| .int .u8=>true|_=>false)|_=>true)=true:=by kernel_rfl
theorem zCT(t:Nat)(h:tc t= .int_u8):kdOf Tryz.prog t= .int .u8:=by
 unfold tc at h;cases hl:lk tab t with
 |none=>rw[hl]at h;cases h
 |some c=>
  rw[hl]at h;have h:c= .int_u8:=h;subst h;have:=Xa.1 zCH _ (Zi hl);simp only at this;split at this
  ·assumption
  ·cases this
theorem aV(n:Nat): ∀(c:TC) (p:(List UInt8->List (Ct c))×(List (Ct c)->List UInt8)),bC c=some p->(∀l,(p.1 l).map (fC n c)=l.map fun b=>[PV.at (.int .u8 b.toNat)])/\(∀l,l.map (fC n c)=(p.2 l).map fun b=>[PV.at (.int .u8 b.toNat)])/\c= .int_u8:=by
 intro c p h;cases c
 case int_u8=>cases h;exact⟨fun l=>rfl,fun l=>rfl,rfl⟩
 all_goals cases h
theorem zBI(t:Nat)(p:(List UInt8->List (I.C t))×(List (I.C t)->List UInt8))(h:I.byt t=some p):(∀l,(p.1 l).map (I.full t)=l.map fun b=>[PV.at (.int .u8 b.toNat)])/\(∀l,l.map (I.full t)=(p.2 l).map fun b=>[PV.at (.int .u8 b.toNat)])/\kdOf Tryz.prog t= .int .u8:=by obtain⟨h1,h2,h3⟩:=aV (Tryz.prog.cellsOf t) (tc t) p h;exact⟨h1,h2,zCT t h3⟩
theorem ipOK:IpOK Tryz.prog I where
 len:=fun t x=>by show(fC _ _ x).length=_;exact(congrArg List.length (fe _ (tc t) x)).trans ((Sa ..).trans (zBL _ (tc t) x (gX t)))
 exp:=fun t x=>fe _ _ x
 pur:=fun t x v hv=>Xa.1 (zAf _ _ x) v hv
 made:=fun t cs x h=>decs (zAD _ _ cs x h)
 byt:=zBI
noncomputable def T:TT:=[(2,ti Tryz.prog 2),(3,ti Tryz.prog 3),(4,ti Tryz.prog 4),(5,ti Tryz.prog 5),(9,ti Tryz.prog 9),(12,ti Tryz.prog 12),(21,ti Tryz.prog 21),(26,ti Tryz.prog 26),(41,ti Tryz.prog 41),(51,ti Tryz.prog 51),(59,ti Tryz.prog 59),(86,ti Tryz.prog 86),(89,ti Tryz.prog 89),(98,ti Tryz.prog 98),(100,ti Tryz.prog 100),(122,ti Tryz.prog 122),(130,ti Tryz.prog 130),(136,ti Tryz.prog 136),(151,ti Tryz.prog 151),(154,ti Tryz.prog 154),(171,ti Tryz.prog 171),(181,ti Tryz.prog 181)]
def FK:List (Nat×List Kd):=[(51,[.int .u8, .str, .int .i64, .str, .bool])]
theorem tok:TOK Tryz.prog T FK:=zCI (l:=[2,3,4,5,9,12,21,26,41,51,59,86,89,98,100,122,130,136,151,154,171,181]) (by
 intro p hp;simp only[FK,Yb,Ye,Jh]at hp;rcases hp with rfl<;>kernel_rfl)
theorem mixed:Tryz.prog.follows .mixedOrders=true:=by kernel_rfl
noncomputable def body(f:Go.Func):Code:=match f.body with|some c=>c|none=> .skip
noncomputable def rsl(f:Go.Func):List ResultVar:=f.results.toList
end Go.Lv.VT
