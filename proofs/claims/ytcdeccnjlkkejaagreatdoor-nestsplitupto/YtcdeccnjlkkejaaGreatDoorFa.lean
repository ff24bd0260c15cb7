/- NestSplit: what the row asks of a call. -/
import Derived.Test.YtcdeccnjlkkejaaGreatDoorGl
import Derived.Test.YtcdeccnjlkkejaaGreatDoorCo
import Derived.Test.YtcdeccnjlkkejaaGreatDoorRd
import Derived.Test.YtcdeccnjlkkejaaGreatDoorNb
set_option linter.unusedSimpArgs false
set_option linter.unusedVariables false
namespace Go.Proofs.YtcdeccnjlkkejaaGreatDoor.nestSplit
open Go.ChangeShapes Go.WideShapes Go.ChangeAt Go.RowKit Go.Lv Go.Lv.VT
set_option maxRecDepth 100000
theorem znU{H:Type}: ∀(l:List (DataW H)),Rows.uptoBulkAll l=(l.map Rows.uptoBulk).sum
 |[]=>by rw[Rows.uptoBulkAll];rfl
 |d::l=>by rw[Rows.uptoBulkAll,znU l];rfl
theorem ztG:ztB @Rows.uptoBulk where
 one:=fun {H} d=>by
  cases d with
  |lit l=>cases l<;>simp[Rows.uptoBulk]
  |nil=>simp[Rows.uptoBulk]
  |ptr d=>simp[Rows.uptoBulk]
  |slice elems spare=>simp[Rows.uptoBulk]
  |agg parts=>simp[Rows.uptoBulk]
  |iface t d=>simp[Rows.uptoBulk]
  |map entries=>simp[Rows.uptoBulk]
  |held h=>simp[Rows.uptoBulk]
 str:=fun l=>by simp[Rows.uptoBulk]
 slice:=fun a b=>by rw[Rows.uptoBulk,znU];omega
 agg:=fun a=>by rw[Rows.uptoBulk,znU];omega
theorem contract (H:Type) (enc:TypeId×Value→H) (W:World) (base:Nat) (args:Array Value) (ds gs:List (DataW H)) (before:List MemPlace)
  (hval: ∀(j:Nat) t v,Tryz.f5.params[j]? =some t→args[j]? =some v→Value.okWide Tryz.prog W .any base t v)
  (hW:DataW.Whole enc Tryz.prog Tryz.f5.params.toList Rows.nestSplitSpec.vars false W args.toList ds gs before) (hL:laidMetH Tryz.prog zbV W) (hS:W.ShapedOpen Tryz.prog) (hk:Rows.uptoSmall H (ds++gs)=true):
  Calls Tryz.prog 5 args W fun e W'=> ∃v,e= .returned v∧Rows.nestSplitSpec.post enc Tryz.prog Tryz.f5 false true false false W args v W':=by
 have hW':=hW
 obtain⟨p,q,hA0,hV,rfl,hfz,hnd⟩:=hW
 have hA:DataW.TrodAll enc Tryz.prog W 0 (fun _=>true) true Tryz.f5.params.toList args.toList ds p:=hA0
 rw[Tryz.params5]at hA hval
 obtain⟨v0,vs0,d0,ds0,p0,q0,hargs,rfl,rfl,h0,r0⟩:=trodAll_cons hA
 obtain⟨v1,vs1,d1,ds1,p1,q1,rfl,rfl,rfl,h1,r1⟩:=trodAll_cons r0
 obtain⟨rfl,rfl,rfl⟩:=trodAll_nil r1
 obtain rfl:args= #[v0,v1]:=by cases args;simp_all
 obtain⟨rfl,rfl⟩:=trodVars_none hV
 have hb:Rows.uptoBulkAll ([d0,d1]++[])≤1048576:=of_decide_eq_true hk
 obtain⟨f0,t0⟩:=h0
 obtain⟨f1,t1⟩:=h1
 obtain⟨x0,a0,b0,_⟩: ∃x0:List ze,zdX W v0.cells.toList [.sl (x0.map zq)]∧Qp [.sl (x0.map zq)]≤Rows.uptoBulk d0∧zaR [.sl (x0.map zq)]:=reads ipOK ipRd ztG enc W f0 23 _ d0 p0 (by simp[gd]) t0
 obtain⟨x1,a1,b1,_⟩: ∃x1:UInt8,zdX W v1.cells.toList [.at (.int .u8 ((UInt8.toNat x1:Nat):Int))]∧Qp [.at (.int .u8 ((UInt8.toNat x1:Nat):Int))]≤Rows.uptoBulk d1∧zaR [.at (.int .u8 ((UInt8.toNat x1:Nat):Int))]:=reads ipOK ipRd ztG enc W f1 5 _ d1 p1 (by simp[gd]) t1
 simp only[List.cons_append,List.nil_append,List.append_nil,Rows.uptoBulkAll]at hb
 have s0:szL x0≤big:=by
  have q:=zu9 x0
  have q2:zL zq x0≤Qp [.sl (x0.map zq)]:=by simp only[Qp,bPV];unfold zL;omega
  unfold big;omega
 have ha:zaC noA W ((((zda zaJ).inS.sl I).enc (x0,((UInt8.toNat x1:Nat):Int))).1.map (trT (fun i=>i) (lk []))) #[v0,v1]:=by
  exact zl8 (zuG (hu:=zjw) (by intro fs h;cases h) (by intro n e h;cases h) (hval 0 23 v0 rfl rfl) a0) (zl8 (zuG (hu:=zoJ) (by intro fs h;cases h) (by intro n e h;cases h) (hval 1 5 v1 rfl rfl) a1) zsE)
 refine(zrv (I:=I) zgj rfl rfl rfl (x:=(x0,((UInt8.toNat x1:Nat):Int))) (y:=true) (zl6 s0) (b:=true) rfl rfl rfl (zuT hS hL) ha).mono fun e W' ⟨he,hbl⟩=> ?_
 subst he
 refine⟨_,rfl,zs5 (tb:=4) (pa:=p0++(p1++[])) hW' rfl rfl Tryz.underlying4 rfl rfl (fun sp hsp=> ?_) (List.append_nil _) hbl⟩
 have hlt: ∀x∈p0++(p1++[]),x.block<W.heap.size:=fun x hx=>hW'.lt x (by simpa using hx)
 exact zgv (by kernel_rfl) hbl sp _ _ _ _ (by rw[Tryz.params5];intro t ht;simp at ht;rcases ht with rfl|rfl<;>exact⟨by kernel_rfl,of_decide_eq_true (by kernel_rfl)⟩) hA0 hlt (fun x hx=>hsp x (by simpa using hx))
end Go.Proofs.YtcdeccnjlkkejaaGreatDoor.nestSplit
