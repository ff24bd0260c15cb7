/- GlueBack: what the row asks of a call. -/
import Derived.Test.YtnfhfeipljhciaaGreatDoorGl
import Derived.Test.YtnfhfeipljhciaaGreatDoorCo
import Derived.Test.YtnfhfeipljhciaaGreatDoorRd
import Derived.Test.YtnfhfeipljhciaaGreatDoorNd
import Derived.Test.YtnfhfeipljhciaaGreatDoorSz
set_option linter.unusedSimpArgs false
set_option linter.unusedVariables false
namespace Go.Proofs.YtnfhfeipljhciaaGreatDoor.glueBack
open Go.ChangeShapes Go.WideShapes Go.ChangeAt Go.RowKit Go.Lv Go.Lv.VT
set_option maxRecDepth 100000
theorem zqr{H:Type}: ∀(l:List (DataW H)),Rows.uptoBulkAll l=(l.map Rows.uptoBulk).sum
 |[]=>by rw[Rows.uptoBulkAll];rfl
 |d::l=>by rw[Rows.uptoBulkAll,zqr l];rfl
theorem zAF:zym @Rows.uptoBulk where
 one:=fun {H} d=>by
  cases d with
  |lit l=>cases l<;>simp[Rows.uptoBulk]
  |nil=>simp[Rows.uptoBulk]
  |ptr d=>simp[Rows.uptoBulk]
  |slice elems spare=>simp[Rows.uptoBulk]
  |agg parts=>simp[Rows.uptoBulk]
  |iface t d=>simp[Rows.uptoBulk]
  |map entries=>simp[Rows.uptoBulk]
  |held h=>simp[Rows.uptoBulk]
 str:=fun l=>by simp[Rows.uptoBulk]
 slice:=fun a b=>by rw[Rows.uptoBulk,zqr];omega
 agg:=fun a=>by rw[Rows.uptoBulk,zqr];omega
theorem contract (H:Type) (enc:TypeId×Value→H) (W:World) (base:Nat) (args:Array Value) (ds gs:List (DataW H)) (before:List MemPlace)
  (hval: ∀(j:Nat) t v,Tryz.f4.params[j]? =some t→args[j]? =some v→Value.okWide Tryz.prog W .any base t v)
  (hW:DataW.Whole enc Tryz.prog Tryz.f4.params.toList Rows.glueBackSpec.vars false W args.toList ds gs before) (hL:laidMetH Tryz.prog zbP W) (hS:W.ShapedOpen Tryz.prog) (hk:Rows.uptoSmall H (ds++gs)=true):
  Calls Tryz.prog 4 args W fun e W'=> ∃v,e= .returned v∧Rows.glueBackSpec.post enc Tryz.prog Tryz.f4 false true false false W args v W':=by
 have hW':=hW
 obtain⟨p,q,hA0,hV,rfl,hfz,hnd⟩:=hW
 have hA:DataW.TrodAll enc Tryz.prog W 0 (fun _=>true) true Tryz.f4.params.toList args.toList ds p:=hA0
 rw[Tryz.params4]at hA hval
 obtain⟨v0,vs0,d0,ds0,p0,q0,hargs,rfl,rfl,h0,r0⟩:=trodAll_cons hA
 obtain⟨rfl,rfl,rfl⟩:=trodAll_nil r0
 obtain rfl:args= #[v0]:=by cases args;simp_all
 obtain⟨rfl,rfl⟩:=trodVars_none hV
 have hb:Rows.uptoBulkAll ([d0]++[])≤1048576:=of_decide_eq_true hk
 obtain⟨f0,t0⟩:=h0
 obtain⟨x0,a0,b0,_⟩: ∃x0:List zb,zea W v0.cells.toList [.sl (x0.map Qr)]∧Qy [.sl (x0.map Qr)]≤Rows.uptoBulk d0∧zbf [.sl (x0.map Qr)]:=reads ipOK ipRd zAF enc W f0 41 _ d0 p0 (by simp[gd]) t0
 simp only[List.cons_append,List.nil_append,List.append_nil,Rows.uptoBulkAll]at hb
 obtain⟨s1,s2⟩:=zAd (x:=x0) (n:=big) (by unfold big;omega)
 have ha:zaF noA W ((((zd3 zbl).inS.sl I).enc x0).1.map (trT (fun i=>i) (lk []))) #[v0]:=by
  exact ztV (zBF (hu:=zk2) (by intro fs h;cases h) (by intro n e h;cases h) (hval 0 41 v0 rfl rfl) a0) zwI
 refine(zu7 (I:=I) zh3 rfl rfl rfl (x:=x0) (y:=true) (zqg s1 s2) (b:=true) rfl rfl rfl (zAT hS hL) ha).mono fun e W' ⟨he,hbl⟩=> ?_
 subst he
 refine⟨_,rfl,zxn (tb:=4) (pa:=p0++[]) hW' rfl rfl Tryz.underlying4 rfl rfl (fun sp hsp=> ?_) (List.append_nil _) hbl⟩
 have hlt: ∀x∈p0++[],x.block<W.heap.size:=fun x hx=>hW'.lt x (by simpa using hx)
 exact zhy (by kernel_rfl) hbl sp _ _ _ _ (by rw[Tryz.params4];intro t ht;simp at ht;subst ht;exact⟨by kernel_rfl,of_decide_eq_true (by kernel_rfl)⟩) hA0 hlt (fun x hx=>hsp x (by simpa using hx))
end Go.Proofs.YtnfhfeipljhciaaGreatDoor.glueBack
