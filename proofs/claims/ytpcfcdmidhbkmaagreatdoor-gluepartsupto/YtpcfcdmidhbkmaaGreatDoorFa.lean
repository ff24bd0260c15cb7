/- GlueParts: what the row asks of a call. -/
import Derived.Test.YtpcfcdmidhbkmaaGreatDoorGl
import Derived.Test.YtpcfcdmidhbkmaaGreatDoorCo
import Derived.Test.YtpcfcdmidhbkmaaGreatDoorRd
import Derived.Test.YtpcfcdmidhbkmaaGreatDoorXg
set_option linter.unusedSimpArgs false
set_option linter.unusedVariables false
namespace Go.Proofs.YtpcfcdmidhbkmaaGreatDoor.glueParts
open Go.ChangeShapes Go.WideShapes Go.ChangeAt Go.RowKit Go.Lv Go.Lv.VT
set_option maxRecDepth 100000
theorem TD{H:Type}: ∀(l:List (DataW H)),Rows.uptoBulkAll l=(l.map Rows.uptoBulk).sum
 |[]=>by rw[Rows.uptoBulkAll];rfl
 |d::l=>by rw[Rows.uptoBulkAll,TD l];rfl
theorem JI:zwX @Rows.uptoBulk where
 one:=fun {H} d=>by
  cases d with
  |lit l=>cases l<;>simp[Rows.uptoBulk]
  |nil=>simp[Rows.uptoBulk]
  |ptr d=>simp[Rows.uptoBulk]
  |slice elems spare=>simp[Rows.uptoBulk]
  |agg parts=>simp[Rows.uptoBulk]
  |iface t d=>simp[Rows.uptoBulk]
  |map entries=>simp[Rows.uptoBulk]
  |held h=>simp[Rows.uptoBulk]
 str:=fun l=>by simp[Rows.uptoBulk]
 slice:=fun a b=>by rw[Rows.uptoBulk,TD];omega
 agg:=fun a=>by rw[Rows.uptoBulk,TD];omega
theorem contract (H:Type) (enc:TypeId×Value->H) (W:World) (base:Nat) (args:Array Value) (ds gs:List (DataW H)) (before:List MemPlace)
  (hval: ∀(j:Nat) t v,Tryz.f3.params[j]? =some t->args[j]? =some v->Value.okWide Tryz.prog W .any base t v)
  (hW:DataW.Whole enc Tryz.prog Tryz.f3.params.toList Rows.gluePartsSpec.vars false W args.toList ds gs before) (hL:laidMetH Tryz.prog Xj W) (hS:W.ShapedOpen Tryz.prog) (hk:Rows.uptoSmall H (ds++gs)=true):
  Calls Tryz.prog 3 args W fun e W'=> ∃v,e= .returned v/\Rows.gluePartsSpec.post enc Tryz.prog Tryz.f3 false true false false W args v W':=by
 have hW':=hW;obtain⟨p,q,hA0,hV,rfl,hfz,hnd⟩:=hW;have hA:DataW.TrodAll enc Tryz.prog W 0 (fun _=>true) true Tryz.f3.params.toList args.toList ds p:=hA0;rw[Tryz.params3]at hA hval;obtain⟨v0,vs0,d0,ds0,p0,q0,hargs,rfl,rfl,h0,r0⟩:=trodAll_cons hA;obtain⟨v1,vs1,d1,ds1,p1,q1,rfl,rfl,rfl,h1,r1⟩:=trodAll_cons r0;obtain⟨rfl,rfl,rfl⟩:=trodAll_nil r1;obtain rfl:args= #[v0,v1]:=by cases args;simp_all
 obtain⟨rfl,rfl⟩:=trodVars_none hV;have hb:Rows.uptoBulkAll ([d0,d1]++[])<=1048576:=jb hk;obtain⟨f0,t0⟩:=h0;obtain⟨f1,t1⟩:=h1;obtain⟨x0,a0,b0,_⟩: ∃x0:List zb,Sg W v0.cells.toList [.sl (x0.map Qf)]/\Qq [.sl (x0.map Qf)]<=Rows.uptoBulk d0/\Ih [.sl (x0.map Qf)]:=reads ipOK ipRd JI enc W f0 22 _ d0 p0 (by simp[gd]) t0;obtain⟨x1,a1,b1,_⟩: ∃x1:Int,Sg W v1.cells.toList [.at (.int .i64 x1)]/\Qq [.at (.int .i64 x1)]<=Rows.uptoBulk d1/\Ih [.at (.int .i64 x1)]:=reads ipOK ipRd JI enc W f1 3 _ d1 p1 (by simp[gd]) t1;simp only[Ta,Ya,Xa,Rows.uptoBulkAll]at hb;have s0:=nP (x:=x0) (n:=1048576) (by omega);have ha:Lg noA W (((oO XA).inS.sl I).enc (x0,x1)).1 #[v0,v1]:=by exact dM (NH rfl (hu:=ll) (by intro fs h;cases h) (by intro n e h;cases h) (hval 0 22 v0 rfl rfl) a0) (dM (NH rfl (hu:=Ul) (by intro fs h;cases h) (by intro n e h;cases h) (hval 1 3 v1 rfl rfl) a1) jU)
 refine(kW (I:=I) J8 (x:=(x0,x1)) (y:=true) (yZ (x:=(x0,x1)) (fun t ht=>ib (s0.1 t ht) (by decide)) (ib s0.2 (by decide))) (b:=true) rfl rfl (aQ hS hL) ha).mono fun e W' ⟨he,hbl⟩=> ?_;subst he;refine⟨_,rfl,dV (tb:=4) (pa:=p0++(p1++[])) hW' rfl rfl Tryz.underlying4 rfl rfl (fun sp hsp=> ?_) (Xa _) hbl⟩;have hlt: ∀x∈p0++(p1++[]),x.block<W.heap.size:=fun x hx=>hW'.lt x (by simpa using hx);exact xN (by kernel_rfl) hbl sp _ _ _ _ (by rw[Tryz.params3];intro t ht;simp at ht;rcases ht with rfl|rfl<;>exact⟨by kernel_rfl,jb (by kernel_rfl)⟩) hA0 hlt (fun x hx=>hsp x (by simpa using hx))
end Go.Proofs.YtpcfcdmidhbkmaaGreatDoor.glueParts
