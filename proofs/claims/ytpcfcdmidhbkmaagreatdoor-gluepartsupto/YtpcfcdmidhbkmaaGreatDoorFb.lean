/- GlueParts: an input that fits. -/
import Derived.Test.YtpcfcdmidhbkmaaGreatDoorGl
set_option linter.unusedSimpArgs false
set_option linter.unusedVariables false
namespace Go.Proofs.YtpcfcdmidhbkmaaGreatDoor.glueParts
open Go.ChangeShapes Go.WideShapes Go.ChangeAt Go.RowKit Go.Lv
set_option maxRecDepth 100000
theorem own:ownKnob Tryz.prog.godebug=none:=by kernel_rfl
theorem rU(os:Os):laidMet Tryz.prog Xj ((VF os #[.slice none 0 0, .int .i64 0]).forCall (fun _ _=>0) ⟨#[],#[.slice none 0 0, .int .i64 0],[]⟩).memory:=
 laidMet_of_run' 300 (by kernel_rfl) (by kernel_rfl)
theorem zAJ(os:Os){H:Type}(enc:TypeId×Value->H): ∃places,DataW.whole enc Tryz.prog ((VF os #[.slice none 0 0, .int .i64 0]).forCall (fun _ _=>0) ⟨#[],#[.slice none 0 0, .int .i64 0],[]⟩).memory Tryz.f3.params.toList Rows.gluePartsSpec.vars false (#[.slice none 0 0, .int .i64 0]:Array Value).toList 8=some ([.nil, .lit (.int .i64 0)],[],places):=
 ⟨[],by kernel_rfl⟩
theorem witness(os:Os)(H:Type)(enc:TypeId×Value->H): ∃(w:World) (tape:Tape) (i:Input),w.os=os/\(w.forCall tape i).Shaped Tryz.checked.prog/\i.vars=[]/\Input.okWide Tryz.checked.prog (w.forCall tape i) .any w.heap.size 3 i/\
   (Rows.OpenSpec.upto Rows.gluePartsSpec).preRow enc Tryz.checked.prog Tryz.f3 Rows.gluePartsUptoRow.domain false Rows.gluePartsUptoRow.laid (w.forCall tape i).memory i.args/\({}:Assume).holds Tryz.checked.prog (lone (Frame.enter Tryz.checked.prog 3 i.args .normal) [] (w.forCall tape i)):=by
 obtain⟨places,hx⟩:=zAJ os enc;exact witness_row_at (enc:=enc) (C:=Tryz.checked) false (VF os #[.slice none 0 0, .int .i64 0]) #[.slice none 0 0, .int .i64 0] rfl (by kernel_rfl) (by kernel_rfl) (by kernel_rfl)
   (OpenSpec.preRow_of_cond 8 hx (by kernel_rfl) (fun k hk=>by cases hk;kernel_rfl) (by kernel_rfl) (rU os))
end Go.Proofs.YtpcfcdmidhbkmaaGreatDoor.glueParts
