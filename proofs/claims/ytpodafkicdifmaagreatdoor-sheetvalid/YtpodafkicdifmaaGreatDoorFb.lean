/- SheetValid: an input that fits. -/
import Derived.Test.YtpodafkicdifmaaGreatDoorGl
set_option linter.unusedSimpArgs false
set_option linter.unusedVariables false
namespace Go.Proofs.YtpodafkicdifmaaGreatDoor.sheetValid
open Go.ChangeShapes Go.WideShapes Go.ChangeAt Go.RowKit Go.Lv
set_option maxRecDepth 100000
theorem own:ownKnob Tryz.prog.godebug=none:=by kernel_rfl
theorem zIq(os:Os):laidMet Tryz.prog Au ((nI os #[.string ⟨#[]⟩]).forCall (fun _ _=>0) ⟨#[],#[.string ⟨#[]⟩],[]⟩).memory:=
 laidMet_of_run' 300 (by kernel_rfl) (by kernel_rfl)
theorem zMZ(os:Os){H:Type}(enc:TypeId×Value->H): ∃places,DataW.whole enc Tryz.prog ((nI os #[.string ⟨#[]⟩]).forCall (fun _ _=>0) ⟨#[],#[.string ⟨#[]⟩],[]⟩).memory Tryz.f3.params.toList Rows.sheetValidSpec.vars false (#[.string ⟨#[]⟩]:Array Value).toList 8=some ([.lit (.string [])],[],places):=
 ⟨[],by kernel_rfl⟩
theorem witness(os:Os)(H:Type)(enc:TypeId×Value->H): ∃(w:World) (tape:Tape) (i:Input),w.os=os/\(w.forCall tape i).Shaped Tryz.checked.prog/\i.vars=[]/\Input.okWide Tryz.checked.prog (w.forCall tape i) .any w.heap.size 3 i/\
   (OpenSpec.ofChange Rows.sheetValidSpec).preRow enc Tryz.checked.prog Tryz.f3 Rows.sheetValidRow.domain false Rows.sheetValidRow.laid (w.forCall tape i).memory i.args/\({}:Assume).holds Tryz.checked.prog (lone (Frame.enter Tryz.checked.prog 3 i.args .normal) [] (w.forCall tape i)):=by
 obtain⟨places,hx⟩:=zMZ os enc;exact witness_row_at (enc:=enc) (C:=Tryz.checked) false (nI os #[.string ⟨#[]⟩]) #[.string ⟨#[]⟩] rfl (by kernel_rfl) (by kernel_rfl) (by kernel_rfl)
   (OpenSpec.preRow_of_cond 8 hx (by kernel_rfl) (fun k hk=>by cases hk) (by kernel_rfl) (zIq os))
end Go.Proofs.YtpodafkicdifmaaGreatDoor.sheetValid
