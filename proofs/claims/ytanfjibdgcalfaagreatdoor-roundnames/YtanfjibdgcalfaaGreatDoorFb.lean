/- RoundNames: an input that fits. -/
import Derived.Test.YtanfjibdgcalfaaGreatDoorGl
set_option linter.unusedSimpArgs false
set_option linter.unusedVariables false
namespace Go.Proofs.YtanfjibdgcalfaaGreatDoor.roundNames
open Go.ChangeShapes Go.WideShapes Go.ChangeAt Go.RowKit Go.Lv
set_option maxRecDepth 100000
theorem own:ownKnob Tryz.prog.godebug=none:=by kernel_rfl
theorem tL(os:Os):laidMet Tryz.prog Cg ((Rv os #[]).forCall (fun _ _=>0) ⟨#[],#[],[]⟩).memory:=
 laidMet_of_run' 300 (by kernel_rfl) (by kernel_rfl)
theorem WK(os:Os){H:Type}(enc:TypeId×Value->H): ∃places,DataW.whole enc Tryz.prog ((Rv os #[]).forCall (fun _ _=>0) ⟨#[],#[],[]⟩).memory Tryz.f5.params.toList Rows.roundNamesSpec.vars false (#[]:Array Value).toList 8=some ([],[],places):=
 ⟨[],by kernel_rfl⟩
theorem witness(os:Os)(H:Type)(enc:TypeId×Value->H): ∃(w:World) (tape:Tape) (i:Input),w.os=os/\(w.forCall tape i).Shaped Tryz.checked.prog/\i.vars=[]/\Input.okWide Tryz.checked.prog (w.forCall tape i) .any w.heap.size 5 i/\
   (OpenSpec.ofChange Rows.roundNamesSpec).preRow enc Tryz.checked.prog Tryz.f5 Rows.roundNamesRow.domain false Rows.roundNamesRow.laid (w.forCall tape i).memory i.args/\({}:Assume).holds Tryz.checked.prog (lone (Frame.enter Tryz.checked.prog 5 i.args .normal) [] (w.forCall tape i)):=by
 obtain⟨places,hx⟩:=WK os enc;exact witness_row_at (enc:=enc) (C:=Tryz.checked) false (Rv os #[]) #[] rfl (by kernel_rfl) (by kernel_rfl) (by kernel_rfl)
   (OpenSpec.preRow_of_cond 8 hx (by kernel_rfl) (fun k hk=>by cases hk) (by kernel_rfl) (tL os))
end Go.Proofs.YtanfjibdgcalfaaGreatDoor.roundNames
