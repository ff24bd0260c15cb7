/- GlueNumbers: an input that fits. -/
import Derived.Test.YtnfhfeipljhciaaGreatDoorGl
namespace Go.Proofs.YtnfhfeipljhciaaGreatDoor.glueNumbers
open Go.ChangeShapes Go.WideShapes Go.ChangeAt Go.RowKit Go.Lv
set_option maxRecDepth 100000
theorem own : ownKnob Tryz.prog.godebug = none := by kernel_rfl
theorem zqB (os : Os) : laidMet Tryz.prog zbh ((zg6 os #[.int .i64 0, .bool false]).forCall (fun _ _ => 0) ⟨#[], #[.int .i64 0, .bool false], []⟩).memory :=
 laidMet_of_run' 300 (by kernel_rfl) (by kernel_rfl)
theorem zsJ (os : Os) {H : Type} (enc : TypeId × Value → H) : ∃ places, DataW.whole enc Tryz.prog ((zg6 os #[.int .i64 0, .bool false]).forCall (fun _ _ => 0) ⟨#[], #[.int .i64 0, .bool false], []⟩).memory Tryz.f9.params.toList Rows.glueNumbersSpec.vars false (#[.int .i64 0, .bool false] : Array Value).toList 8 = some ([.lit (.int .i64 0), .lit (.bool false)], [], places) :=
 ⟨[], by kernel_rfl⟩
theorem witness (os : Os) (H : Type) (enc : TypeId × Value → H) : ∃ (w : World) (tape : Tape) (i : Input), w.os = os ∧ (w.forCall tape i).Shaped Tryz.checked.prog ∧ i.vars = [] ∧ Input.okWide Tryz.checked.prog (w.forCall tape i) .any w.heap.size 9 i ∧
   (OpenSpec.ofChange Rows.glueNumbersSpec).preRow enc Tryz.checked.prog Tryz.f9 Rows.glueNumbersRow.domain false Rows.glueNumbersRow.laid (w.forCall tape i).memory i.args ∧ ({} : Assume).holds Tryz.checked.prog (lone (Frame.enter Tryz.checked.prog 9 i.args .normal) [] (w.forCall tape i)) := by
 obtain ⟨places, hx⟩ := zsJ os enc
 exact witness_row_at (enc := enc) (C := Tryz.checked) false (zg6 os #[.int .i64 0, .bool false]) #[.int .i64 0, .bool false] rfl (by kernel_rfl) (by kernel_rfl) (by kernel_rfl)
   (OpenSpec.preRow_of_cond 8 hx (by kernel_rfl) (fun k hk => by cases hk) (by kernel_rfl) (zqB os))
end Go.Proofs.YtnfhfeipljhciaaGreatDoor.glueNumbers
