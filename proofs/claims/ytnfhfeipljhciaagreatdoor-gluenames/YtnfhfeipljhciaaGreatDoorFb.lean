/- GlueNames: an input that fits. -/
import Derived.Test.YtnfhfeipljhciaaGreatDoorGl
namespace Go.Proofs.YtnfhfeipljhciaaGreatDoor.glueNames
open Go.ChangeShapes Go.WideShapes Go.ChangeAt Go.RowKit Go.Lv
set_option maxRecDepth 100000
theorem own : ownKnob Tryz.prog.godebug = none := by kernel_rfl
theorem zpE (os : Os) : laidMet Tryz.prog zbf ((zgZ os #[]).forCall (fun _ _ => 0) ⟨#[], #[], []⟩).memory :=
 laidMet_of_run' 300 (by kernel_rfl) (by kernel_rfl)
theorem zrs (os : Os) {H : Type} (enc : TypeId × Value → H) : ∃ places, DataW.whole enc Tryz.prog ((zgZ os #[]).forCall (fun _ _ => 0) ⟨#[], #[], []⟩).memory Tryz.f7.params.toList Rows.glueNamesSpec.vars false (#[] : Array Value).toList 8 = some ([], [], places) :=
 ⟨[], by kernel_rfl⟩
theorem witness (os : Os) (H : Type) (enc : TypeId × Value → H) : ∃ (w : World) (tape : Tape) (i : Input), w.os = os ∧ (w.forCall tape i).Shaped Tryz.checked.prog ∧ i.vars = [] ∧ Input.okWide Tryz.checked.prog (w.forCall tape i) .any w.heap.size 7 i ∧
   (OpenSpec.ofChange Rows.glueNamesSpec).preRow enc Tryz.checked.prog Tryz.f7 Rows.glueNamesRow.domain false Rows.glueNamesRow.laid (w.forCall tape i).memory i.args ∧ ({} : Assume).holds Tryz.checked.prog (lone (Frame.enter Tryz.checked.prog 7 i.args .normal) [] (w.forCall tape i)) := by
 obtain ⟨places, hx⟩ := zrs os enc
 exact witness_row_at (enc := enc) (C := Tryz.checked) false (zgZ os #[]) #[] rfl (by kernel_rfl) (by kernel_rfl) (by kernel_rfl)
   (OpenSpec.preRow_of_cond 8 hx (by kernel_rfl) (fun k hk => by cases hk) (by kernel_rfl) (zpE os))
end Go.Proofs.YtnfhfeipljhciaaGreatDoor.glueNames
