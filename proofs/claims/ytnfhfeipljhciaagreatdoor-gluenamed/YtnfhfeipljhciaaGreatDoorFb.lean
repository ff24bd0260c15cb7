/- GlueNamed: an input that fits. -/
import Derived.Test.YtnfhfeipljhciaaGreatDoorGl
namespace Go.Proofs.YtnfhfeipljhciaaGreatDoor.glueNamed
open Go.ChangeShapes Go.WideShapes Go.ChangeAt Go.RowKit Go.Lv
set_option maxRecDepth 100000
theorem own : ownKnob Tryz.prog.godebug = none := by kernel_rfl
theorem zqn (os : Os) : laidMet Tryz.prog zbi ((zgU os #[.string ⟨#[]⟩, .string ⟨#[]⟩]).forCall (fun _ _ => 0) ⟨#[], #[.string ⟨#[]⟩, .string ⟨#[]⟩], []⟩).memory :=
 laidMet_of_run' 300 (by kernel_rfl) (by kernel_rfl)
theorem zsI (os : Os) {H : Type} (enc : TypeId × Value → H) : ∃ places, DataW.whole enc Tryz.prog ((zgU os #[.string ⟨#[]⟩, .string ⟨#[]⟩]).forCall (fun _ _ => 0) ⟨#[], #[.string ⟨#[]⟩, .string ⟨#[]⟩], []⟩).memory Tryz.f10.params.toList Rows.glueNamedSpec.vars false (#[.string ⟨#[]⟩, .string ⟨#[]⟩] : Array Value).toList 8 = some ([.lit (.string []), .lit (.string [])], [], places) :=
 ⟨[], by kernel_rfl⟩
theorem witness (os : Os) (H : Type) (enc : TypeId × Value → H) : ∃ (w : World) (tape : Tape) (i : Input), w.os = os ∧ (w.forCall tape i).Shaped Tryz.checked.prog ∧ i.vars = [] ∧ Input.okWide Tryz.checked.prog (w.forCall tape i) .any w.heap.size 10 i ∧
   (OpenSpec.ofChange Rows.glueNamedSpec).preRow enc Tryz.checked.prog Tryz.f10 Rows.glueNamedRow.domain false Rows.glueNamedRow.laid (w.forCall tape i).memory i.args ∧ ({} : Assume).holds Tryz.checked.prog (lone (Frame.enter Tryz.checked.prog 10 i.args .normal) [] (w.forCall tape i)) := by
 obtain ⟨places, hx⟩ := zsI os enc
 exact witness_row_at (enc := enc) (C := Tryz.checked) false (zgU os #[.string ⟨#[]⟩, .string ⟨#[]⟩]) #[.string ⟨#[]⟩, .string ⟨#[]⟩] rfl (by kernel_rfl) (by kernel_rfl) (by kernel_rfl)
   (OpenSpec.preRow_of_cond 8 hx (by kernel_rfl) (fun k hk => by cases hk) (by kernel_rfl) (zqn os))
end Go.Proofs.YtnfhfeipljhciaaGreatDoor.glueNamed
