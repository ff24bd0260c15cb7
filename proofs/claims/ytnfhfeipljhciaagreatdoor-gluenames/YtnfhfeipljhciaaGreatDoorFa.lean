/- GlueNames: what the row asks of a call. -/
import Derived.Test.YtnfhfeipljhciaaGreatDoorGl
import Derived.Test.YtnfhfeipljhciaaGreatDoorCo
import Derived.Test.YtnfhfeipljhciaaGreatDoorNam
namespace Go.Proofs.YtnfhfeipljhciaaGreatDoor.glueNames
open Go.ChangeShapes Go.WideShapes Go.ChangeAt Go.RowKit Go.Lv Go.Lv.VT
set_option maxRecDepth 100000
theorem contract (H : Type) (enc : TypeId × Value → H) (W : World) (base : Nat) (args : Array Value) (ds gs : List (DataW H)) (before : List MemPlace)
  (hval : ∀ (j : Nat) t v, Tryz.f7.params[j]? = some t → args[j]? = some v → Value.okWide Tryz.prog W .any base t v)
  (hW : DataW.Whole enc Tryz.prog Tryz.f7.params.toList Rows.glueNamesSpec.vars false W args.toList ds gs before) (hL : laidMetH Tryz.prog zbf W) (hS : W.ShapedOpen Tryz.prog) :
  Calls Tryz.prog 7 args W fun e W' => ∃ v, e = .returned v ∧ Rows.glueNamesSpec.post enc Tryz.prog Tryz.f7 false true false false W args v W' := by
 have hW' := hW
 obtain ⟨p, q, hA0, hV, rfl, hfz, hnd⟩ := hW
 have hA : DataW.TrodAll enc Tryz.prog W 0 (fun _ => true) true Tryz.f7.params.toList args.toList ds p := hA0
 rw [Tryz.params7] at hA hval
 obtain ⟨hnil, rfl, rfl⟩ := trodAll_nil hA
 obtain rfl : args = #[] := by cases args; simp_all
 obtain ⟨rfl, rfl⟩ := trodVars_none hV
 refine (zop (I := I) ze8 rfl rfl rfl (x := ()) (y := true) zjK (b := true) rfl rfl rfl (zre hS hL) (vs := #[]) zpj).mono fun e W' ⟨he, hbl⟩ => ?_
 subst he
 refine ⟨_, rfl, zpG (tb := 4) (pa := []) hW' rfl rfl Tryz.underlying4 rfl rfl (fun sp hsp => ?_) rfl hbl⟩
 rw [Tryz.params7]
 exact trodAll_mk0
end Go.Proofs.YtnfhfeipljhciaaGreatDoor.glueNames
