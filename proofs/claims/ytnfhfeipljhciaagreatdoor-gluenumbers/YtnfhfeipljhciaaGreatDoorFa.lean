/- GlueNumbers: what the row asks of a call. -/
import Derived.Test.YtnfhfeipljhciaaGreatDoorGl
import Derived.Test.YtnfhfeipljhciaaGreatDoorCo
import Derived.Test.YtnfhfeipljhciaaGreatDoorNam
import Derived.Test.YtnfhfeipljhciaaGreatDoorRd
namespace Go.Proofs.YtnfhfeipljhciaaGreatDoor.glueNumbers
open Go.ChangeShapes Go.WideShapes Go.ChangeAt Go.RowKit Go.Lv Go.Lv.VT
set_option maxRecDepth 100000
theorem zlP {H : Type} : ∀ (l : List (DataW H)), Rows.uptoBulkAll l = (l.map Rows.uptoBulk).sum
 | [] => by rw [Rows.uptoBulkAll]; rfl
 | d :: l => by rw [Rows.uptoBulkAll, zlP l]; rfl
theorem zre : zra @Rows.uptoBulk where
 one := fun {H} d => by
  cases d with
  | lit l => cases l <;> simp [Rows.uptoBulk]
  | nil => simp [Rows.uptoBulk]
  | ptr d => simp [Rows.uptoBulk]
  | slice elems spare => simp [Rows.uptoBulk]
  | agg parts => simp [Rows.uptoBulk]
  | iface t d => simp [Rows.uptoBulk]
  | map entries => simp [Rows.uptoBulk]
  | held h => simp [Rows.uptoBulk]
 str := fun l => by simp [Rows.uptoBulk]
 slice := fun a b => by rw [Rows.uptoBulk, zlP]; omega
 agg := fun a => by rw [Rows.uptoBulk, zlP]; omega
theorem contract (H : Type) (enc : TypeId × Value → H) (W : World) (base : Nat) (args : Array Value) (ds gs : List (DataW H)) (before : List MemPlace)
  (hval : ∀ (j : Nat) t v, Tryz.f9.params[j]? = some t → args[j]? = some v → Value.okWide Tryz.prog W .any base t v)
  (hW : DataW.Whole enc Tryz.prog Tryz.f9.params.toList Rows.glueNumbersSpec.vars false W args.toList ds gs before) (hL : laidMetH Tryz.prog zbh W) (hS : W.ShapedOpen Tryz.prog) :
  Calls Tryz.prog 9 args W fun e W' => ∃ v, e = .returned v ∧ Rows.glueNumbersSpec.post enc Tryz.prog Tryz.f9 false true false false W args v W' := by
 have hW' := hW
 obtain ⟨p, q, hA0, hV, rfl, hfz, hnd⟩ := hW
 have hA : DataW.TrodAll enc Tryz.prog W 0 (fun _ => true) true Tryz.f9.params.toList args.toList ds p := hA0
 rw [Tryz.params9] at hA hval
 obtain ⟨v0, vs0, d0, ds0, p0, q0, hargs, rfl, rfl, h0, r0⟩ := trodAll_cons hA
 obtain ⟨v1, vs1, d1, ds1, p1, q1, rfl, rfl, rfl, h1, r1⟩ := trodAll_cons r0
 obtain ⟨rfl, rfl, rfl⟩ := trodAll_nil r1
 obtain rfl : args = #[v0, v1] := by cases args; simp_all
 obtain ⟨rfl, rfl⟩ := trodVars_none hV
 obtain ⟨f0, t0⟩ := h0
 obtain ⟨f1, t1⟩ := h1
 obtain ⟨x0, a0, _, _⟩ : ∃ x0 : Int, zcQ W v0.cells.toList [.at (.int .i64 x0)] ∧ Q7 [.at (.int .i64 x0)] ≤ Rows.uptoBulk d0 ∧ zav [.at (.int .i64 x0)] := reads ipOK ipRd zre enc W f0 2 _ d0 p0 (by simp [gd]) t0
 obtain ⟨x1, a1, _, _⟩ : ∃ x1 : Bool, zcQ W v1.cells.toList [.at (.bool x1)] ∧ Q7 [.at (.bool x1)] ≤ Rows.uptoBulk d1 ∧ zav [.at (.bool x1)] := reads ipOK ipRd zre enc W f1 4 _ d1 p1 (by simp [gd]) t1
 have ha : zai noA W ((((zbB Qw).inS.sl I).enc (x0, x1)).1.map (trT (fun i => i) (lk []))) #[v0, v1] :=
  zke (zsn (hu := zmu) (by intro fs h; cases h) (by intro n e h; cases h) (hval 0 2 v0 rfl rfl) a0) (zke (zsn (hu := zn3) (by intro fs h; cases h) (by intro n e h; cases h) (hval 1 4 v1 rfl rfl) a1) zp9)
 refine (zo4 (I := I) zdP rfl rfl rfl (x := (x0, x1)) (y := true) (zhO x0 x1) (b := true) rfl rfl rfl (zsx hS hL) ha).mono fun e W' ⟨he, hbl⟩ => ?_
 subst he
 refine ⟨_, rfl, zqD (tb := 4) (pa := p0 ++ (p1 ++ [])) hW' rfl rfl Tryz.underlying4 rfl rfl (fun sp hsp => ?_) (List.append_nil _) hbl⟩
 have hlt : ∀ x ∈ p0 ++ (p1 ++ []), x.block < W.heap.size := fun x hx => hW'.lt x (by simpa using hx)
 exact zff (by kernel_rfl) hbl sp _ _ _ _ (by rw [Tryz.params9]; intro t ht; simp at ht; rcases ht with rfl | rfl <;> exact ⟨by kernel_rfl, of_decide_eq_true (by kernel_rfl)⟩) hA0 hlt (fun x hx => hsp x (by simpa using hx))
end Go.Proofs.YtnfhfeipljhciaaGreatDoor.glueNumbers
