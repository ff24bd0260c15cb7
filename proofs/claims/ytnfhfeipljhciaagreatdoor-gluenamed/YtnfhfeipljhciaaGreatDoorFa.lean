/- GlueNamed: what the row asks of a call. -/
import Derived.Test.YtnfhfeipljhciaaGreatDoorGl
import Derived.Test.YtnfhfeipljhciaaGreatDoorCo
import Derived.Test.YtnfhfeipljhciaaGreatDoorNb
import Derived.Test.YtnfhfeipljhciaaGreatDoorRd
namespace Go.Proofs.YtnfhfeipljhciaaGreatDoor.glueNamed
open Go.ChangeShapes Go.WideShapes Go.ChangeAt Go.RowKit Go.Lv Go.Lv.VT
set_option maxRecDepth 100000
theorem zlz {H : Type} : ∀ (l : List (DataW H)), Rows.uptoBulkAll l = (l.map Rows.uptoBulk).sum
 | [] => by rw [Rows.uptoBulkAll]; rfl
 | d :: l => by rw [Rows.uptoBulkAll, zlz l]; rfl
theorem zq0 : zqW @Rows.uptoBulk where
 one := fun {H} d => by
  cases d with
  | lit l => cases l <;> simp [Rows.uptoBulk]
  | nil => simp [Rows.uptoBulk]
  | ptr d => simp [Rows.uptoBulk]
  | slice elems spare => simp [Rows.uptoBulk]
  | agg parts => simp [Rows.uptoBulk]
  | iface t d => simp [Rows.uptoBulk]
  | map entries => simp [Rows.uptoBulk]
  | held h => simp [Rows.uptoBulk]
 str := fun l => by simp [Rows.uptoBulk]
 slice := fun a b => by rw [Rows.uptoBulk, zlz]; omega
 agg := fun a => by rw [Rows.uptoBulk, zlz]; omega
theorem contract (H : Type) (enc : TypeId × Value → H) (W : World) (base : Nat) (args : Array Value) (ds gs : List (DataW H)) (before : List MemPlace)
  (hval : ∀ (j : Nat) t v, Tryz.f10.params[j]? = some t → args[j]? = some v → Value.okWide Tryz.prog W .any base t v)
  (hW : DataW.Whole enc Tryz.prog Tryz.f10.params.toList Rows.glueNamedSpec.vars false W args.toList ds gs before) (hL : laidMetH Tryz.prog zbi W) (hS : W.ShapedOpen Tryz.prog) :
  Calls Tryz.prog 10 args W fun e W' => ∃ v, e = .returned v ∧ Rows.glueNamedSpec.post enc Tryz.prog Tryz.f10 false true false false W args v W' := by
 have hW' := hW
 obtain ⟨p, q, hA0, hV, rfl, hfz, hnd⟩ := hW
 have hA : DataW.TrodAll enc Tryz.prog W 0 (fun _ => true) true Tryz.f10.params.toList args.toList ds p := hA0
 rw [Tryz.params10] at hA hval
 obtain ⟨v0, vs0, d0, ds0, p0, q0, hargs, rfl, rfl, h0, r0⟩ := trodAll_cons hA
 obtain ⟨v1, vs1, d1, ds1, p1, q1, rfl, rfl, rfl, h1, r1⟩ := trodAll_cons r0
 obtain ⟨rfl, rfl, rfl⟩ := trodAll_nil r1
 obtain rfl : args = #[v0, v1] := by cases args; simp_all
 obtain ⟨rfl, rfl⟩ := trodVars_none hV
 obtain ⟨f0, t0⟩ := h0
 obtain ⟨f1, t1⟩ := h1
 obtain ⟨x0, a0, _, _⟩ : ∃ x0 : Str, zcP W v0.cells.toList [.str x0] ∧ Q8 [.str x0] ≤ Rows.uptoBulk d0 ∧ zaC [.str x0] := reads ipOK ipRd zq0 enc W f0 9 _ d0 p0 (by simp [gd]) t0
 obtain ⟨x1, a1, _, _⟩ : ∃ x1 : Str, zcP W v1.cells.toList [.str x1] ∧ Q8 [.str x1] ≤ Rows.uptoBulk d1 ∧ zaC [.str x1] := reads ipOK ipRd zq0 enc W f1 9 _ d1 p1 (by simp [gd]) t1
 have ha : zak noA W ((((zca zav).inS.sl I).enc (x0, x1)).1.map (trT (fun i => i) (lk []))) #[v0, v1] :=
  zjU (zsh (hu := zmh) (by intro fs h; cases h) (by intro n e h; cases h) (hval 0 9 v0 rfl rfl) a0) (zjU (zsh (hu := zmh) (by intro fs h; cases h) (by intro n e h; cases h) (hval 1 9 v1 rfl rfl) a1) zp0)
 refine (zoS (I := I) zeZ rfl rfl rfl (x := (x0, x1)) (y := true) (zjS x0 x1) (b := true) rfl rfl rfl (zss hS hL) ha).mono fun e W' ⟨he, hbl⟩ => ?_
 subst he
 refine ⟨_, rfl, zqp (tb := 4) (pa := p0 ++ (p1 ++ [])) hW' rfl rfl Tryz.underlying4 rfl rfl (fun sp hsp => ?_) (List.append_nil _) hbl⟩
 have hlt : ∀ x ∈ p0 ++ (p1 ++ []), x.block < W.heap.size := fun x hx => hW'.lt x (by simpa using hx)
 exact ze8 (by kernel_rfl) hbl sp _ _ _ _ (by rw [Tryz.params10]; intro t ht; simp at ht; rcases ht with rfl | rfl <;> exact ⟨by kernel_rfl, of_decide_eq_true (by kernel_rfl)⟩) hA0 hlt (fun x hx => hsp x (by simpa using hx))
end Go.Proofs.YtnfhfeipljhciaaGreatDoor.glueNamed
