/- CondReads: the statement. -/
import Derived.Test.YtnfhfeipljhciaaGreatRows
import Derived.Test.YtnfhfeipljhciaaGreatCo
import Derived.Test.YtnfhfeipljhciaaGreatIp
import Derived.Test.YtnfhfeipljhciaaGreatLaz
import Derived.WalkKit
import Derived.JoinedCond
namespace Go.Proofs.YtnfhfeipljhciaaGreat.condReads
open Go.ChangeShapes Go.WideShapes Go.ChangeAt Go.RowKit Go.Lv Go.Lv.VT
theorem own : ownKnob Tryz.prog.godebug = none := by kernel_rfl

theorem bulkAll {H : Type} : ∀ (l : List (DataW H)), Rows.uptoBulkAll l = (l.map Rows.uptoBulk).sum
  | [] => by rw [Rows.uptoBulkAll]; rfl
  | d :: l => by rw [Rows.uptoBulkAll, bulkAll l]; rfl
theorem bulkOK : BulkOK @Rows.uptoBulk where
  one := fun {H} d => by
    cases d with
    | lit l => cases l <;> simp [Rows.uptoBulk]
    | nil => simp [Rows.uptoBulk]
    | ptr d => simp [Rows.uptoBulk]
    | slice elems spare => simp [Rows.uptoBulk]
    | agg parts => simp [Rows.uptoBulk]
    | iface t d => simp [Rows.uptoBulk]
    | map entries => simp [Rows.uptoBulk]
    | held h => simp [Rows.uptoBulk]
  str := fun l => by simp [Rows.uptoBulk]
  slice := fun a b => by rw [Rows.uptoBulk, bulkAll]; omega
  agg := fun a => by rw [Rows.uptoBulk, bulkAll]; omega

set_option maxRecDepth 100000 in
theorem contract (H : Type) (enc : TypeId × Value → H) (W : World) (base : Nat) (args : Array Value) (ds gs : List (DataW H)) (before : List MemPlace)
    (hval : ∀ (j : Nat) t v, Tryz.f4.params[j]? = some t → args[j]? = some v → Value.okWide Tryz.prog W .any base t v)
    (hW : DataW.Whole enc Tryz.prog Tryz.f4.params.toList Rows.condReadsSpec.vars false W args.toList ds gs before) (hk : Rows.uptoSmall H (ds ++ gs) = true) :
    Calls Tryz.prog 4 args W fun e W' => ∃ v, e = .returned v ∧ Rows.condReadsSpec.post enc Tryz.prog Tryz.f4 false true false false W args v W' := by
  have hW' := hW
  obtain ⟨p, q, hA0, hV, rfl, hfz, hnd⟩ := hW
  have hA : DataW.TrodAll enc Tryz.prog W 0 (fun _ => true) true Tryz.f4.params.toList args.toList ds p := hA0
  rw [Tryz.params4] at hA hval
  obtain ⟨v0, vs0, d0, ds0, p0, q0, hargs, rfl, rfl, h0, r0⟩ := trodAll_cons hA
  obtain ⟨rfl, rfl, rfl⟩ := trodAll_nil r0
  obtain rfl : args = #[v0] := by cases args; simp_all
  obtain ⟨rfl, rfl⟩ := trodVars_none hV
  have hb : Rows.uptoBulkAll ([d0] ++ []) ≤ 1048576 := of_decide_eq_true hk
  obtain ⟨f0, t0⟩ := h0
  obtain ⟨x0, a1, a2, _⟩ : ∃ x0 : List VValue, RepCs W v0.cells.toList [.sl (x0.map enc_VValue)] ∧ bCells [.sl (x0.map enc_VValue)] ≤ Rows.uptoBulk d0 ∧ okCells [.sl (x0.map enc_VValue)] := reads ipOK ipRd bulkOK enc W f0 27 _ d0 p0 (by simp [gd]) t0
  simp only [List.cons_append, List.nil_append, List.append_nil, Rows.uptoBulkAll] at hb
  have hs0 : 2 * zL enc_VValue x0 + 2000 ≤ big := by
    have : bCells [.sl (x0.map enc_VValue)] = 1 + zL enc_VValue x0 := by
      simp only [bCells, bPV, zL]
      omega
    unfold big
    omega
  have ha : ArgsRep noA W ((((c_law10_CondReads law10_CondReads).inS.sl I).enc x0).1.map (trT (fun i => i) (lk []))) #[v0] :=
    args_cons (arg_c (hu := und_27) (by intro fs h; cases h) (by intro n e h; cases h) (hval 0 27 v0 rfl rfl) a1) args_nil
  refine (law_calls ok_law10_CondReads rfl rfl rfl (x := x0) (y := true) (law_CondReads hs0) (b := true) rfl rfl rfl ha).mono fun e W' ⟨he, hbl⟩ => ?_
  subst he
  refine ⟨_, rfl, law_post (tb := 4) (pa := p0 ++ []) hW' rfl rfl Tryz.underlying4 rfl rfl (fun sp hsp => ?_) (List.append_nil _) hbl⟩
  have hlt : ∀ x ∈ p0 ++ [], x.block < W.heap.size := fun x hx => hW'.lt x (by simpa using hx)
  exact trodAll_below (by kernel_rfl) hbl sp _ _ _ _ (by rw [Tryz.params4]; intro t ht; simp at ht; subst ht; exact ⟨by kernel_rfl, of_decide_eq_true (by kernel_rfl)⟩) hA0 hlt (fun x hx => hsp x (by simpa using hx))

set_option maxRecDepth 100000 in
theorem lifted (os : Os) (started : os.Started) (H : Type) (enc : TypeId × Value → H) (F : Stop.Interp) :
    ReturnsInHanded {} Tryz.checked os 4 .any ((Rows.OpenSpec.upto Rows.condReadsSpec).pre6 enc Tryz.prog Tryz.f4 Rows.condReadsUptoRow.domain false) (((Rows.OpenSpec.upto Rows.condReadsSpec).at F).post enc Tryz.prog Tryz.f4 false true false false) := by
  refine returnsInHanded_of_cond (C := Tryz.checked) (s := Rows.OpenSpec.upto Rows.condReadsSpec) (k := Rows.uptoSmall) rfl own started (by kernel_rfl) Tryz.func4
    (OpenSpec.witness (enc := enc) (C := Tryz.checked) (s := Rows.OpenSpec.upto Rows.condReadsSpec) (k := Rows.uptoSmall) rfl false ⟨#[], #[.slice none 0 0], []⟩ 8 (by kernel_rfl) (by kernel_rfl) (by kernel_rfl)
      (x := ([.nil], [], [])) (by kernel_rfl) rfl (by kernel_rfl)) ?_
  intro W base args ds gs before hval hW _ hk _
  exact contract H enc W base args ds gs before hval hW hk

theorem proved : Rows.CondReadsUptoSaid :=
  OpenClaim.holds_of_cond 4 Tryz.f4 rfl rfl rfl rfl rfl rfl rfl ⟨rfl, rfl, rfl, rfl, rfl⟩ rfl rfl rfl rfl rfl (by kernel_rfl) Tryz.func4 (by kernel_rfl)
    (of_decide_eq_true (by kernel_rfl)) (by unfold Func.isWrapper; first | (rw [if_pos (by decide +kernel)]; kernel_rfl) | (rw [if_neg (by decide +kernel)]; exact ⟨rfl, rfl⟩))
    (fun os started H enc _ F => lifted os started H enc F)
end Go.Proofs.YtnfhfeipljhciaaGreat.condReads
#print axioms Go.Proofs.YtnfhfeipljhciaaGreat.condReads.proved
