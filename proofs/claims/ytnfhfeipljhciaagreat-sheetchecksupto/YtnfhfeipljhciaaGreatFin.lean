/- SheetChecks: the statement. -/
import Derived.Test.YtnfhfeipljhciaaGreatRows
import Derived.Test.YtnfhfeipljhciaaGreatCo
import Derived.Test.YtnfhfeipljhciaaGreatIp
import Derived.Test.YtnfhfeipljhciaaGreatLax
import Derived.WalkKit
import Derived.JoinedCond
namespace Go.Proofs.YtnfhfeipljhciaaGreat.sheetChecks
open Go.ChangeShapes Go.WideShapes Go.ChangeAt Go.RowKit Go.Lv Go.Lv.VT
theorem own : ownKnob Tryz.prog.godebug = none := by kernel_rfl

theorem bulkAll {H : Type} : ∀ (l : List (DataW H)), Rows.uptoBulkAll l = (l.map Rows.uptoBulk).sum
  | [] => by rw [Rows.uptoBulkAll]; rfl
  | d :: l => by rw [Rows.uptoBulkAll, bulkAll l]; rfl
theorem bulkOK : BulkOK @Rows.uptoBulk where
  one := fun {H} d => by
    cases d with
    | lit l => cases l <;> simp [Rows.uptoBulk]
    | nil => simp [Rows.uptoBulk]
    | ptr d => simp [Rows.uptoBulk]
    | slice elems spare => simp [Rows.uptoBulk]
    | agg parts => simp [Rows.uptoBulk]
    | iface t d => simp [Rows.uptoBulk]
    | map entries => simp [Rows.uptoBulk]
    | held h => simp [Rows.uptoBulk]
  str := fun l => by simp [Rows.uptoBulk]
  slice := fun a b => by rw [Rows.uptoBulk, bulkAll]; omega
  agg := fun a => by rw [Rows.uptoBulk, bulkAll]; omega

set_option maxRecDepth 100000 in
theorem contract (H : Type) (enc : TypeId × Value → H) (W : World) (base : Nat) (args : Array Value) (ds gs : List (DataW H)) (before : List MemPlace)
    (hval : ∀ (j : Nat) t v, Tryz.f3.params[j]? = some t → args[j]? = some v → Value.okWide Tryz.prog W .any base t v)
    (hW : DataW.Whole enc Tryz.prog Tryz.f3.params.toList Rows.sheetChecksSpec.vars false W args.toList ds gs before) (hk : Rows.uptoSmall H (ds ++ gs) = true) :
    Calls Tryz.prog 3 args W fun e W' => ∃ v, e = .returned v ∧ Rows.sheetChecksSpec.post enc Tryz.prog Tryz.f3 false true false false W args v W' := by
  have hW' := hW
  obtain ⟨p, q, hA0, hV, rfl, hfz, hnd⟩ := hW
  have hA : DataW.TrodAll enc Tryz.prog W 0 (fun _ => true) true Tryz.f3.params.toList args.toList ds p := hA0
  rw [Tryz.params3] at hA hval
  obtain ⟨v0, vs0, d0, ds0, p0, q0, hargs, rfl, rfl, h0, r0⟩ := trodAll_cons hA
  obtain ⟨v1, vs1, d1, ds1, p1, q1, rfl, rfl, rfl, h1, r1⟩ := trodAll_cons r0
  obtain ⟨rfl, rfl, rfl⟩ := trodAll_nil r1
  obtain rfl : args = #[v0, v1] := by cases args; simp_all
  obtain ⟨rfl, rfl⟩ := trodVars_none hV
  have hb : Rows.uptoBulkAll ([d0, d1] ++ []) ≤ 1048576 := of_decide_eq_true hk
  obtain ⟨f0, t0⟩ := h0
  obtain ⟨f1, t1⟩ := h1
  obtain ⟨x0, a1, a2, _⟩ : ∃ x0 : VSheet, RepCs W v0.cells.toList (enc_VSheet x0) ∧ bCells (enc_VSheet x0) ≤ Rows.uptoBulk d0 ∧ okCells (enc_VSheet x0) := reads ipOK ipRd bulkOK enc W f0 24 _ d0 p0 (by simp [gd]) t0
  obtain ⟨x1, b1, b2, _⟩ : ∃ x1 : VRule, RepCs W v1.cells.toList (enc_VRule x1) ∧ bCells (enc_VRule x1) ≤ Rows.uptoBulk d1 ∧ okCells (enc_VRule x1) := reads ipOK ipRd bulkOK enc W f1 35 _ d1 p1 (by simp [gd]) t1
  simp only [List.cons_append, List.nil_append, List.append_nil, Rows.uptoBulkAll] at hb
  have hs0 : zL enc_VRule x0.rules ≤ big := by
    have : bCells (enc_VSheet x0) = 1 + zL enc_VRule x0.rules := by
      unfold enc_VSheet
      simp only [bCells, bPV, zL]
      omega
    unfold big
    omega
  have hs1 : bCells (enc_VRule x1) ≤ big := by unfold big; omega
  have ha : ArgsRep noA W ((((c_law11_SheetChecks law11_SheetChecks).inS.sl I).enc (x0, x1)).1.map (trT (fun i => i) (lk []))) #[v0, v1] := by
    have e0 : (I.exp 24 x0).map (trV (I := I) (fun i => i) (lk [])) = (enc_VSheet x0).map CV.p := exp_tr ipOK 24 x0
    have e1 : (I.exp 35 x1).map (trV (I := I) (fun i => i) (lk [])) = (enc_VRule x1).map CV.p := exp_tr ipOK 35 x1
    show ArgsRep noA W [TV.agg ((I.exp 24 x0).map (trV (I := I) (fun i => i) (lk []))), TV.agg ((I.exp 35 x1).map (trV (I := I) (fun i => i) (lk [])))] #[v0, v1]
    rw [e0, e1]
    exact args_cons (arg_s Tryz.underlying24 (hval 0 24 v0 rfl rfl) a1) (args_cons (arg_s Tryz.underlying35 (hval 1 35 v1 rfl rfl) b1) args_nil)
  refine (law_calls ok_law11_SheetChecks rfl rfl rfl (x := (x0, x1)) (y := true) (law_SheetChecks hs0 hs1) (b := true) rfl rfl rfl ha).mono fun e W' ⟨he, hbl⟩ => ?_
  subst he
  refine ⟨_, rfl, law_post (tb := 4) (pa := p0 ++ (p1 ++ [])) hW' rfl rfl Tryz.underlying4 rfl rfl (fun sp hsp => ?_) (List.append_nil _) hbl⟩
  have hlt : ∀ x ∈ p0 ++ (p1 ++ []), x.block < W.heap.size := fun x hx => hW'.lt x (by simpa using hx)
  exact trodAll_below (by kernel_rfl) hbl sp _ _ _ _ (by rw [Tryz.params3]; intro t ht; simp at ht; rcases ht with rfl | rfl <;> exact ⟨by kernel_rfl, of_decide_eq_true (by kernel_rfl)⟩) hA0 hlt (fun x hx => hsp x (by simpa using hx))

set_option maxRecDepth 100000 in
theorem lifted (os : Os) (started : os.Started) (H : Type) (enc : TypeId × Value → H) (F : Stop.Interp) :
    ReturnsInHanded {} Tryz.checked os 3 .any ((Rows.OpenSpec.upto Rows.sheetChecksSpec).pre6 enc Tryz.prog Tryz.f3 Rows.sheetChecksUptoRow.domain false) (((Rows.OpenSpec.upto Rows.sheetChecksSpec).at F).post enc Tryz.prog Tryz.f3 false true false false) := by
  refine returnsInHanded_of_cond (C := Tryz.checked) (s := Rows.OpenSpec.upto Rows.sheetChecksSpec) (k := Rows.uptoSmall) rfl own started (by kernel_rfl) Tryz.func3
    (OpenSpec.witness (enc := enc) (C := Tryz.checked) (s := Rows.OpenSpec.upto Rows.sheetChecksSpec) (k := Rows.uptoSmall) rfl false ⟨#[], #[.agg #[.slice none 0 0], .agg #[.int .u8 0, .slice none 0 0, .slice none 0 0, .int .u8 0, .string ⟨#[]⟩, .int .i64 0, .string ⟨#[]⟩, .slice none 0 0, .bool false, .slice none 0 0, .slice none 0 0, .slice none 0 0]], []⟩ 8 (by kernel_rfl) (by kernel_rfl) (by kernel_rfl)
      (x := ([.agg [.nil], .agg [.lit (.int .u8 0), .nil, .nil, .agg [.lit (.int .u8 0), .lit (.string []), .lit (.int .i64 0), .agg [.lit (.string []), .nil, .lit (.bool false)], .nil], .nil, .nil]], [], [])) (by kernel_rfl) rfl (by kernel_rfl)) ?_
  intro W base args ds gs before hval hW _ hk _
  exact contract H enc W base args ds gs before hval hW hk

theorem proved : Rows.SheetChecksUptoSaid :=
  OpenClaim.holds_of_cond 3 Tryz.f3 rfl rfl rfl rfl rfl rfl rfl ⟨rfl, rfl, rfl, rfl, rfl⟩ rfl rfl rfl rfl rfl (by kernel_rfl) Tryz.func3 (by kernel_rfl)
    (of_decide_eq_true (by kernel_rfl)) (by unfold Func.isWrapper; first | (rw [if_pos (by decide +kernel)]; kernel_rfl) | (rw [if_neg (by decide +kernel)]; exact ⟨rfl, rfl⟩))
    (fun os started H enc _ F => lifted os started H enc F)
end Go.Proofs.YtnfhfeipljhciaaGreat.sheetChecks
#print axioms Go.Proofs.YtnfhfeipljhciaaGreat.sheetChecks.proved
