/- NestParts: the statement. -/
import Derived.Test.YtnfhfeipljhciaaRows
import Derived.Test.YtnfhfeipljhciaaCo
import Derived.Test.YtnfhfeipljhciaaIp
import Derived.Test.YtnfhfeipljhciaaLaw
import Derived.WalkKit
import Derived.JoinedCond
namespace Go.Proofs.Ytnfhfeipljhciaa.nestParts
open Go.ChangeShapes Go.WideShapes Go.ChangeAt Go.RowKit Go.Lv Go.Lv.VT

theorem own : ownKnob Try.prog.godebug = none := by kernel_rfl

theorem bulkAll {H : Type} : ∀ (l : List (DataW H)), Rows.uptoBulkAll l = (l.map Rows.uptoBulk).sum
  | [] => by rw [Rows.uptoBulkAll]; rfl
  | d :: l => by rw [Rows.uptoBulkAll, bulkAll l]; rfl
theorem bulkOK : BulkOK @Rows.uptoBulk where
  one := fun {H} d => by
    cases d with
    | lit l => cases l <;> simp [Rows.uptoBulk]
    | nil => simp [Rows.uptoBulk]
    | ptr d => simp [Rows.uptoBulk]
    | slice elems spare => simp [Rows.uptoBulk]
    | agg parts => simp [Rows.uptoBulk]
    | iface t d => simp [Rows.uptoBulk]
    | map entries => simp [Rows.uptoBulk]
    | held h => simp [Rows.uptoBulk]
  str := fun l => by simp [Rows.uptoBulk]
  slice := fun a b => by rw [Rows.uptoBulk, bulkAll]; omega
  agg := fun a => by rw [Rows.uptoBulk, bulkAll]; omega

mutual
theorem szV_bulk : ∀ v : VValue, szV v ≤ bCells (enc_VValue v)
  | ⟨t, l⟩ => by
    have := szL_bulk l
    rw [szV, enc_VValue_mk, ← encL_VValue_eq]
    simp only [bCells, bPV]
    omega
theorem szL_bulk : ∀ l : List VValue, szL l ≤ bRows (encL_VValue l)
  | [] => by rw [szL]; omega
  | v :: r => by
    have := szV_bulk v
    have := szL_bulk r
    rw [szL, encL_VValue, bRows]
    omega
end

theorem contract (H : Type) (enc : TypeId × Value → H) (W : World) (base : Nat) (args : Array Value) (ds gs : List (DataW H)) (before : List MemPlace)
    (hval : ∀ (j : Nat) t v, Try.f3.params[j]? = some t → args[j]? = some v → Value.okWide Try.prog W .any base t v)
    (hW : DataW.Whole enc Try.prog Try.f3.params.toList Rows.nestPartsSpec.vars false W args.toList ds gs before) (hk : Rows.uptoSmall H (ds ++ gs) = true) :
    Calls Try.prog 3 args W fun e W' => ∃ v, e = .returned v ∧ Rows.nestPartsSpec.post enc Try.prog Try.f3 false true false false W args v W' := by
  have hW' := hW
  obtain ⟨p, q, hA0, hV, rfl, hfz, hnd⟩ := hW
  have hA : DataW.TrodAll enc Try.prog W 0 (fun _ => true) true Try.f3.params.toList args.toList ds p := hA0
  rw [Try.params3] at hA hval
  obtain ⟨v0, vs0, d0, ds0, p0, q0, hargs, rfl, rfl, h0, r0⟩ := trodAll_cons hA
  obtain ⟨v1, vs1, d1, ds1, p1, q1, rfl, rfl, rfl, h1, r1⟩ := trodAll_cons r0
  obtain ⟨rfl, rfl, rfl⟩ := trodAll_nil r1
  obtain rfl : args = #[v0, v1] := by cases args; simp_all
  obtain ⟨rfl, rfl⟩ := trodVars_none hV
  have hb : Rows.uptoBulkAll ([d0, d1] ++ []) ≤ 1048576 := of_decide_eq_true hk
  obtain ⟨f0, t0⟩ := h0
  obtain ⟨f1, t1⟩ := h1
  obtain ⟨x0, a1, a2, _⟩ : ∃ x0 : List VValue, RepCs W v0.cells.toList [.sl (x0.map enc_VValue)] ∧ bCells [.sl (x0.map enc_VValue)] ≤ Rows.uptoBulk d0 ∧ okCells [.sl (x0.map enc_VValue)] := reads ipOK ipRd bulkOK enc W f0 22 _ d0 p0 (by simp [gd]) t0
  obtain ⟨x1, b1, b2, _⟩ : ∃ x1 : Int, RepCs W v1.cells.toList [.at (.int .u8 x1)] ∧ bCells [.at (.int .u8 x1)] ≤ Rows.uptoBulk d1 ∧ okCells [.at (.int .u8 x1)] := reads ipOK ipRd bulkOK enc W f1 5 _ d1 p1 (by simp [gd]) t1
  have hsz : szL x0 ≤ 2097152 := by
    have h2 := szL_bulk x0
    simp only [bCells, bPV] at a2
    rw [encL_VValue_eq] at h2
    simp only [List.cons_append, List.nil_append, List.append_nil, Rows.uptoBulkAll] at hb
    omega
  have ha : ArgsRep noA W ((((c_law04_NestParts law04_NestParts).inS.sl I).enc (x0, x1)).1.map (trT (fun i => i) (lk []))) #[v0, v1] :=
    args_cons (arg_c (hu := und_22) (by intro fs h; cases h) (by intro n e h; cases h) (hval 0 22 v0 rfl rfl) a1) (args_cons (arg_c (hu := und_5) (by intro fs h; cases h) (by intro n e h; cases h) (hval 1 5 v1 rfl rfl) b1) args_nil)
  refine (law_calls ok_law04_NestParts rfl rfl rfl (x := (x0, x1)) (y := true) (law_NestParts hsz) (b := true) rfl rfl rfl ha).mono fun e W' ⟨he, hbl⟩ => ?_
  subst he
  refine ⟨_, rfl, law_post (tb := 4) (pa := p0 ++ (p1 ++ [])) hW' rfl rfl Try.underlying4 rfl rfl (fun sp hsp => ?_) (List.append_nil _) hbl⟩
  have hlt : ∀ x ∈ p0 ++ (p1 ++ []), x.block < W.heap.size := fun x hx => hW'.lt x (by simpa using hx)
  exact trodAll_below (by kernel_rfl) hbl sp _ _ _ _ (by rw [Try.params3]; intro t ht; simp at ht; rcases ht with rfl | rfl <;> exact ⟨by kernel_rfl, of_decide_eq_true (by kernel_rfl)⟩) hA0 hlt (fun x hx => hsp x (by simpa using hx))

set_option maxRecDepth 100000 in
theorem lifted (os : Os) (started : os.Started) (H : Type) (enc : TypeId × Value → H) (F : Stop.Interp) :
    ReturnsInHanded {} Try.checked os 3 .any ((Rows.OpenSpec.upto Rows.nestPartsSpec).pre6 enc Try.prog Try.f3 Rows.nestPartsUptoRow.domain false) (((Rows.OpenSpec.upto Rows.nestPartsSpec).at F).post enc Try.prog Try.f3 false true false false) := by
  refine returnsInHanded_of_cond (C := Try.checked) (s := Rows.OpenSpec.upto Rows.nestPartsSpec) (k := Rows.uptoSmall) rfl own started (by kernel_rfl) Try.func3
    (OpenSpec.witness (enc := enc) (C := Try.checked) (s := Rows.OpenSpec.upto Rows.nestPartsSpec) (k := Rows.uptoSmall) rfl false ⟨#[], #[.slice none 0 0, .int .u8 0], []⟩ 8 (by kernel_rfl) (by kernel_rfl) (by kernel_rfl)
      (x := ([.nil, .lit (.int .u8 0)], [], [])) (by kernel_rfl) rfl (by kernel_rfl)) ?_
  intro W base args ds gs before hval hW _ hk _
  exact contract H enc W base args ds gs before hval hW hk

theorem proved : Rows.NestPartsUptoSaid :=
  OpenClaim.holds_of_cond 3 Try.f3 rfl rfl rfl rfl rfl rfl rfl ⟨rfl, rfl, rfl, rfl, rfl⟩ rfl rfl rfl rfl rfl (by kernel_rfl) Try.func3 (by kernel_rfl)
    (of_decide_eq_true (by kernel_rfl)) (by unfold Func.isWrapper; first | (rw [if_pos (by decide +kernel)]; kernel_rfl) | (rw [if_neg (by decide +kernel)]; exact ⟨rfl, rfl⟩))
    (fun os started H enc _ F => lifted os started H enc F)
end Go.Proofs.Ytnfhfeipljhciaa.nestParts
