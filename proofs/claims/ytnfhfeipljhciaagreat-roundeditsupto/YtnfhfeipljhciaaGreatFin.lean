/- RoundEdits: the statement. -/
import Derived.Test.YtnfhfeipljhciaaGreatRows
import Derived.Test.YtnfhfeipljhciaaGreatCo
import Derived.Test.YtnfhfeipljhciaaGreatIp
import Derived.Test.YtnfhfeipljhciaaGreatLay
import Derived.WalkKit
import Derived.JoinedCond
namespace Go.Proofs.YtnfhfeipljhciaaGreat.roundEdits
open Go.ChangeShapes Go.WideShapes Go.ChangeAt Go.RowKit Go.Lv Go.Lv.VT
theorem own : ownKnob Tryz.prog.godebug = none := by kernel_rfl
theorem zw6 {H : Type} : ∀ (l : List (DataW H)), Rows.uptoBulkAll l = (l.map Rows.uptoBulk).sum
 | [] => by rw [Rows.uptoBulkAll]; rfl
 | d :: l => by rw [Rows.uptoBulkAll, zw6 l]; rfl
theorem zzS : zDi @Rows.uptoBulk where
 one := fun {H} d => by
  cases d with
  | lit l => cases l <;> simp [Rows.uptoBulk]
  | nil => simp [Rows.uptoBulk]
  | ptr d => simp [Rows.uptoBulk]
  | slice elems spare => simp [Rows.uptoBulk]
  | agg parts => simp [Rows.uptoBulk]
  | iface t d => simp [Rows.uptoBulk]
  | map entries => simp [Rows.uptoBulk]
  | held h => simp [Rows.uptoBulk]
 str := fun l => by simp [Rows.uptoBulk]
 slice := fun a b => by rw [Rows.uptoBulk, zw6]; omega
 agg := fun a => by rw [Rows.uptoBulk, zw6]; omega
set_option maxRecDepth 100000 in
theorem contract (H : Type) (enc : TypeId × Value → H) (W : World) (base : Nat) (args : Array Value) (ds gs : List (DataW H)) (before : List MemPlace)
  (hval : ∀ (j : Nat) t v, Tryz.f5.params[j]? = some t → args[j]? = some v → Value.okWide Tryz.prog W .any base t v)
  (hW : DataW.Whole enc Tryz.prog Tryz.f5.params.toList Rows.roundEditsSpec.vars false W args.toList ds gs before) (hk : Rows.uptoSmall H (ds ++ gs) = true) :
  Calls Tryz.prog 5 args W fun e W' => ∃ v, e = .returned v ∧ Rows.roundEditsSpec.post enc Tryz.prog Tryz.f5 false true false false W args v W' := by
 have hW' := hW
 obtain ⟨p, q, hA0, hV, rfl, hfz, hnd⟩ := hW
 have hA : DataW.TrodAll enc Tryz.prog W 0 (fun _ => true) true Tryz.f5.params.toList args.toList ds p := hA0
 rw [Tryz.params5] at hA hval
 obtain ⟨v0, vs0, d0, ds0, p0, q0, hargs, rfl, rfl, h0, r0⟩ := trodAll_cons hA
 obtain ⟨v1, vs1, d1, ds1, p1, q1, rfl, rfl, rfl, h1, r1⟩ := trodAll_cons r0
 obtain ⟨v2, vs2, d2, ds2, p2, q2, rfl, rfl, rfl, h2, r2⟩ := trodAll_cons r1
 obtain ⟨rfl, rfl, rfl⟩ := trodAll_nil r2
 obtain rfl : args = #[v0, v1, v2] := by cases args; simp_all
 obtain ⟨rfl, rfl⟩ := trodVars_none hV
 have hb : Rows.uptoBulkAll ([d0, d1, d2] ++ []) ≤ 1048576 := of_decide_eq_true hk
 obtain ⟨f0, t0⟩ := h0
 obtain ⟨f1, t1⟩ := h1
 obtain ⟨f2, t2⟩ := h2
 obtain ⟨x0, a0, b0, _⟩ : ∃ x0 : Zo, zgg W v0.cells.toList (zdl x0) ∧ zt (zdl x0) ≤ Rows.uptoBulk d0 ∧ zca (zdl x0) := reads ipOK ipRd zzS enc W f0 24 _ d0 p0 (by simp [gd]) t0
 obtain ⟨x1, a1, b1, _⟩ : ∃ x1 : zu, zgg W v1.cells.toList (zh x1) ∧ zt (zh x1) ≤ Rows.uptoBulk d1 ∧ zca (zh x1) := reads ipOK ipRd zzS enc W f1 35 _ d1 p1 (by simp [gd]) t1
 obtain ⟨x2, a2, b2, _⟩ : ∃ x2 : Int, zgg W v2.cells.toList [.at (.int .i64 x2)] ∧ zt [.at (.int .i64 x2)] ≤ Rows.uptoBulk d2 ∧ zca [.at (.int .i64 x2)] := reads ipOK ipRd zzS enc W f2 3 _ d2 p2 (by simp [gd]) t2
 simp only [List.cons_append, List.nil_append, List.append_nil, Rows.uptoBulkAll] at hb
 have hs0 : zt (zdl x0) = 1 + zL zh x0.rules := by
  unfold zdl
  simp only [zt, bPV, zL]
  omega
 have hs : zL zh x0.rules + zt (zh x1) ≤ big := by unfold big; omega
 have ha : zdh noA W ((((zfS zb1).inS.sl I).enc (x0, x1, x2)).1.map (trT (fun i => i) (lk []))) #[v0, v1, v2] := by
  have e0 : (I.exp 24 x0).map (trV (I := I) (fun i => i) (lk [])) = ((zdl x0)).map CV.p := zAp ipOK 24 x0
  have e1 : (I.exp 35 x1).map (trV (I := I) (fun i => i) (lk [])) = ((zh x1)).map CV.p := zAp ipOK 35 x1
  show zdh noA W [TV.agg ((I.exp 24 x0).map (trV (I := I) (fun i => i) (lk []))), TV.agg ((I.exp 35 x1).map (trV (I := I) (fun i => i) (lk []))), TV.c (CV.p (.at (.int .i64 x2)))] #[v0, v1, v2]
  rw [e0, e1]
  exact zoF (zEG Tryz.underlying24 (hval 0 24 v0 rfl rfl) a0) (zoF (zEG Tryz.underlying35 (hval 1 35 v1 rfl rfl) a1) (zoF (zFa (hu := zxT) (by intro fs h; cases h) (by intro n e h; cases h) (hval 2 3 v2 rfl rfl) a2) zB1))
 refine (zAA zkv rfl rfl rfl (x := (x0, x1, x2)) (y := true) (zrb (l := x0.rules) hs) (b := true) rfl rfl rfl ha).mono fun e W' ⟨he, hbl⟩ => ?_
 subst he
 refine ⟨_, rfl, zCD (tb := 4) (pa := p0 ++ (p1 ++ (p2 ++ []))) hW' rfl rfl Tryz.underlying4 rfl rfl (fun sp hsp => ?_) (List.append_nil _) hbl⟩
 have hlt : ∀ x ∈ p0 ++ (p1 ++ (p2 ++ [])), x.block < W.heap.size := fun x hx => hW'.lt x (by simpa using hx)
 exact zmc (by kernel_rfl) hbl sp _ _ _ _ (by rw [Tryz.params5]; intro t ht; simp at ht; rcases ht with rfl | rfl | rfl <;> exact ⟨by kernel_rfl, of_decide_eq_true (by kernel_rfl)⟩) hA0 hlt (fun x hx => hsp x (by simpa using hx))
set_option maxRecDepth 100000 in
theorem lifted (os : Os) (started : os.Started) (H : Type) (enc : TypeId × Value → H) (F : Stop.Interp) :
  ReturnsInHanded {} Tryz.checked os 5 .any ((Rows.OpenSpec.upto Rows.roundEditsSpec).pre6 enc Tryz.prog Tryz.f5 Rows.roundEditsUptoRow.domain false) (((Rows.OpenSpec.upto Rows.roundEditsSpec).at F).post enc Tryz.prog Tryz.f5 false true false false) := by
 refine returnsInHanded_of_cond (C := Tryz.checked) (s := Rows.OpenSpec.upto Rows.roundEditsSpec) (k := Rows.uptoSmall) rfl own started (by kernel_rfl) Tryz.func5
  (OpenSpec.witness (enc := enc) (C := Tryz.checked) (s := Rows.OpenSpec.upto Rows.roundEditsSpec) (k := Rows.uptoSmall) rfl false ⟨#[], #[.agg #[.slice none 0 0], .agg #[.int .u8 0, .slice none 0 0, .slice none 0 0, .int .u8 0, .string ⟨#[]⟩, .int .i64 0, .string ⟨#[]⟩, .slice none 0 0, .bool false, .slice none 0 0, .slice none 0 0, .slice none 0 0], .int .i64 0], []⟩ 8 (by kernel_rfl) (by kernel_rfl) (by kernel_rfl)
   (x := ([.agg [.nil], .agg [.lit (.int .u8 0), .nil, .nil, .agg [.lit (.int .u8 0), .lit (.string []), .lit (.int .i64 0), .agg [.lit (.string []), .nil, .lit (.bool false)], .nil], .nil, .nil], .lit (.int .i64 0)], [], [])) (by kernel_rfl) rfl (by kernel_rfl)) ?_
 intro W base args ds gs before hval hW _ hk _
 exact contract H enc W base args ds gs before hval hW hk
theorem proved : Rows.RoundEditsUptoSaid :=
 OpenClaim.holds_of_cond 5 Tryz.f5 rfl rfl rfl rfl rfl rfl rfl ⟨rfl, rfl, rfl, rfl, rfl⟩ rfl rfl rfl rfl rfl (by kernel_rfl) Tryz.func5 (by kernel_rfl)
  (of_decide_eq_true (by kernel_rfl)) (by unfold Func.isWrapper; first | (rw [if_pos (by decide +kernel)]; kernel_rfl) | (rw [if_neg (by decide +kernel)]; exact ⟨rfl, rfl⟩))
  (fun os started H enc _ F => lifted os started H enc F)
end Go.Proofs.YtnfhfeipljhciaaGreat.roundEdits
#print axioms Go.Proofs.YtnfhfeipljhciaaGreat.roundEdits.proved
