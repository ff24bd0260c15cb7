/- nest: copies, trimming, parts (PlNest2, PlNest3, PlNest4 over the texts of seat .Z). -/
import Derived.Test.YtnfhfeipljhciaaGreatLaw
import Derived.Test.YtnfhfeipljhciaaGreatLax
namespace Go.Lv.VT
def szP : List (List VValue) → Nat
  | [] => 0
  | l :: r => 1 + szL l + szP r
theorem both_self {R : Type} (x : Option R) : both x x = x := by
  unfold both; rw [if_pos rfl]

theorem clone_eq {l : List VValue} (h : szL l ≤ big) : slices_Clone_Value l = some l := by
  unfold slices_Clone_Value
  have hlen := szL_len l
  unfold big at h
  have hap : appOk 0 l.length 80 = true := appOk_of (by omega)
  cases l with
  | nil => simp only [hap, both_self, need_true, List.isEmpty_nil, cond_true]
  | cons v r => simp only [hap, need_true, List.isEmpty_cons, cond_false]

theorem twin_eq {l : List VValue} (h : szL l ≤ big) : nest_twin l = some l := by
  refine recE_meas (fun l => szL l) (fun l => szL l ≤ big) (fun l => l) (fun S l hl hS => ?_) h
  unfold nest_twin_B
  have hlen := szL_len l
  simp only [bindO, clone_eq hl, Option.bind_some]
  refine (loopK_oi l (fun i (a : List VValue) => ((i : Int), a)) (fun v a => some (.again a)) (fun a => some (.out a)) (fun i a => a = l) (a := l) rfl rfl (fun i a hi hI => ?_) (fun a hI => ?_) (r := .out l) ?_)
  · subst hI
    have hsz := szL_mem (List.getElem_mem hi)
    have hv2 := szV_eq a[i]
    refine ⟨?_, fun a' ha => by cases ha; rfl⟩
    have h1 : S a[i].list = some a[i].list := hS a[i].list (by omega) (by omega)
    have h2 : decide ((0 : Int) ≤ (i : Int)) = true := decide_eq_true (by omega)
    have h3 : a[i]? = some a[i] := List.getElem?_eq_getElem hi
    have h4 : a.set i ⟨a[i].token, a[i].list⟩ = a := by
      have : (⟨a[i].token, a[i].list⟩ : VValue) = a[i] := by cases a[i]; rfl
      rw [this, List.set_getElem_self]
    simp only [lt_true hi, h2, Bool.and_self, cond_true, need_true, Int.toNat_natCast, h3, Option.bind_some, h1, h4, w64_succ hi (by omega), Option.map_some]
  · subst hI
    simp only [lt_self, cond_false]
    rfl
  · rw [overL_fold (fun a v => a) (fun v a => rfl)]
    congr 2
    clear hl hS hlen h
    generalize l = b at *
    have : ∀ (m b : List VValue), m.foldl (fun a _ => a) b = b := by
      intro m
      induction m with
      | nil => intro b; rfl
      | cons v m ih => intro b; exact ih b
    exact this _ _
theorem trim1 {l : List VValue} {i : Nat} (h : i < l.length) : nest_Trim_1 ((i : Int), l) = some (isSp l[i]) := by
  unfold nest_Trim_1
  simp only [bindO, geti_eq h, Option.bind_some]
  rfl

theorem nest_trim {l : List VValue} (h : szL l ≤ big) : nest_Trim l = some (if errS l = 0 then (trimS l, 0) else ([], errS l)) := by
  unfold nest_Trim
  have hlen := szL_len l
  simp only [bindO, nest_check h, Option.bind_some]
  by_cases h1 : errS l = 0
  · rw [if_pos h1]
    have hne : (errS l != 0) = false := by simp [h1]
    simp only [hne, cond_false]
    have hdl := List.Sublist.length_le (List.dropWhile_sublist isSp (l := l))
    have hdd := drop_dw isSp l
    refine (loopK_go (r := .out ((l.length - (l.dropWhile isSp).length : Nat) : Int)) (loopF_inv (fun s => ∃ k : Nat, s = (k : Int) ∧ k ≤ l.length ∧ (l.drop k).dropWhile isSp = l.dropWhile isSp) (fun s => l.length - s.toNat) _ (fun s hs => ?_) ⟨0, rfl, Nat.zero_le _, rfl⟩)).trans ?_
    · obtain ⟨k, rfl, hk, he⟩ := hs
      by_cases hlt : k < l.length
      · rw [List.drop_eq_getElem_cons hlt, List.dropWhile_cons] at he
        have hw := w64_succ hlt (by unfold big at h ⊢; omega)
        cases hv : isSp l[k] with
        | true =>
          rw [if_pos hv] at he
          refine .inl ⟨((k + 1 : Nat) : Int), ?_, ⟨k + 1, rfl, hlt, he⟩, by omega⟩
          simp only [lt_true hlt, condO_true, trim1 hlt, Option.bind_some, hv, cond_true, hw]
        | false =>
          rw [if_neg (by rw [hv]; simp)] at he
          refine .inr (.inl ⟨(k : Int), ?_, ?_⟩)
          · simp only [lt_true hlt, condO_true, trim1 hlt, Option.bind_some, hv, cond_true, cond_false]
          · rw [← he]
            congr 1
            simp
            omega
      · have hkk : k = l.length := by omega
        subst hkk
        rw [List.drop_length] at he
        refine .inr (.inl ⟨(l.length : Int), ?_, ?_⟩)
        · simp only [lt_self, condO_false, Option.bind_some, cond_false]
        · rw [← he]; simp
    · rw [go_out]
      generalize hf : l.length - (l.dropWhile isSp).length = f at hdd
      have hfl : f ≤ l.length := by omega
      generalize l.dropWhile isSp = d at hdd
      subst hdd
      refine (loopK_go (r := .out ((f + (trimB (l.drop f)).length : Nat) : Int)) (loopF_inv (fun s => ∃ m : Nat, s = (m : Int) ∧ f ≤ m ∧ m ≤ l.length ∧ trimB ((l.take m).drop f) = trimB (l.drop f)) (fun s => s.toNat) _ (fun s hs => ?_) ⟨l.length, rfl, hfl, Nat.le_refl _, by rw [List.take_length]⟩)).trans ?_
      · obtain ⟨m, rfl, hm1, hm2, he⟩ := hs
        by_cases hlt : f < m
        · have hm : m - 1 < l.length := by omega
          have hsn : (l.take m).drop f = (l.take (m - 1)).drop f ++ [l[m - 1]] := by
            have : l.take m = l.take (m - 1) ++ [l[m - 1]] := by
              have := List.take_succ_eq_append_getElem hm
              rwa [show m - 1 + 1 = m by omega] at this
            rw [this, List.drop_append_of_le_length (by rw [List.length_take]; omega)]
          rw [hsn, trimB_snoc] at he
          have h2 : decide ((f : Int) < (m : Int)) = true := decide_eq_true (by omega)
          have hw : w64 ((m : Int) - 1) = ((m - 1 : Nat) : Int) := by rw [w64, wrap64_id (by omega) (by unfold big at h; omega)]; omega
          cases hv : isSp l[m - 1] with
          | true =>
            rw [if_pos hv] at he
            refine .inl ⟨((m - 1 : Nat) : Int), ?_, ⟨m - 1, rfl, by omega, by omega, he⟩, by omega⟩
            simp only [h2, condO_true, hw, trim1 hm, Option.bind_some, hv, cond_true]
          | false =>
            rw [if_neg (by rw [hv]; simp)] at he
            refine .inr (.inl ⟨(m : Int), ?_, ?_⟩)
            · simp only [h2, condO_true, hw, trim1 hm, Option.bind_some, hv, cond_true, cond_false]
            · rw [← he]
              congr 1
              simp
              omega
        · have hmm : m = f := by omega
          subst hmm
          have h2 : decide ((m : Int) < (m : Int)) = false := decide_eq_false (by omega)
          refine .inr (.inl ⟨(m : Int), ?_, ?_⟩)
          · simp only [h2, condO_false, Option.bind_some, cond_false]
          · rw [List.drop_eq_nil_of_le (by rw [List.length_take]; omega), trimB_nil] at he
            rw [← he]; simp
      · rw [go_out]
        have htl := List.Sublist.length_le (trimB_sub (l.drop f))
        rw [List.length_drop] at htl
        have hcut : List.drop f (List.take (f + (trimB (l.drop f)).length) l) = trimB (l.drop f) := by
          rw [List.drop_take]
          have : ∀ d : List VValue, d.take (trimB d).length = trimB d := by
            intro d
            unfold trimB
            rw [List.length_reverse]
            have h3 := drop_dw isSp d.reverse
            have h4 := List.Sublist.length_le (List.dropWhile_sublist isSp (l := d.reverse))
            rw [List.length_reverse] at h3 h4
            rw [← h3, List.drop_reverse, List.reverse_reverse]
            congr 1
            simp
          have e := this (l.drop f)
          rw [show f + (trimB (l.drop f)).length - f = (trimB (l.drop f)).length by omega]
          exact e
        have hneed : (decide ((0 : Int) ≤ (f : Int)) && (decide ((f : Int) ≤ ((f + (trimB (l.drop f)).length : Nat) : Int)) && (decide (((f + (trimB (l.drop f)).length : Nat) : Int) ≤ ((f + (trimB (l.drop f)).length : Nat) : Int)) && decide (((f + (trimB (l.drop f)).length : Nat) : Int) ≤ (l.length : Int))))) = true := by
          simp only [Bool.and_eq_true, decide_eq_true_eq]; omega
        have hts : trimS l = trimB (l.drop f) := by
          unfold trimS
          rw [← drop_dw isSp l, hf]
        simp only [hneed, need_true, Int.toNat_natCast, hcut, twin_eq (Nat.le_trans (szL_sub ((trimB_sub _).trans (List.drop_sublist _ _))) h), Option.bind_some, hts]
  · rw [if_neg h1]
    have hne : (errS l != 0) = true := by simp [h1]
    simp only [hne, cond_true]
def cutsP (k : Int) (a : List (List VValue) × List VValue) (v : VValue) : List (List VValue) × List VValue :=
  if v.token.kind == k then (a.1 ++ [a.2], []) else (a.1, a.2 ++ [v])
def cutsF (k : Int) (l : List VValue) : List (List VValue) × List VValue := l.foldl (cutsP k) ([], [])
def cutsS (k : Int) (l : List VValue) : List (List VValue) := (cutsF k l).1 ++ [(cutsF k l).2]

theorem cutsF_take {k : Int} {l : List VValue} {i : Nat} (h : i < l.length) : cutsF k (l.take (i + 1)) = cutsP k (cutsF k (l.take i)) l[i] := by
  unfold cutsF
  rw [List.take_succ_eq_append_getElem h, List.foldl_append]
  rfl

theorem szP_append (a b : List (List VValue)) : szP (a ++ b) = szP a + szP b := by
  induction a with
  | nil => simp [szP]
  | cons x a ih => simp only [List.cons_append, szP, ih]; omega
theorem szL_append (a b : List VValue) : szL (a ++ b) = szL a + szL b := by
  induction a with
  | nil => simp [szL]
  | cons x a ih => simp only [List.cons_append, szL, ih]; omega

theorem parts_sz (k : Int) : ∀ (l : List VValue) (a : List (List VValue) × List VValue), szP (l.foldl (cutsP k) a).1 + szL (l.foldl (cutsP k) a).2 ≤ szP a.1 + szL a.2 + szL l ∧ (l.foldl (cutsP k) a).1.length ≤ a.1.length + l.length ∧ (l.foldl (cutsP k) a).2.length ≤ a.2.length + l.length
  | [], a => by simp [szL]
  | v :: l, a => by
    rw [List.foldl_cons]
    obtain ⟨h1, h2, h3⟩ := parts_sz k l (cutsP k a v)
    have hv := szV_eq v
    have : szP (cutsP k a v).1 + szL (cutsP k a v).2 ≤ szP a.1 + szL a.2 + szV v ∧ (cutsP k a v).1.length ≤ a.1.length + 1 ∧ (cutsP k a v).2.length ≤ a.2.length + 1 := by
      unfold cutsP
      split
      · simp only [szP_append, szP, szL, List.length_append, List.length_cons, List.length_nil]; omega
      · simp only [szL_append, szL, List.length_append, List.length_cons, List.length_nil]; omega
    rw [szL, List.length_cons]
    omega

theorem ref_parts {l : List VValue} {k : Int} (h : szL l ≤ big) : ref04_Parts (l, k) = some (cutsS k l) := by
  unfold ref04_Parts
  have hlen := szL_len l
  refine (loopK_oi l (fun i (a : List (List VValue) × List VValue) => ((i : Int), (a.1, ([] : List (List VValue))), a.2)) (fun v a => some (.again (cutsP k a v))) (fun a => some (.out ((a.1, ([] : List (List VValue))), a.2))) (fun i a => a.1.length ≤ i ∧ a.2.length ≤ i) (a := ([], [])) rfl (by simp) (fun i a hi hI => ?_) (fun a _ => ?_) (r := .out (((cutsF k l).1, []), (cutsF k l).2)) ?_)
  · obtain ⟨l1, last⟩ := a
    obtain ⟨hI1, hI2⟩ := hI
    simp only at hI1 hI2
    unfold big at h
    have hw := w64_succ hi (by unfold big; omega)
    refine ⟨?_, fun a' ha => ?_⟩
    · simp only [lt_true hi, cond_true, bindO, geti_eq hi, Option.bind_some, Option.map_some, cutsP]
      cases hv : (l[i].token.kind == k) with
      | true =>
        have hap : appOk (l1 ++ List.cons last []).length (0 + 1 + 0) 24 = true := appOk_of (by simp; omega)
        simp only [cond_true, hap, need_true, joinK_out, hw, if_true, List.append_nil]
      | false =>
        have hl0 : ([] : List (List VValue)).length = 0 := rfl
        have hn : w64 (((l1.length + 1 + ([] : List (List VValue)).length : Nat) : Int) - 1) = (l1.length : Int) := by rw [w64, wrap64_id (by omega) (by omega)]; omega
        have hb : (decide ((0 : Int) ≤ (l1.length : Int)) && decide ((l1.length : Int) < ((l1.length + 1 + ([] : List (List VValue)).length : Nat) : Int))) = true := by
          simp only [Bool.and_eq_true, decide_eq_true_eq]; omega
        have hbq : Nat.beq l1.length l1.length = true := Nat.beq_refl _
        have hap : appOk last.length 1 80 = true := appOk_of (by omega)
        have hb2 : ∀ z : VValue, (decide ((0 : Int) ≤ (last.length : Int)) && decide ((last.length : Int) < ((last ++ [z]).length : Int))) = true := by
          intro z; simp; omega
        have hz : ∀ z : VValue, (last ++ [z])[last.length]? = some z := by intro z; simp
        have hset : ∀ z u : VValue, (last ++ [z]).set last.length u = last ++ [u] := by intro z u; simp
        have he : ∀ u : VValue, (⟨u.token, u.list⟩ : VValue) = u := fun u => by cases u; rfl
        simp only [cond_false, hn, hb, need_true, Int.toNat_natCast, hbq, hap, hb2, hz, hset, he, Option.bind_some, both_self, joinK_out, hw, if_false, Bool.false_eq_true]
    · cases ha
      unfold cutsP
      split
      · simp; omega
      · simp; omega
  · simp only [lt_self, cond_false]
    rfl
  · rw [overL_fold (fun a v => cutsP k a v) (fun v a => rfl)]
    rfl

theorem nest_split {l : List VValue} {k : Int} (h : szL l ≤ big) : nest_Split (l, k) = some (if errS l = 0 then (if k < 1 ∨ 24 < k then ([], 2) else (cutsS k l, 0)) else ([], errS l)) := by
  unfold nest_Split
  have hlen := szL_len l
  simp only [bindO, nest_check h, Option.bind_some]
  by_cases h1 : errS l = 0
  · have hne : (errS l != 0) = false := by simp [h1]
    rw [if_pos h1]
    simp only [hne, cond_false, cond_or]
    by_cases h2 : k < 1 ∨ 24 < k
    · have : (decide (k < 1) || decide (k > 24)) = true := by simpa using h2
      rw [if_pos h2, this]
      rfl
    · have : (decide (k < 1) || decide (k > 24)) = false := by
        rw [Bool.or_eq_false_iff]
        exact ⟨decide_eq_false (by omega), decide_eq_false (by omega)⟩
      rw [if_neg h2, this]
      simp only [cond_false]
      refine (loopK_go (r := .out (((l.length - (cutsF k l).2.length : Nat) : Int), (cutsF k l).1)) (loopF_inv (fun s => ∃ i from_ : Nat, s = (((from_ : Int), (i : Int)), (cutsF k (l.take i)).1) ∧ from_ ≤ i ∧ i ≤ l.length ∧ (cutsF k (l.take i)).2 = (l.take i).drop from_) (fun s => l.length - s.1.2.toNat) _ (fun s hs => ?_) ⟨0, 0, by simp [cutsF], Nat.le_refl _, Nat.zero_le _, by simp [cutsF]⟩)).trans ?_
      · obtain ⟨i, fr, rfl, hfi, hil, he⟩ := hs
        by_cases hi : i < l.length
        · refine .inl ?_
          have hw := w64_succ hi (by unfold big at h ⊢; omega)
          have hpt := cutsF_take (k := k) hi
          have htk : l.take (i + 1) = l.take i ++ [l[i]] := List.take_succ_eq_append_getElem hi
          unfold cutsP at hpt
          simp only [lt_true hi, cond_true, geti_eq hi, Option.bind_some]
          cases hv : (l[i].token.kind == k) with
          | true =>
            rw [if_pos hv] at hpt
            have hn : (decide ((0 : Int) ≤ (fr : Int)) && (decide ((fr : Int) ≤ (i : Int)) && (decide ((i : Int) ≤ (i : Int)) && decide ((i : Int) ≤ (l.length : Int))))) = true := by
              simp only [Bool.and_eq_true, decide_eq_true_eq]; omega
            have hsz : szL (List.drop fr (List.take i l)) ≤ big := Nat.le_trans (szL_sub ((List.drop_sublist _ _).trans (List.take_sublist _ _))) h
            have hpl := (parts_sz k (l.take i) ([], [])).2.1
            have hap : appOk (cutsF k (l.take i)).1.length 1 24 = true := appOk_of (by
              unfold cutsF
              have := List.length_take_le i l
              unfold big at h
              simp only [List.length_nil] at hpl
              omega)
            refine ⟨((((i + 1 : Nat) : Int), ((i + 1 : Nat) : Int)), (cutsF k (l.take (i + 1))).1), ?_, ⟨i + 1, i + 1, rfl, Nat.le_refl _, hi, ?_⟩, ?_⟩
            · simp only [cond_true, hn, need_true, Int.toNat_natCast, twin_eq hsz, Option.bind_some, hap, hw, joinK_out, hpt, he]
            · rw [hpt]
              simp
            · simp only [Int.toNat_natCast]; omega
          | false =>
            rw [if_neg (by rw [hv]; simp)] at hpt
            refine ⟨(((fr : Int), ((i + 1 : Nat) : Int)), (cutsF k (l.take (i + 1))).1), ?_, ⟨i + 1, fr, rfl, by omega, hi, ?_⟩, ?_⟩
            · simp only [cond_false, joinK_out, hw, hpt]
            · rw [hpt, htk, he, List.drop_append_of_le_length (by rw [List.length_take]; omega)]
            · simp only [Int.toNat_natCast]; omega
        · have hil : i = l.length := by omega
          subst hil
          rw [List.take_length] at he ⊢
          refine .inr (.inl ⟨((fr : Int), (cutsF k l).1), by simp only [lt_self, cond_false], ?_⟩)
          rw [he, List.length_drop]
          congr 2
          omega
      · rw [go_out]
        -- the last part is behind
        have key : ∀ (m : List VValue) (a : List (List VValue) × List VValue) (p : List VValue), a.2 <:+ p → (m.foldl (cutsP k) a).2 <:+ p ++ m := by
          intro m
          induction m with
          | nil => intro a p h; simpa using h
          | cons v m ih =>
            intro a p h
            rw [List.foldl_cons]
            have : (cutsP k a v).2 <:+ p ++ [v] := by
              unfold cutsP
              split
              · exact List.nil_suffix
              · obtain ⟨q, hq⟩ := h
                exact ⟨q, by rw [← hq, List.append_assoc]⟩
            have := ih _ _ this
            rwa [List.append_assoc] at this
        have hsuf := key l ([], []) [] (List.suffix_refl _)
        rw [List.nil_append] at hsuf
        have hdr : List.drop (l.length - (cutsF k l).2.length) l = (cutsF k l).2 := by
          unfold cutsF
          exact (List.suffix_iff_eq_drop.1 hsuf).symm
        have hsz : szL (cutsF k l).2 ≤ big := by
          have := szL_sub hsuf.sublist
          unfold cutsF
          omega
        have hle : (cutsF k l).2.length ≤ l.length := by unfold cutsF; exact hsuf.length_le
        have hn : (decide ((0 : Int) ≤ ((l.length - (cutsF k l).2.length : Nat) : Int)) && decide (((l.length - (cutsF k l).2.length : Nat) : Int) ≤ (l.length : Int))) = true := by
          simp only [Bool.and_eq_true, decide_eq_true_eq]; omega
        have hpl := (parts_sz k l ([], [])).2.1
        have hap : appOk (cutsF k l).1.length 1 24 = true := appOk_of (by
          unfold cutsF
          unfold big at h
          simp only [List.length_nil] at hpl
          omega)
        simp only [hn, need_true, Int.toNat_natCast, hdr, twin_eq hsz, Option.bind_some, hap]
        rfl
  · have h2 : (errS l != 0) = true := bne_iff_ne.2 h1
    rw [if_neg h1]
    simp only [h2, cond_true]

end Go.Lv.VT

namespace Go.Lv.VT
abbrev sp (l : List VValue) : List VValue := l.dropWhile isSp
theorem sp_nil : sp [] = [] := rfl
theorem sp_cons (v : VValue) (l : List VValue) : sp (v :: l) = if isSp v then sp l else v :: l := by
  unfold sp; rw [List.dropWhile_cons]
theorem sp_sub (l : List VValue) : (sp l).Sublist l := List.dropWhile_sublist isSp
theorem sp_len (l : List VValue) : (sp l).length ≤ l.length := (sp_sub l).length_le
theorem sp_idem : ∀ l : List VValue, sp (sp l) = sp l
  | [] => rfl
  | v :: l => by
    rw [sp_cons]
    cases h : isSp v with
    | true => rw [if_pos rfl]; exact sp_idem l
    | false => rw [if_neg (by simp), sp_cons, h, if_neg (by simp)]
def EndS (l : List VValue) : Prop := trimB l = l
theorem trimB_idem (l : List VValue) : EndS (trimB l) := by
  unfold EndS trimB
  rw [List.reverse_reverse]
  have : ∀ m : List VValue, (m.dropWhile isSp).dropWhile isSp = m.dropWhile isSp := sp_idem
  rw [this]
theorem end_tail {a : VValue} {l : List VValue} (h : EndS (a :: l)) : EndS l := by
  rcases nil_or_snoc l with rfl | ⟨t, v, rfl⟩
  · rfl
  · unfold EndS at h ⊢
    have e : a :: (t ++ [v]) = (a :: t) ++ [v] := rfl
    rw [e, trimB_snoc] at h
    rw [trimB_snoc]
    cases hv : isSp v with
    | false => rw [if_neg (by simp)]
    | true =>
      rw [hv, if_pos rfl] at h
      have h2 := trimB_len (a :: t)
      rw [h] at h2
      simp only [List.length_append, List.length_cons, List.length_nil] at h2
      omega
theorem end_sp : ∀ {l : List VValue}, EndS l → EndS (sp l)
  | [], h => h
  | v :: l, h => by
    rw [sp_cons]
    split
    · exact end_sp (end_tail h)
    · exact h
theorem trimS_end (l : List VValue) : EndS (trimS l) := trimB_idem _
theorem trimS_of {l : List VValue} (h : EndS l) : trimS l = sp l := end_sp h
theorem trimB_pre (l : List VValue) : trimB l <+: l := by
  unfold trimB
  have := (List.dropWhile_suffix isSp (l := l.reverse))
  have h := List.reverse_prefix.2 this
  rwa [List.reverse_reverse] at h
theorem sp_pre {l m : List VValue} (h : m <+: l) (hl : sp l = l) : sp m = m := by
  obtain ⟨t, rfl⟩ := h
  cases m with
  | nil => rfl
  | cons a m =>
    rw [List.cons_append, sp_cons] at hl
    rw [sp_cons]
    cases ha : isSp a with
    | false => rw [if_neg (by simp)]
    | true =>
      rw [ha, if_pos rfl] at hl
      have := sp_len (m ++ t)
      rw [hl, List.length_cons] at this
      omega
theorem dropLast_pre (l : List VValue) : l.dropLast <+: l := List.dropLast_prefix l

theorem left_eq {l : List VValue} (h : l.length ≤ big) : decl_left l = some (sp l) := by
  unfold decl_left
  refine (loopK_go (r := .out (sp l)) (loopF_inv (fun s => sp s = sp l) (fun s => s.length) _ (fun s hs => ?_) rfl)).trans (by rw [go_out])
  cases s with
  | nil => exact .inr (.inl ⟨[], by simp, by rw [← hs]; rfl⟩)
  | cons v t =>
    have h1 : decide (((v :: t).length : Int) > 0) = true := by rw [pos_dec]; simp
    have h2 : geti (v :: t) 0 = some v := rfl
    have h3 : decide ((1 : Int) ≤ ((v :: t).length : Int)) = true := by simp; omega
    rw [sp_cons] at hs
    cases hv : isSp v with
    | true =>
      rw [hv] at hs
      unfold isSp at hv
      refine .inl ⟨t, ?_, by simpa using hs, by simp⟩
      simp only [h1, h2, h3, condO_true, bindO, Option.bind_some, decl_is, hv, cond_true, need_true]
      rfl
    | false =>
      rw [hv] at hs
      unfold isSp at hv
      refine .inr (.inl ⟨v :: t, ?_, by rw [← hs]; rfl⟩)
      simp only [h1, h2, condO_true, bindO, Option.bind_some, decl_is, hv, cond_true, cond_false]
theorem right_eq {l : List VValue} (h : l.length ≤ big) : decl_right l = some (trimB l) := by
  unfold decl_right
  refine (loopK_go (r := .out (trimB l)) (loopF_inv (fun s => trimB s = trimB l ∧ s.length ≤ big) (fun s => s.length) _ (fun s hs => ?_) ⟨rfl, h⟩)).trans (by rw [go_out])
  rcases nil_or_snoc s with rfl | ⟨t, v, rfl⟩
  · exact .inr (.inl ⟨[], by simp, by rw [← hs.1]; rfl⟩)
  · have hl2 : (t ++ [v]).length = t.length + 1 := by simp
    have hb := hs.2
    unfold big at hb
    have h1 : decide (((t ++ [v]).length : Int) > 0) = true := by rw [pos_dec]; simp
    have h4 : w64 (((t ++ [v]).length : Int) - 1) = (t.length : Int) := by rw [w64, wrap64_id (by omega) (by omega)]; omega
    have h2 : geti (t ++ [v]) (t.length : Int) = some v := by rw [geti_eq (by omega)]; simp
    have h3 : (decide ((0 : Int) ≤ (t.length : Int)) && decide ((t.length : Int) ≤ ((t ++ [v]).length : Int))) = true := by simp; omega
    have hs1 := hs.1
    rw [trimB_snoc] at hs1
    cases hv : isSp v with
    | true =>
      rw [if_pos hv] at hs1
      unfold isSp at hv
      refine .inl ⟨t, ?_, ⟨hs1, by unfold big; omega⟩, by simp⟩
      simp only [h1, h4, h2, h3, condO_true, bindO, Option.bind_some, decl_is, hv, cond_true, need_true, Int.toNat_natCast]
      simp
    | false =>
      rw [if_neg (by rw [hv]; simp)] at hs1
      unfold isSp at hv
      refine .inr (.inl ⟨t ++ [v], ?_, by rw [← hs1]⟩)
      simp only [h1, h4, h2, condO_true, bindO, Option.bind_some, decl_is, hv, cond_true, cond_false]

def impS : Str := [105, 109, 112, 111, 114, 116, 97, 110, 116]
def impV (a : VValue) : Bool := a.token.kind == 1 && lowS a.token.text == impS
def bangV (a : VValue) : Bool := a.token.kind == 9 && a.token.text == [33]
def lastIs (p : VValue → Bool) (l : List VValue) : Bool := match l.getLast? with
  | some v => p v
  | none => false
theorem last_snoc (p : VValue → Bool) (t : List VValue) (v : VValue) : lastIs p (t ++ [v]) = p v := by
  unfold lastIs
  rw [List.getLast?_concat]
def markS (v : List VValue) : List VValue × Bool :=
  bif decide (2 ≤ v.length) && lastIs impV v then
    (bif lastIs bangV (trimB v.dropLast) then (trimB (trimB v.dropLast).dropLast, true) else (v, false))
  else (v, false)
theorem mark_pre (v : List VValue) : (markS v).1 <+: v := by
  unfold markS
  cases decide (2 ≤ v.length) && lastIs impV v with
  | false => exact List.prefix_refl _
  | true =>
    rw [cond_true]
    cases lastIs bangV (trimB v.dropLast) with
    | false => exact List.prefix_refl _
    | true => exact (trimB_pre _).trans ((dropLast_pre _).trans ((trimB_pre _).trans (dropLast_pre _)))
theorem mark_end {v : List VValue} (h : EndS v) : EndS (markS v).1 := by
  unfold markS
  cases decide (2 ≤ v.length) && lastIs impV v with
  | false => exact h
  | true =>
    rw [cond_true]
    cases lastIs bangV (trimB v.dropLast) with
    | false => exact h
    | true => exact trimB_idem _
theorem low_imp : lowS impS = impS := by decide
def nameO (t : Str) : Str := bif List.isPrefixOf [45, 45] t then t else lowS t
def oneS (x : List VValue) : Option VDecl :=
  match trimS x with
  | [] => none
  | a :: r => bif a.token.kind == 1 then (match sp r with
    | [] => none
    | c :: r2 => bif c.token.kind == 16 then (bif declS ⟨nameO a.token.text, (markS (sp r2)).1, (markS (sp r2)).2⟩ then some ⟨nameO a.token.text, (markS (sp r2)).1, (markS (sp r2)).2⟩ else none) else none) else none
def pairO (o : Option VDecl) : VDecl × Bool := match o with
  | some d => (d, true)
  | none => (⟨[], [], false⟩, false)

theorem gt_zero_snoc (t : List VValue) (v : VValue) (h : t.length + 1 ≤ big) : w64 (((t ++ [v]).length : Int) - 1) = (t.length : Int) ∧ geti (t ++ [v]) (t.length : Int) = some v ∧ List.take t.length (t ++ [v]) = t ∧
    (decide ((0 : Int) ≤ (t.length : Int)) && decide ((t.length : Int) ≤ ((t ++ [v]).length : Int))) = true ∧ decide (((t ++ [v]).length : Int) > 0) = true ∧ (((t ++ [v]).length : Int) == 0) = false ∧ (t ++ [v]).dropLast = t := by
  have hl2 : (t ++ [v]).length = t.length + 1 := by simp
  unfold big at h
  exact ⟨by rw [w64, wrap64_id (by omega) (by omega)]; omega, by rw [geti_eq (by omega)]; simp, by simp, by simp; omega, by rw [pos_dec]; simp, beq_eq_false_iff_ne.2 (by omega), by simp⟩
theorem marked_eq {v : List VValue} (hz : zL enc_VValue v ≤ big) (hs : sp v = v) : ref05_marked v = some (markS v) := by
  have hlen := zL_len zValue_pos v
  unfold ref05_marked markS
  rcases nil_or_snoc v with rfl | ⟨t, a, rfl⟩
  · rfl
  · obtain ⟨g1, g2, g3, g4, g5, g6, g7⟩ := gt_zero_snoc t a (by simp at hlen; omega)
    have hd : decide ((t.length : Int) < 1) = !decide (2 ≤ (t ++ [a]).length) := by
      by_cases h : 2 ≤ (t ++ [a]).length
      · rw [decide_eq_true h]; simp at h; exact decide_eq_false (by omega)
      · rw [decide_eq_false h]; simp at h; subst h; rfl
    have hm := zL_mem (f := enc_VValue) (show a ∈ t ++ [a] by simp)
    have hza := zValue_eq a
    have hli : lastIs impV (t ++ [a]) = impV a := last_snoc _ _ _
    have hal : ref01_Alike (a.token.text, impS) = some (lowS a.token.text == impS) := by
      rw [ref_Alike (by omega) (by decide), low_imp]
    have hal2 : ref01_Alike (a.token.text, [105, 109, 112, 111, 114, 116, 97, 110, 116]) = some (lowS a.token.text == impS) := hal
    have hti : EndS t → True := fun _ => trivial
    have hst : sp t = t := sp_pre ⟨[a], rfl⟩ hs
    have htt : ref04_Trimmed t = some (trimB t) := by
      have hsz := szL_zL (t ++ [a])
      rw [ref_trimmed (Nat.le_trans (szL_sub (List.sublist_append_left t [a])) (by omega))]
      unfold trimS
      exact congrArg (fun x => some (trimB x)) hst
    simp only [g1, hd, hli, impV]
    cases decide (2 ≤ (t ++ [a]).length) with
    | false => rfl
    | true =>
      simp only [Bool.not_true, Bool.not_false, condO_true, g2, bindO, Option.bind_some, cond_false, Bool.true_and, bne]
      cases a.token.kind == 1 with
      | false => rfl
      | true =>
        simp only [Bool.not_true, Bool.not_false, condO_true, Option.bind_some, cond_false, hal2, Bool.true_and]
        cases lowS a.token.text == impS with
        | false => rfl
        | true =>
          simp only [Bool.not_true, cond_false, cond_true, g4, need_true, Int.toNat_natCast, g3, htt, Option.bind_some, g7]
          have hsw : sp (trimB t) = trimB t := sp_pre (trimB_pre t) hst
          have hwl := trimB_len t
          have hzw : zL enc_VValue (trimB t) ≤ big := Nat.le_trans (zL_sub ((trimB_sub t).trans (List.sublist_append_left t [a]))) hz
          generalize trimB t = w at *
          rcases nil_or_snoc w with rfl | ⟨u, b, rfl⟩
          · rfl
          · obtain ⟨f1, f2, f3, f4, f5, f6, f7⟩ := gt_zero_snoc u b (by simp at hlen hwl; omega)
            have hlb : lastIs bangV (u ++ [b]) = bangV b := last_snoc _ _ _
            have hsu : sp u = u := sp_pre ⟨[b], rfl⟩ hsw
            have huu : ref04_Trimmed u = some (trimB u) := by
              have hsz := szL_zL (u ++ [b])
              rw [ref_trimmed (Nat.le_trans (szL_sub (List.sublist_append_left u [b])) (by omega))]
              unfold trimS
              exact congrArg (fun x => some (trimB x)) hsu
            simp only [f6, Bool.not_false, condO_true, f1, f2, Option.bind_some, cond_false, hlb, bangV]
            cases b.token.kind == 9 with
            | false => rfl
            | true =>
              simp only [Bool.not_true, Bool.not_false, condO_true, Option.bind_some, cond_false, Bool.true_and]
              cases b.token.text == [33] with
              | false => rfl
              | true => simp only [Bool.not_true, cond_false, cond_true, f4, need_true, Int.toNat_natCast, f3, huu, Option.bind_some, f7]

theorem one_sizes {x : List VValue} (hz : zL enc_VValue x ≤ big) {a : VValue} {r : List VValue} (ht : trimS x = a :: r) {c : VValue} {r2 : List VValue} (hr : sp r = c :: r2) (b : Bool) :
    bCells (enc_VDecl ⟨nameO a.token.text, (markS (sp r2)).1, b⟩) ≤ big := by
  have h1 : zL enc_VValue (a :: r) ≤ zL enc_VValue x := by
    rw [← ht]; exact zL_sub ((trimB_sub _).trans (sp_sub _))
  have h2 : zL enc_VValue (c :: r2) ≤ zL enc_VValue r := by rw [← hr]; exact zL_sub (sp_sub r)
  have h3 : zL enc_VValue (markS (sp r2)).1 ≤ zL enc_VValue r2 := zL_sub ((mark_pre _).sublist.trans (sp_sub _))
  rw [zL_cons] at h1 h2
  have hza := zValue_eq a
  have hn : (nameO a.token.text).length = a.token.text.length := by
    unfold nameO lowS
    cases List.isPrefixOf [45, 45] a.token.text <;> simp
  rw [zDecl_eq]
  show 3 + (nameO a.token.text).length + zL enc_VValue (markS (sp r2)).1 ≤ big
  omega

theorem one_next {x : List VValue} {a : VValue} {r : List VValue} (ht : trimS x = a :: r) : EndS r := end_tail (ht ▸ trimS_end x)
theorem Read1_eq {x : List VValue} (hz : zL enc_VValue x ≤ big) : ref05_Read1 x = some (pairO (oneS x)) := by
  have hsz := szL_zL x
  unfold ref05_Read1 oneS
  simp only [ref_trimmed (show szL x ≤ big by omega), bindO, Option.bind_some]
  have htz : zL enc_VValue (trimS x) ≤ big := Nat.le_trans (zL_sub ((trimB_sub _).trans (sp_sub _))) hz
  cases ht : trimS x with
  | nil => rfl
  | cons a r =>
    rw [ht, zL_cons] at htz
    have hza := zValue_eq a
    have e0 : (((a :: r).length : Int) == 0) = false := beq_eq_false_iff_ne.2 (by simp only [List.length_cons]; omega)
    have e1 : geti (a :: r) 0 = some a := rfl
    have hr := one_next ht
    have hrs := szL_zL r
    have htr : ref04_Trimmed r = some (sp r) := by rw [ref_trimmed (by omega), trimS_of hr]
    have hp : (bif decide ((a.token.text.length : Int) < 2) then true else !(List.take 2 a.token.text == [45, 45])) = !List.isPrefixOf [45, 45] a.token.text := by
      rw [← pre_take, ge_not]
      cases decide ((a.token.text.length : Int) < 2) <;> rfl
    have hn : (decide ((2 : Int) ≤ (a.token.text.length : Int)) || !(!(decide ((a.token.text.length : Int) < 2)))) = true := by
      by_cases h : (2 : Int) ≤ (a.token.text.length : Int)
      · rw [decide_eq_true h]; rfl
      · rw [decide_eq_true (show (a.token.text.length : Int) < 2 by omega)]; simp
    have hj : ∀ (k : List VValue × (Str × Bool) × (Str × Bool) → Option (VDecl × Bool)), joinK (X := List VValue × (Str × Bool) × (Str × Bool)) (bif !List.isPrefixOf [45, 45] a.token.text then some (LX.out (a :: r, ([], false), (lowS a.token.text, false))) else some (LX.out (a :: r, ([], false), (a.token.text, false)))) k = k (a :: r, ([], false), (nameO a.token.text, false)) := by
      intro k
      unfold nameO
      cases List.isPrefixOf [45, 45] a.token.text <;> rfl
    have h1l : decide ((1 : Int) ≤ ((a :: r).length : Int)) = true := decide_eq_true (by simp only [List.length_cons]; omega)
    simp only [e0, Bool.not_false, condO_true, e1, Option.bind_some, cond_false, bne, hn, need_true, hp, ref_Lower (show a.token.text.length ≤ big by omega)]
    cases a.token.kind == 1 with
    | false => rfl
    | true =>
      simp only [Bool.not_true, cond_false, cond_true]
      rw [hj]
      simp only [h1l, need_true, List.drop_succ_cons, List.drop_zero, htr, Option.bind_some]
      cases hsr : sp r with
      | nil => rfl
      | cons c r2 =>
        have hz2 : zL enc_VValue (c :: r2) ≤ zL enc_VValue r := by rw [← hsr]; exact zL_sub (sp_sub r)
        rw [zL_cons] at hz2
        have e2 : (((c :: r2).length : Int) == 0) = false := beq_eq_false_iff_ne.2 (by simp only [List.length_cons]; omega)
        have e3 : geti (c :: r2) 0 = some c := rfl
        have h2l : decide ((1 : Int) ≤ ((c :: r2).length : Int)) = true := decide_eq_true (by simp only [List.length_cons]; omega)
        have hr2 : EndS r2 := end_tail (hsr ▸ end_sp hr)
        have hrs2 := szL_zL r2
        have htr2 : ref04_Trimmed r2 = some (sp r2) := by rw [ref_trimmed (by omega), trimS_of hr2]
        have hzs : zL enc_VValue (sp r2) ≤ big := Nat.le_trans (zL_sub (sp_sub r2)) (by omega)
        have hck := one_sizes hz ht hsr (markS (sp r2)).2
        simp only [e2, Bool.not_false, condO_true, e3, Option.bind_some, cond_false]
        cases c.token.kind == 16 with
        | false => rfl
        | true =>
          simp only [Bool.not_true, cond_false, cond_true, h2l, need_true, List.drop_succ_cons, List.drop_zero, htr2, Option.bind_some, marked_eq hzs (sp_idem r2), ref05_Check_eq hck]
          cases declS ⟨nameO a.token.text, (markS (sp r2)).1, (markS (sp r2)).2⟩ <;> rfl

theorem decl_one_eq {x : List VValue} (hz : zL enc_VValue x ≤ big) : decl_one x = some (pairO (oneS x)) := by
  have hlx := zL_len zValue_pos x
  have htx : trimB (sp x) = trimS x := rfl
  unfold decl_one oneS
  simp only [left_eq (show x.length ≤ big by omega), right_eq (show (sp x).length ≤ big by have := sp_len x; omega), htx, bindO, Option.bind_some]
  have htz : zL enc_VValue (trimS x) ≤ big := Nat.le_trans (zL_sub ((trimB_sub _).trans (sp_sub _))) hz
  cases ht : trimS x with
  | nil => rfl
  | cons a r =>
    rw [ht, zL_cons] at htz
    have hza := zValue_eq a
    have e0 : (((a :: r).length : Int) == 0) = false := beq_eq_false_iff_ne.2 (by simp only [List.length_cons]; omega)
    have e1 : geti (a :: r) 0 = some a := rfl
    have hr := one_next ht
    have hrl := zL_len zValue_pos r
    have hj : ∀ (k : List VValue × (Str × Bool) × (Str × Bool) → Option (VDecl × Bool)), joinK (X := List VValue × (Str × Bool) × (Str × Bool)) (bif !List.isPrefixOf [45, 45] a.token.text then some (LX.out (a :: r, ([], false), (lowS a.token.text, false))) else some (LX.out (a :: r, ([], false), (a.token.text, false)))) k = k (a :: r, ([], false), (nameO a.token.text, false)) := by
      intro k
      unfold nameO
      cases List.isPrefixOf [45, 45] a.token.text <;> rfl
    have h1l : decide ((1 : Int) ≤ ((a :: r).length : Int)) = true := decide_eq_true (by simp only [List.length_cons]; omega)
    simp only [e0, Bool.not_false, condO_true, e1, Option.bind_some, cond_false, decl_is, hasPrefix_eq, prog_Lower (show a.token.text.length ≤ big by omega)]
    cases a.token.kind == 1 with
    | false => rfl
    | true =>
      simp only [Bool.not_true, cond_false, cond_true]
      rw [hj]
      simp only [h1l, need_true, List.drop_succ_cons, List.drop_zero, left_eq (show r.length ≤ big by omega), Option.bind_some]
      cases hsr : sp r with
      | nil => rfl
      | cons c r2 =>
        have hz2 : zL enc_VValue (c :: r2) ≤ zL enc_VValue r := by rw [← hsr]; exact zL_sub (sp_sub r)
        rw [zL_cons] at hz2
        have e2 : (((c :: r2).length : Int) == 0) = false := beq_eq_false_iff_ne.2 (by simp only [List.length_cons]; omega)
        have e3 : geti (c :: r2) 0 = some c := rfl
        have h2l : decide ((1 : Int) ≤ ((c :: r2).length : Int)) = true := decide_eq_true (by simp only [List.length_cons]; omega)
        have hr2 : EndS r2 := end_tail (hsr ▸ end_sp hr)
        have hr2l := zL_len zValue_pos r2
        have hzs : zL enc_VValue (sp r2) ≤ big := Nat.le_trans (zL_sub (sp_sub r2)) (by omega)
        have hck := one_sizes hz ht hsr (markS (sp r2)).2
        have hend : EndS (sp r2) := end_sp hr2
        have hidem := sp_idem r2
        simp only [e2, Bool.not_false, condO_true, e3, Option.bind_some, cond_false]
        cases c.token.kind == 16 with
        | false => rfl
        | true =>
          simp only [Bool.not_true, cond_false, cond_true, h2l, need_true, List.drop_succ_cons, List.drop_zero, left_eq (show r2.length ≤ big by omega), Option.bind_some]
          generalize hv : sp r2 = v at *
          -- the mark
          have hm : ∀ (k : List VValue × (Str × Bool) × (Str × Bool) → Option (VDecl × Bool)), joinK (X := List VValue × (Str × Bool) × (Str × Bool)) (
              (condO (decide (w64 ((v.length : Int) - 1) > 0)) (geti v (w64 ((v.length : Int) - 1))) (default : VValue)).bind fun y13 =>
              (condO (decide (w64 ((v.length : Int) - 1) > 0)) (some (y13.token.kind == 1)) (default : Bool)).bind fun y14 =>
              (condO (bif decide (w64 ((v.length : Int) - 1) > 0) then y14 else false) (geti v (w64 ((v.length : Int) - 1))) (default : VValue)).bind fun y15 =>
              (condO (bif decide (w64 ((v.length : Int) - 1) > 0) then y14 else false) (input_Alike (y15.token.text, [105, 109, 112, 111, 114, 116, 97, 110, 116])) (default : Bool)).bind fun y16 =>
              bif bif bif decide (w64 ((v.length : Int) - 1) > 0) then y14 else false then y16 else false then
                need (decide (0 ≤ w64 ((v.length : Int) - 1)) && decide (w64 ((v.length : Int) - 1) ≤ (v.length : Int))) <|
                (decl_right (List.take (w64 ((v.length : Int) - 1)).toNat v)).bind fun y17 =>
                (condO (decide ((y17.length : Int) > 0)) (geti y17 (w64 ((y17.length : Int) - 1))) (default : VValue)).bind fun y18 =>
                (condO (decide ((y17.length : Int) > 0)) (decl_bang (⟨y18.token, y18.list⟩ : VValue)) (default : Bool)).bind fun y19 =>
                bif bif decide ((y17.length : Int) > 0) then y19 else false then
                  need (decide (0 ≤ w64 ((y17.length : Int) - 1)) && decide (w64 ((y17.length : Int) - 1) ≤ (y17.length : Int))) <|
                  (decl_right (List.take (w64 ((y17.length : Int) - 1)).toNat y17)).bind fun y20 =>
                  some (LX.out (y20, (([] : Str), false), (nameO a.token.text, true)))
                else
                  some (LX.out (v, ([], false), (nameO a.token.text, false)))
              else
                some (LX.out (v, ([], false), (nameO a.token.text, false)))) k = k ((markS v).1, ([], false), (nameO a.token.text, (markS v).2)) := by
            intro k
            have hvl := zL_len zValue_pos v
            unfold markS
            rcases nil_or_snoc v with rfl | ⟨t, z, rfl⟩
            · rfl
            · obtain ⟨g1, g2, g3, g4, g5, g6, g7⟩ := gt_zero_snoc t z (by simp at hvl; omega)
              have hd : decide ((t.length : Int) > 0) = decide (2 ≤ (t ++ [z]).length) := by
                by_cases h : 2 ≤ (t ++ [z]).length
                · rw [decide_eq_true h]; simp at h; exact decide_eq_true (by omega)
                · rw [decide_eq_false h]; simp at h; subst h; rfl
              have hmm := zL_mem (f := enc_VValue) (show z ∈ t ++ [z] by simp)
              have hzz := zValue_eq z
              have hli : lastIs impV (t ++ [z]) = impV z := last_snoc _ _ _
              have hal2 : input_Alike (z.token.text, [105, 109, 112, 111, 114, 116, 97, 110, 116]) = some (lowS z.token.text == impS) := by
                rw [prog_Alike (by omega) (by decide)]
                exact congrArg (fun x => some (lowS z.token.text == x)) low_imp
              simp only [g1, hd, hli, impV]
              cases decide (2 ≤ (t ++ [z]).length) with
              | false => rfl
              | true =>
                simp only [condO_true, g2, Option.bind_some, cond_true, Bool.true_and]
                cases z.token.kind == 1 with
                | false => rfl
                | true =>
                  simp only [condO_true, Option.bind_some, cond_true, hal2, Bool.true_and]
                  cases lowS z.token.text == impS with
                  | false => rfl
                  | true =>
                    have htl : t.length ≤ big := by simp at hvl; omega
                    simp only [cond_true, g4, need_true, Int.toNat_natCast, g3, right_eq htl, Option.bind_some, g7]
                    have hwl := trimB_len t
                    generalize trimB t = w at *
                    rcases nil_or_snoc w with rfl | ⟨u, b, rfl⟩
                    · rfl
                    · obtain ⟨f1, f2, f3, f4, f5, f6, f7⟩ := gt_zero_snoc u b (by simp at hwl; omega)
                      have hlb : lastIs bangV (u ++ [b]) = bangV b := last_snoc _ _ _
                      have hbg : decl_bang b = some (bangV b) := by
                        unfold decl_bang decl_is bangV
                        cases b.token.kind == 9 <;> rfl
                      simp only [f5, condO_true, f1, f2, Option.bind_some, cond_true, eta_Value, hbg, hlb]
                      cases bangV b with
                      | false => rfl
                      | true =>
                        have hul : u.length ≤ big := by simp at hwl; omega
                        simp only [cond_true, f4, need_true, Int.toNat_natCast, f3, right_eq hul, Option.bind_some, f7, joinK_out]
          rw [hm]
          have hms : szL (markS v).1 ≤ big := by
            have h1 := zL_sub (f := enc_VValue) (mark_pre v).sublist
            have h2 := szL_zL (markS v).1
            omega
          have htm : trimS (markS v).1 = (markS v).1 := by
            rw [trimS_of (mark_end hend)]
            exact sp_pre (mark_pre v) hidem
          have hds : declS ⟨nameO a.token.text, (markS v).1, (markS v).2⟩ = (declS ⟨nameO a.token.text, (markS v).1, (markS v).2⟩ && (errS (markS v).1 == 0)) := by
            unfold declS
            cases nameD (nameO a.token.text) <;> cases errS (markS v).1 == 0 <;> simp
          simp only [nest_trim hms, Option.bind_some]
          by_cases he : errS (markS v).1 = 0
          · rw [if_pos he]
            simp only [htm, decl_Check_eq hck, condO_some, Option.bind_some]
            cases declS ⟨nameO a.token.text, (markS v).1, (markS v).2⟩ <;> rfl
          · rw [if_neg he]
            have he' := beq_eq_false_iff_ne.2 he
            rw [he', Bool.and_false] at hds
            rw [hds]
            simp only [bne, he', Bool.not_false, cond_true, Bool.not_true, condO_false, Option.bind_some, cond_false]
            rfl
theorem decl_One_eq {x : List VValue} (hz : zL enc_VValue x ≤ big) (he : errS x = 0) : decl_One x = some ((pairO (oneS x)).1, (pairO (oneS x)).2, 0) := by
  have hsz := szL_zL x
  unfold decl_One
  have : ((0 : Int) != 0) = false := rfl
  simp only [nest_check (show szL x ≤ big by omega), he, this, decl_one_eq hz, bindO, Option.bind_some, cond_false]
end Go.Lv.VT

namespace Go.Lv.VT
theorem loop_meas {S X R : Type} {step : S → Option (LO S X R)} {k : X → Option R} (μ : S → Nat) (ok : S → Prop) (Q : S → R → Prop)
    (h : ∀ s, ok s → (∃ s', step s = some (.again s') ∧ ok s' ∧ μ s' < μ s ∧ ∀ r, Q s' r → Q s r) ∨ (∃ r, step s = some (.ret r) ∧ Q s r) ∨ (∃ x, step s = some (.out x) ∧ ∃ r, k x = some r ∧ Q s r)) {s : S} (hs : ok s) : ∃ r, loopK step s k = some r ∧ Q s r := by
  have key : ∀ (m : Nat) (s : S), μ s < m → ok s → ∃ j x, iterF step j s = some x ∧ ∃ r, LX.go x k = some r ∧ Q s r := by
    intro m
    induction m with
    | zero => intro s h; omega
    | succ m ih =>
      intro s hm hs
      rcases h s hs with ⟨s', h1, h2, h3, h4⟩ | ⟨r, h1, h2⟩ | ⟨x, h1, r, h2, h3⟩
      · obtain ⟨j, x, g1, r, g2, g3⟩ := ih s' (by omega) h2
        exact ⟨j + 1, x, by simp only [iterF, h1]; exact g1, r, g2, h4 r g3⟩
      · exact ⟨1, .ret r, by simp only [iterF, h1], r, rfl, h2⟩
      · exact ⟨1, .out x, by simp only [iterF, h1], r, h2, h3⟩
  obtain ⟨j, x, h1, r, h2, h3⟩ := key (μ s + 1) s (by omega) hs
  exact ⟨r, by rw [loopK_go (loopF_of h1), h2], h3⟩

def headK (l : List VValue) : Int := match l with
  | [] => 0
  | a :: _ => a.token.kind
theorem rd_kind (l : List VValue) : cond_reader_kind ⟨l⟩ = some (headK l) := by
  unfold cond_reader_kind headK
  cases l with
  | nil => rfl
  | cons a r =>
    have e0 : (((a :: r).length : Int) == 0) = false := beq_eq_false_iff_ne.2 (by simp only [List.length_cons]; omega)
    have e1 : geti (a :: r) 0 = some a := rfl
    simp only [e0, e1, cond_false, bindO, Option.bind_some]
theorem rd_next (a : VValue) (r : List VValue) : cond_reader_next ⟨a :: r⟩ = some (a, ⟨r⟩) := by
  unfold cond_reader_next
  have e1 : geti (a :: r) 0 = some a := rfl
  have e2 : decide ((1 : Int) ≤ ((a :: r).length : Int)) = true := decide_eq_true (by simp only [List.length_cons]; omega)
  simp only [e1, e2, need_true, bindO, Option.bind_some, eta_Value, List.drop_succ_cons, List.drop_zero]
theorem lt_cast (a b : Nat) : decide ((a : Int) < (b : Int)) = decide (a < b) := by
  by_cases h : a < b
  · rw [decide_eq_true h]; exact decide_eq_true (by omega)
  · rw [decide_eq_false h]; exact decide_eq_false (by omega)
theorem rd_spaces (l : List VValue) : cond_reader_spaces ⟨l⟩ = some (decide ((sp l).length < l.length), ⟨sp l⟩) := by
  unfold cond_reader_spaces
  refine (loopK_go (r := .out ⟨sp l⟩) (loopF_inv (fun s => sp s.v = sp l) (fun s => s.v.length) _ (fun s hs => ?_) rfl)).trans ?_
  · obtain ⟨s⟩ := s
    have hs : sp s = sp l := hs
    simp only [rd_kind, bindO, Option.bind_some]
    cases s with
    | nil => exact .inr (.inl ⟨⟨[]⟩, rfl, by rw [← hs]; rfl⟩)
    | cons a r =>
      rw [sp_cons] at hs
      cases ha : isSp a with
      | true =>
        rw [ha, if_pos rfl] at hs
        unfold isSp at ha
        refine .inl ⟨⟨r⟩, ?_, hs, by simp⟩
        simp only [headK, ha, cond_true, rd_next, Option.bind_some]
      | false =>
        rw [ha, if_neg (by simp)] at hs
        unfold isSp at ha
        exact .inr (.inl ⟨⟨a :: r⟩, by simp only [headK, ha, cond_false], by rw [← hs]⟩)
  · rw [go_out, lt_cast]
def isW (s : Str) (a : VValue) : Bool := a.token.kind == 1 && lowS a.token.text == s
def headW (s : Str) (l : List VValue) : Bool := match l with
  | [] => false
  | a :: _ => isW s a
def wordS : List Str → List VValue → Option Str
  | [], _ => none
  | s :: ws, l => bif headW s l then some s else wordS ws l
theorem rd_word_aux (ws : List Str) (l : List VValue) (hl : ∀ a ∈ l, a.token.text.length ≤ big) (hw : ∀ s ∈ ws, s.length ≤ big ∧ lowS s = s) (hn : ws.length ≤ big) :
    cond_reader_word (ws, ⟨l⟩) = some (match wordS ws l with | some s => (s, ⟨l.tail⟩) | none => ([], ⟨l⟩)) := by
  unfold cond_reader_word
  have key : ∀ (m : List Str) (i : Nat), ws.drop i = m → i ≤ ws.length → ∃ n x, iterF (fun (s1 : Int × Vcond_reader) =>
      bif decide (s1.1 < (ws.length : Int)) then
        bindO (geti ws s1.1) fun y2 =>
        bindO (cond_reader_kind s1.2) fun y3 =>
        bindO (condO (y3 == 1) (geti s1.2.v 0) (default : VValue)) fun y4 =>
        bindO (condO (y3 == 1) (input_Alike (y4.token.text, y2)) (default : Bool)) fun y5 =>
        bif bif y3 == 1 then y5 else false then
          bindO (cond_reader_next s1.2) fun y6 =>
          some (LO.ret (y2, y6.2))
        else
          some (LO.again (w64 (s1.1 + 1), s1.2))
      else
        some (LO.out s1.2) : Int × Vcond_reader → Option (LO (Int × Vcond_reader) (Vcond_reader) (Str × Vcond_reader))) n ((i : Int), ⟨l⟩) = some x ∧
      x = (match wordS m l with | some s => LX.ret (s, ⟨l.tail⟩) | none => LX.out ⟨l⟩) := by
    intro m
    induction m with
    | nil =>
      intro i hd hi
      have : i = ws.length := by have := List.drop_eq_nil_iff.1 hd; omega
      subst this
      exact ⟨1, LX.out ⟨l⟩, by simp only [iterF, lt_self, cond_false], rfl⟩
    | cons w m ih =>
      intro i hd hi
      obtain ⟨hlt, hg, hd'⟩ : i < ws.length ∧ geti ws (i : Int) = some w ∧ ws.drop (i + 1) = m := by
        have hi : i < ws.length := by
          rcases Nat.lt_or_ge i ws.length with h' | h'
          · exact h'
          · rw [List.drop_eq_nil_of_le h'] at hd; cases hd
        rw [List.drop_eq_getElem_cons hi] at hd
        injection hd with h1 h2
        exact ⟨hi, by rw [geti_eq hi, h1], h2⟩
      have hmem : w ∈ ws := by
        have : w ∈ ws.drop i := by rw [hd]; exact List.mem_cons_self
        exact List.mem_of_mem_drop this
      obtain ⟨hw1, hw2⟩ := hw w hmem
      have hstep : (bindO (geti ws (i : Int)) fun y2 => bindO (cond_reader_kind ⟨l⟩) fun y3 =>
        bindO (condO (y3 == 1) (geti l 0) (default : VValue)) fun y4 =>
        bindO (condO (y3 == 1) (input_Alike (y4.token.text, y2)) (default : Bool)) fun y5 =>
        bif bif y3 == 1 then y5 else false then
          bindO (cond_reader_next ⟨l⟩) fun y6 =>
          some (LO.ret (y2, y6.2))
        else
          some (LO.again (w64 ((i : Int) + 1), (⟨l⟩ : Vcond_reader)))) = some (bif headW w l then (LO.ret (w, ⟨l.tail⟩) : LO (Int × Vcond_reader) Vcond_reader (Str × Vcond_reader)) else LO.again (((i + 1 : Nat) : Int), ⟨l⟩)) := by
        simp only [hg, rd_kind, bindO, Option.bind_some, w64_succ hlt hn]
        cases l with
        | nil => rfl
        | cons a r =>
          have e1 : geti (a :: r) 0 = some a := rfl
          simp only [headK, headW, isW]
          cases a.token.kind == 1 with
          | false => rfl
          | true =>
            simp only [condO_true, e1, Option.bind_some, prog_Alike (hl a List.mem_cons_self) hw1, hw2, cond_true, rd_next, Bool.true_and]
            cases lowS a.token.text == w <;> rfl
      cases hh : headW w l with
      | true =>
        rw [hh] at hstep
        refine ⟨1, LX.ret (w, ⟨l.tail⟩), by simp only [iterF, lt_true hlt, cond_true]; rw [hstep]; rfl, ?_⟩
        simp only [wordS, hh, cond_true]
      | false =>
        rw [hh] at hstep
        obtain ⟨n, x, g1, g2⟩ := ih (i + 1) hd' (by omega)
        refine ⟨n + 1, x, ?_, ?_⟩
        · simp only [iterF, lt_true hlt, cond_true]
          rw [hstep]
          exact g1
        · rw [g2]
          simp only [wordS, hh, cond_false]
  obtain ⟨n, x, h1, h2⟩ := key ws 0 rfl (Nat.zero_le _)
  simp only [Int.natCast_zero] at h1
  rw [loopK_go (loopF_of h1), h2]
  cases wordS ws l <;> rfl

theorem rf_kind (v : List VValue) (i : Nat) (k : Int) : ref10_kind (v, (i : Int), k) = some (match v.drop i with | [] => false | a :: _ => a.token.kind == k) := by
  unfold ref10_kind
  cases hd : v.drop i with
  | nil =>
    have : v.length ≤ i := List.drop_eq_nil_iff.1 hd
    have e : decide ((i : Int) < (v.length : Int)) = false := decide_eq_false (by omega)
    simp only [e, condO_false, bindO, Option.bind_some, cond_false]
  | cons a r =>
    obtain ⟨h1, h2, _⟩ := drop_nextV hd
    simp only [lt_true h1, condO_true, h2, bindO, Option.bind_some, cond_true]
where
  drop_nextV {l : List VValue} {i : Nat} {s : VValue} {r : List VValue} (h : l.drop i = s :: r) : i < l.length ∧ geti l (i : Int) = some s ∧ l.drop (i + 1) = r := by
    have hi : i < l.length := by
      rcases Nat.lt_or_ge i l.length with h' | h'
      · exact h'
      · rw [List.drop_eq_nil_of_le h'] at h; cases h
    rw [List.drop_eq_getElem_cons hi] at h
    injection h with h1 h2
    exact ⟨hi, by rw [geti_eq hi, h1], h2⟩
theorem dropV {l : List VValue} {i : Nat} {s : VValue} {r : List VValue} (h : l.drop i = s :: r) : i < l.length ∧ geti l (i : Int) = some s ∧ l.drop (i + 1) = r := by
  have hi : i < l.length := by
    rcases Nat.lt_or_ge i l.length with h' | h'
    · exact h'
    · rw [List.drop_eq_nil_of_le h'] at h; cases h
  rw [List.drop_eq_getElem_cons hi] at h
  injection h with h1 h2
  exact ⟨hi, by rw [geti_eq hi, h1], h2⟩
theorem rf_word {v : List VValue} (i : Nat) {s : Str} (hl : ∀ a ∈ v, a.token.text.length ≤ big) (hs : s.length ≤ big) (hw : lowS s = s) : ref10_word (v, (i : Int), s) = some (headW s (v.drop i)) := by
  unfold ref10_word
  cases hd : v.drop i with
  | nil =>
    have : v.length ≤ i := List.drop_eq_nil_iff.1 hd
    have e : decide ((i : Int) < (v.length : Int)) = false := decide_eq_false (by omega)
    simp only [e, condO_false, bindO, Option.bind_some, cond_false]
    rfl
  | cons a r =>
    obtain ⟨h1, h2, _⟩ := dropV hd
    have ha : a ∈ v := List.mem_of_mem_drop (by rw [hd]; exact List.mem_cons_self)
    simp only [lt_true h1, condO_true, h2, bindO, Option.bind_some, cond_true, headW, isW]
    cases a.token.kind == 1 with
    | false => rfl
    | true => simp only [condO_true, Option.bind_some, ref_Alike (hl a ha) hs, hw, cond_true, Bool.true_and]
def spI (v : List VValue) (i : Nat) : Nat := i + ((v.drop i).length - (sp (v.drop i)).length)
theorem spI_drop (v : List VValue) (i : Nat) : v.drop (spI v i) = sp (v.drop i) := by
  unfold spI
  rw [← List.drop_drop]
  exact drop_dw isSp (v.drop i)
theorem rf_spaces {v : List VValue} (i : Nat) (hv : v.length ≤ big) (hi : i ≤ big) : ref10_spaces (v, (i : Int)) = some (spI v i : Int) := by
  unfold ref10_spaces
  refine (loopK_go (r := .out (spI v i : Int)) (loopF_inv (fun s => ∃ k : Nat, s = (k : Int) ∧ k ≤ big ∧ spI v k = spI v i) (fun s => v.length - s.toNat) _ (fun s hs => ?_) ⟨i, rfl, hi, rfl⟩)).trans (by rw [go_out])
  obtain ⟨k, rfl, hk, he⟩ := hs
  simp only [rf_kind, bindO, Option.bind_some]
  cases hd : v.drop k with
  | nil =>
    refine .inr (.inl ⟨(k : Int), rfl, ?_⟩)
    rw [← he]
    unfold spI
    rw [hd]
    rfl
  | cons a r =>
    obtain ⟨h1, h2, h3⟩ := dropV hd
    cases ha : isSp a with
    | true =>
      have hs : spI v (k + 1) = spI v k := by
        unfold spI
        rw [hd, h3, sp_cons, ha, if_pos rfl, List.length_cons]
        have := sp_len r
        omega
      unfold isSp at ha
      refine .inl ⟨((k + 1 : Nat) : Int), ?_, ⟨k + 1, rfl, by omega, by rw [hs, he]⟩, by omega⟩
      simp only [ha, cond_true, w64_succ h1 hv]
    | false =>
      have hs : spI v k = k := by
        unfold spI
        rw [hd, sp_cons, ha, if_neg (by simp)]
        omega
      unfold isSp at ha
      exact .inr (.inl ⟨(k : Int), by simp only [ha, cond_false], by rw [← he, hs]⟩)
theorem spI_le (v : List VValue) (i : Nat) : i ≤ spI v i ∧ spI v i ≤ max i v.length := by
  unfold spI
  rw [List.length_drop]
  omega
end Go.Lv.VT

namespace Go.Lv.VT
theorem sp_app {s : List VValue} (hs : sp s = []) : ∀ x : List VValue, sp (x ++ s) = if sp x = [] then [] else sp x ++ s
  | [] => by rw [List.nil_append, hs, if_pos sp_nil]
  | v :: x => by
    rw [List.cons_append, sp_cons, sp_cons]
    cases isSp v with
    | true => rw [if_pos rfl, if_pos rfl]; exact sp_app hs x
    | false => rw [if_neg (by simp), if_neg (by simp), if_neg (by simp)]; rfl
theorem trimB_split (l : List VValue) : ∃ s, l = trimB l ++ s ∧ sp s = [] := by
  refine ⟨(l.reverse.takeWhile isSp).reverse, ?_, ?_⟩
  · unfold trimB
    rw [← List.reverse_append, List.takeWhile_append_dropWhile, List.reverse_reverse]
  · have : ∀ m : List VValue, (∀ v ∈ m, isSp v = true) → sp m = [] := by
      intro m
      induction m with
      | nil => intro _; rfl
      | cons v m ih =>
        intro h
        rw [sp_cons, h v List.mem_cons_self, if_pos rfl]
        exact ih fun w hw => h w (List.mem_cons_of_mem _ hw)
    refine this _ fun v hv => ?_
    rw [List.mem_reverse] at hv
    exact List.all_eq_true.1 List.all_takeWhile v hv
theorem end_nil {l : List VValue} (h : EndS l) (hs : sp l = []) : l = [] := by
  rcases nil_or_snoc l with rfl | ⟨t, v, rfl⟩
  · rfl
  · exfalso
    unfold EndS at h
    rw [trimB_snoc] at h
    cases hv : isSp v with
    | true =>
      rw [hv, if_pos rfl] at h
      have h2 := trimB_len t
      rw [h] at h2
      simp only [List.length_append, List.length_cons, List.length_nil] at h2
      omega
    | false =>
      have : ∀ t : List VValue, sp (t ++ [v]) ≠ [] := by
        intro t
        induction t with
        | nil => rw [List.nil_append, sp_cons, hv]; simp
        | cons a t ih =>
          rw [List.cons_append, sp_cons]
          split
          · exact ih
          · simp
      exact this t hs
theorem isW_sp {s : Str} {a : VValue} (h : isSp a = true) : isW s a = false := by
  unfold isSp at h
  unfold isW
  rw [beq_iff_eq] at h
  rw [h]; rfl
theorem head_sp {s : List VValue} (h : sp s = []) {a : VValue} {r : List VValue} (e : s = a :: r) : isSp a = true := by
  subst e
  rw [sp_cons] at h
  cases ha : isSp a with
  | true => rfl
  | false => rw [ha, if_neg (by simp)] at h; cases h

abbrev minW : Str := [109, 105, 110, 45, 119, 105, 100, 116, 104]
abbrev maxW : Str := [109, 97, 120, 45, 119, 105, 100, 116, 104]
theorem low_minW : lowS minW = minW := by decide
theorem low_maxW : lowS maxW = maxW := by decide
def pxS (t : VToken) : Bool := ((t.kind == 12 && lowS t.unit == [112, 120]) || (t.kind == 10 && t.num == 0)) && (decide (0 ≤ t.num) && isN t.num)
def noD : VDecl := ⟨[], [], false⟩
def featK (k : Int) (r : List VValue) : Option VCond := match sp r with
  | [] => none
  | c :: r2 => bif c.token.kind == 16 then (match sp r2 with
    | [] => none
    | t :: r3 => bif (sp r3).isEmpty && pxS t.token then some ⟨k, [], t.token.num, noD, []⟩ else none) else none
def featM : List VValue → Option VCond
  | [] => none
  | w :: r => bif isW minW w then featK 5 r else bif isW maxW w then featK 6 r else none
def featS (a : VValue) : Option VCond := bif a.token.kind == 21 then featM (sp a.list) else none
def featH (l : List VValue) : Option VCond := match l with
  | [] => none
  | a :: _ => featS a
theorem featK_app (k : Int) {s : List VValue} (hs : sp s = []) (r : List VValue) : featK k (r ++ s) = featK k r := by
  unfold featK
  rw [sp_app hs]
  cases h1 : sp r with
  | nil => rfl
  | cons c r2 =>
    rw [if_neg (by simp)]
    simp only [List.cons_append]
    rw [sp_app hs]
    cases h2 : sp r2 with
    | nil => rfl
    | cons t r3 =>
      rw [if_neg (by simp)]
      simp only [List.cons_append]
      rw [sp_app hs]
      cases h3 : sp r3 with
      | nil => rfl
      | cons x y => rfl
theorem featM_app {s : List VValue} (hs : sp s = []) (m : List VValue) : featM (m ++ s) = featM m := by
  cases m with
  | nil =>
    rw [List.nil_append]
    cases h : s with
    | nil => rfl
    | cons a r =>
      have := head_sp hs h
      show (bif isW minW a then featK 5 r else bif isW maxW a then featK 6 r else none) = none
      rw [isW_sp this, isW_sp this]
      rfl
  | cons w r =>
    unfold featM
    rw [List.cons_append]
    simp only [featK_app _ hs]
theorem featM_trim (m : List VValue) : featM (trimB m) = featM m := by
  obtain ⟨s, h1, h2⟩ := trimB_split m
  have := featM_app h2 (trimB m)
  rw [← h1] at this
  exact this.symm

def MayR (r : VCond × Bool) (o : Option VCond) : Prop := r.2 = o.isSome ∧ ∀ x, o = some x → r.1 = x
theorem may_none (c : VCond) : MayR (c, false) none := ⟨rfl, fun x h => by cases h⟩
theorem may_some (c : VCond) : MayR (c, true) (some c) := ⟨rfl, fun x h => by cases h; rfl⟩

theorem zl_in {l : List VValue} (h : zL enc_VValue l ≤ big) {a : VValue} (ha : a ∈ l) : a.token.text.length ≤ big ∧ a.token.unit.length ≤ big ∧ zL enc_VValue a.list ≤ big ∧ zL enc_VValue a.list < zL enc_VValue l := by
  have h1 := zL_mem (f := enc_VValue) ha
  have h2 := zValue_eq a
  omega
theorem bif_not {α : Type} (b : Bool) (x y : α) : (bif !b then x else y) = bif b then y else x := by cases b <;> rfl

theorem px_prog (t : VToken) (e : Bool) (h : t.unit.length ≤ big) (R : Type) (k : Bool → Option R) : ((condO (t.kind == 12) (input_Alike (t.unit, [112, 120])) (default : Bool)).bind fun y14 =>
      (condO (bif bif bif t.kind == 12 then y14 else false then true else bif t.kind == 10 then t.num == 0 else false then decide (t.num ≥ 0) else false) (fixed_Check t.num) (default : Int)).bind fun y15 =>
      k (bif bif bif bif bif t.kind == 12 then y14 else false then true else bif t.kind == 10 then t.num == 0 else false then decide (t.num ≥ 0) else false then y15 == 0 else false then e else false)) = k (e && pxS t) := by
  have e2 : ((bif isN t.num then (0 : Int) else 8) == 0) = isN t.num := by cases isN t.num <;> rfl
  have e3 : decide (t.num ≥ 0) = decide (0 ≤ t.num) := rfl
  have hlw : lowS ([112, 120] : Str) = [112, 120] := by decide
  have hal : condO (t.kind == 12) (input_Alike (t.unit, [112, 120])) (default : Bool) = some (bif t.kind == 12 then lowS t.unit == [112, 120] else default) := by
    rw [prog_Alike h (by decide), hlw, condO_some]
  rw [hal]
  simp only [fixed_Check_eq, condO_some, Option.bind_some, pxS, e3]
  cases t.kind == 12 <;> cases lowS t.unit == [112, 120] <;> cases t.kind == 10 <;> cases t.num == 0 <;> cases decide (0 ≤ t.num) <;> simp only [cond_true, cond_false, e2] <;> cases isN t.num <;> cases e <;> rfl

theorem rd_feature {l : List VValue} (hz : zL enc_VValue l ≤ big) : ∃ c b, cond_reader_feature ⟨l⟩ = some ((c, b), ⟨match l with | [] => [] | a :: r => bif a.token.kind == 21 then r else a :: r⟩) ∧ MayR (c, b) (featH l) := by
  unfold cond_reader_feature
  simp only [rd_kind, bindO, Option.bind_some]
  cases l with
  | nil => exact ⟨_, _, rfl, may_none _⟩
  | cons a r =>
    obtain ⟨_, _, hal, _⟩ := zl_in hz (List.mem_cons_self (a := a) (l := r))
    simp only [headK, featH, featS, bne]
    cases a.token.kind == 21 with
    | false => exact ⟨_, _, rfl, may_none _⟩
    | true =>
      simp only [Bool.not_true, cond_false, cond_true, rd_next, Option.bind_some, rd_spaces]
      have hzm : zL enc_VValue (sp a.list) ≤ big := Nat.le_trans (zL_sub (sp_sub _)) hal
      generalize sp a.list = m at *
      rw [rd_word_aux [minW, maxW] m (fun x hx => (zl_in hzm hx).1) (by intro s hs; simp at hs; rcases hs with rfl | rfl <;> exact ⟨by decide, by decide⟩) (by decide)]
      cases m with
      | nil => exact ⟨_, _, rfl, may_none _⟩
      | cons w r1 =>
        rw [zL_cons] at hzm
        -- behind the word
        have tail : ∀ k : Int, ∃ (c : VCond) (b : Bool), ((cond_reader_spaces (⟨r1⟩ : Vcond_reader)).bind fun y6 =>
            (cond_reader_kind y6.2).bind fun y7 =>
            bif !(y7 == 16) then
              some (((⟨k, [], 0, (⟨[], [], false⟩ : VDecl), []⟩ : VCond), false), (⟨r⟩ : Vcond_reader))
            else
              (cond_reader_next y6.2).bind fun y8 =>
              (cond_reader_spaces y8.2).bind fun y9 =>
              (cond_reader_kind y9.2).bind fun y10 =>
              (condO (!(y10 == 12)) (cond_reader_kind y9.2) (default : Int)).bind fun y11 =>
              bif bif !(y10 == 12) then !(y11 == 10) else false then
                some (((⟨k, [], 0, (⟨[], [], false⟩ : VDecl), []⟩ : VCond), false), (⟨r⟩ : Vcond_reader))
              else
                (cond_reader_next y9.2).bind fun y12 =>
                (cond_reader_spaces y12.2).bind fun y13 =>
                (condO (y12.1.token.kind == 12) (input_Alike (y12.1.token.unit, [112, 120])) (default : Bool)).bind fun y14 =>
                (condO (bif bif bif y12.1.token.kind == 12 then y14 else false then true else bif y12.1.token.kind == 10 then y12.1.token.num == 0 else false then decide (y12.1.token.num ≥ 0) else false) (fixed_Check y12.1.token.num) (default : Int)).bind fun y15 =>
                some (((⟨k, [], y12.1.token.num, (⟨[], [], false⟩ : VDecl), []⟩ : VCond), bif bif bif bif bif y12.1.token.kind == 12 then y14 else false then true else bif y12.1.token.kind == 10 then y12.1.token.num == 0 else false then decide (y12.1.token.num ≥ 0) else false then y15 == 0 else false then (y13.2.v.length : Int) == 0 else false), (⟨r⟩ : Vcond_reader))) = some ((c, b), ⟨r⟩) ∧ MayR (c, b) (featK k r1) := by
          intro k
          simp only [rd_spaces, rd_kind, Option.bind_some, featK]
          have hz1 : zL enc_VValue (sp r1) ≤ big := Nat.le_trans (zL_sub (sp_sub _)) (by omega)
          cases hs1 : sp r1 with
          | nil => exact ⟨_, _, rfl, may_none _⟩
          | cons c r2 =>
            rw [hs1, zL_cons] at hz1
            simp only [headK, bif_not]
            cases c.token.kind == 16 with
            | false => exact ⟨_, _, rfl, may_none _⟩
            | true =>
              simp only [cond_true, rd_next, Option.bind_some, rd_spaces, rd_kind]
              have hz2 : zL enc_VValue (sp r2) ≤ big := Nat.le_trans (zL_sub (sp_sub _)) (by omega)
              cases hs2 : sp r2 with
              | nil => exact ⟨_, _, rfl, may_none _⟩
              | cons t r3 =>
                rw [hs2] at hz2
                obtain ⟨_, hu, _⟩ := zl_in hz2 (List.mem_cons_self (a := t) (l := r3))
                simp only [headK, condO_some, Option.bind_some, rd_next, rd_spaces, isEmpty_len]
                have hpx := px_prog t.token (sp r3).isEmpty hu ((VCond × Bool) × Vcond_reader) fun b => some (((⟨k, [], t.token.num, (⟨[], [], false⟩ : VDecl), []⟩ : VCond), b), (⟨r⟩ : Vcond_reader))
                rw [hpx]
                have hno : (t.token.kind == 12) = false → (t.token.kind == 10) = false → pxS t.token = false := by
                  intro h1 h2; unfold pxS; rw [h1, h2]; rfl
                cases h12 : t.token.kind == 12 with
                | true =>
                  simp only [Bool.not_true, cond_false]
                  refine ⟨_, _, rfl, ?_⟩
                  cases (sp r3).isEmpty && pxS t.token
                  · exact may_none _
                  · exact may_some _
                | false =>
                  cases h10 : t.token.kind == 10 with
                  | true =>
                    simp only [Bool.not_false, Bool.not_true, cond_true, cond_false, h10]
                    refine ⟨_, _, rfl, ?_⟩
                    cases (sp r3).isEmpty && pxS t.token
                    · exact may_none _
                    · exact may_some _
                  | false =>
                    simp only [Bool.not_false, cond_true, h10]
                    rw [hno h12 h10, Bool.and_false]
                    exact ⟨_, _, rfl, may_none _⟩
        have q1 : (minW == ([] : Str)) = false := rfl
        have q2 : (minW == maxW) = false := rfl
        have q3 : (maxW == ([] : Str)) = false := rfl
        have q4 : (maxW == maxW) = true := rfl
        have q5 : (([] : Str) == ([] : Str)) = true := rfl
        simp only [wordS, headW, featM]
        cases isW minW w with
        | true =>
          obtain ⟨c, b, h1, h2⟩ := tail 5
          simp only [cond_true, Option.bind_some, q1, q2, cond_false, joinK_out, List.tail_cons]
          exact ⟨c, b, h1, h2⟩
        | false =>
          cases isW maxW w with
          | true =>
            obtain ⟨c, b, h1, h2⟩ := tail 6
            simp only [cond_true, Option.bind_some, q3, q4, cond_false, joinK_out, List.tail_cons]
            exact ⟨c, b, h1, h2⟩
          | false =>
            simp only [cond_true, Option.bind_some, q5, cond_false, joinK_ret]
            exact ⟨_, _, rfl, may_none _⟩
end Go.Lv.VT

namespace Go.Lv.VT
theorem rf_feature {v : List VValue} (i : Nat) (hz : zL enc_VValue v ≤ big) : ∃ r, ref10_feature (v, (i : Int)) = some r ∧ MayR r (featH (v.drop i)) := by
  unfold ref10_feature
  simp only [rf_kind, bindO, Option.bind_some]
  cases hd : v.drop i with
  | nil => exact ⟨_, rfl, may_none _⟩
  | cons a r =>
    obtain ⟨h1, h2, h3⟩ := dropV hd
    have ha : a ∈ v := List.mem_of_mem_drop (by rw [hd]; exact List.mem_cons_self)
    obtain ⟨_, _, hal, _⟩ := zl_in hz ha
    simp only [featH, featS]
    cases a.token.kind == 21 with
    | false => exact ⟨_, rfl, may_none _⟩
    | true =>
      have hsz := szL_zL a.list
      have htm : featM (sp a.list) = featM (trimS a.list) := (featM_trim (sp a.list)).symm
      have hzm : zL enc_VValue (trimS a.list) ≤ big := Nat.le_trans (zL_sub ((trimB_sub _).trans (sp_sub _))) hal
      have hend := trimS_end a.list
      simp only [Bool.not_true, cond_false, cond_true, h2, Option.bind_some, ref_trimmed (show szL a.list ≤ big by omega), htm]
      generalize trimS a.list = m at *
      have hml := zL_len zValue_pos m
      have htx : ∀ x ∈ m, x.token.text.length ≤ big := fun x hx => (zl_in hzm hx).1
      have w0 := rf_word (v := m) 0 (s := minW) htx (by decide) low_minW
      have w1 := rf_word (v := m) 0 (s := maxW) htx (by decide) low_maxW
      have s1 := rf_spaces (v := m) 1 (by omega) (by unfold big; omega)
      simp only [Int.natCast_zero, Int.natCast_one, List.drop_zero] at w0 w1 s1
      simp only [w0, w1, s1, Option.bind_some]
      cases m with
      | nil => exact ⟨_, rfl, may_none _⟩
      | cons w r1 =>
        have hdy := spI_drop (w :: r1) 1
        rw [List.drop_succ_cons, List.drop_zero] at hdy
        have hly := spI_le (w :: r1) 1
        have hend1 : EndS r1 := end_tail hend
        generalize spI (w :: r1) 1 = y at *
        -- behind the word
        have tail : ∀ k : Int, (k == 0) = false → ∃ q, ((condO (!(k == 0)) (ref10_kind (w :: r1, (y : Int), 16)) (default : Bool)).bind fun y8 =>
            bif bif k == 0 then true else !y8 then
              some ((⟨0, [], 0, (⟨[], [], false⟩ : VDecl), []⟩ : VCond), false)
            else
              (ref10_spaces (w :: r1, w64 ((y : Int) + 1))).bind fun y9 =>
              bif w64 (y9 + 1) != ((w :: r1).length : Int) then
                some ((⟨0, [], 0, (⟨[], [], false⟩ : VDecl), []⟩ : VCond), false)
              else
                (geti (w :: r1) y9).bind fun y10 =>
                (condO (y10.token.kind == 12) (ref01_Alike (y10.token.unit, [112, 120])) (default : Bool)).bind fun y11 =>
                (condO (bif bif bif y10.token.kind == 12 then y11 else false then true else bif y10.token.kind == 10 then y10.token.num == 0 else false then decide (y10.token.num ≥ 0) else false) (ref06_Is y10.token.num) (default : Bool)).bind fun y12 =>
                some ((⟨k, [], y10.token.num, (⟨[], [], false⟩ : VDecl), []⟩ : VCond), bif bif bif bif y10.token.kind == 12 then y11 else false then true else bif y10.token.kind == 10 then y10.token.num == 0 else false then decide (y10.token.num ≥ 0) else false then y12 else false)) = some q ∧ MayR q (featK k r1) := by
          intro k hk
          simp only [hk, Bool.not_false, condO_true, rf_kind, hdy, Option.bind_some, cond_false, featK]
          cases hs1 : sp r1 with
          | nil => exact ⟨_, rfl, may_none _⟩
          | cons c r2 =>
            rw [hs1] at hdy
            obtain ⟨d1, d2, d3⟩ := dropV hdy
            have hend2 : EndS r2 := end_tail (hs1 ▸ end_sp hend1)
            simp only
            cases h16 : c.token.kind == 16 with
            | false => exact ⟨_, rfl, may_none _⟩
            | true =>
              have s2 := rf_spaces (v := w :: r1) (y + 1) (by omega) (by omega)
              have hd2 := spI_drop (w :: r1) (y + 1)
              have hl2 := spI_le (w :: r1) (y + 1)
              rw [d3] at hd2
              simp only [Bool.not_true, cond_false, cond_true, w64_succ d1 (show (w :: r1).length ≤ big by omega), s2, Option.bind_some]
              generalize spI (w :: r1) (y + 1) = y9 at *
              have hlen9 : (sp r2).length = (w :: r1).length - y9 := by rw [← hd2, List.length_drop]
              have hw9 : w64 ((y9 : Int) + 1) = ((y9 + 1 : Nat) : Int) := w64_nat (by omega)
              rw [hw9]
              cases hs2 : sp r2 with
              | nil =>
                rw [hs2, List.length_nil] at hlen9
                have : (((y9 + 1 : Nat) : Int) != ((w :: r1).length : Int)) = true := bne_iff_ne.2 (by omega)
                simp only [this, cond_true]
                exact ⟨_, rfl, may_none _⟩
              | cons t r3 =>
                simp only
                rw [hs2, List.length_cons] at hlen9
                rw [hs2] at hd2
                have hend3 : EndS r3 := end_tail (hs2 ▸ end_sp hend2)
                obtain ⟨f1, f2, _⟩ := dropV hd2
                have htm : t ∈ w :: r1 := List.mem_of_mem_drop (by rw [hd2]; exact List.mem_cons_self)
                obtain ⟨_, hu, _⟩ := zl_in hzm htm
                cases hr3 : r3 with
                | cons x z =>
                  rw [hr3, List.length_cons] at hlen9
                  have : (((y9 + 1 : Nat) : Int) != ((w :: r1).length : Int)) = true := bne_iff_ne.2 (by omega)
                  simp only [this]
                  have hne : (sp (x :: z)).isEmpty = false := by
                    cases hsx : sp (x :: z) with
                    | nil => have := end_nil (hr3 ▸ hend3) hsx; cases this
                    | cons _ _ => rfl
                  simp only [hne, Bool.false_and, cond_false, cond_true]
                  exact ⟨_, rfl, may_none _⟩
                | nil =>
                  rw [hr3, List.length_nil] at hlen9
                  have : (((y9 + 1 : Nat) : Int) != ((w :: r1).length : Int)) = false := by
                    rw [bne, Bool.not_eq_false']; exact beq_iff_eq.2 (by omega)
                  have hlw : lowS ([112, 120] : Str) = [112, 120] := by decide
                  have hal : condO (t.token.kind == 12) (ref01_Alike (t.token.unit, [112, 120])) (default : Bool) = some (bif t.token.kind == 12 then lowS t.token.unit == [112, 120] else default) := by
                    rw [ref_Alike hu (by decide), hlw, condO_some]
                  have e3 : decide (t.token.num ≥ 0) = decide (0 ≤ t.token.num) := rfl
                  simp only [this, cond_false, f2, Option.bind_some, hal, ref06_Is_eq, condO_some, e3, sp_nil, List.isEmpty_nil, Bool.true_and]
                  have hpx : (bif bif bif bif t.token.kind == 12 then bif t.token.kind == 12 then lowS t.token.unit == [112, 120] else default else false then true else bif t.token.kind == 10 then t.token.num == 0 else false then decide (0 ≤ t.token.num) else false then
                      bif bif bif bif t.token.kind == 12 then bif t.token.kind == 12 then lowS t.token.unit == [112, 120] else default else false then true else bif t.token.kind == 10 then t.token.num == 0 else false then decide (0 ≤ t.token.num) else false then isN t.token.num else default else false) = pxS t.token := by
                    unfold pxS
                    cases t.token.kind == 12 <;> cases lowS t.token.unit == [112, 120] <;> cases t.token.kind == 10 <;> cases t.token.num == 0 <;> cases decide (0 ≤ t.token.num) <;> rfl
                  rw [hpx]
                  refine ⟨_, rfl, ?_⟩
                  cases pxS t.token
                  · exact may_none _
                  · exact may_some _
        simp only [headW, featM]
        cases isW minW w with
        | true =>
          simp only [cond_true, joinK_out]
          exact tail 5 rfl
        | false =>
          cases isW maxW w with
          | true =>
            simp only [cond_true, cond_false, Option.bind_some, joinK_out]
            exact tail 6 rfl
          | false =>
            simp only [cond_false, Option.bind_some, joinK_out]
            exact ⟨_, rfl, may_none _⟩

abbrev andW : Str := [97, 110, 100]
abbrev orW : Str := [111, 114]
abbrev notW : Str := [110, 111, 116]
abbrev onlyW : Str := [111, 110, 108, 121]
def restN : Nat → List VValue → Option (List VCond)
  | 0, _ => none
  | n + 1, l => match sp l with
    | [] => some []
    | a :: r => bif isW andW a then (match sp r with
      | [] => none
      | b :: r' => match featS b with
        | none => none
        | some x => (restN n r').map (x :: ·)) else none
def restS (l : List VValue) : Option (List VCond) := restN (l.length + 1) l
theorem restN_stable : ∀ {n m : Nat} {l : List VValue}, l.length < n → l.length < m → restN n l = restN m l
  | 0, _, _, h, _ => by omega
  | _, 0, _, _, h => by omega
  | n + 1, m + 1, l, h1, h2 => by
    unfold restN
    cases hs : sp l with
    | nil => rfl
    | cons a r =>
      have hl := sp_len l
      rw [hs, List.length_cons] at hl
      simp only
      cases isW andW a with
      | false => rfl
      | true =>
        simp only [cond_true]
        cases hs2 : sp r with
        | nil => rfl
        | cons b r' =>
          have hl2 := sp_len r
          rw [hs2, List.length_cons] at hl2
          simp only
          cases featS b with
          | none => rfl
          | some x => rw [restN_stable (n := n) (m := m) (by omega) (by omega)]
theorem restS_eq (l : List VValue) : restS l = match sp l with
    | [] => some []
    | a :: r => bif isW andW a then (match sp r with
      | [] => none
      | b :: r' => match featS b with
        | none => none
        | some x => (restS r').map (x :: ·)) else none := by
  show restN (l.length + 1) l = _
  unfold restN
  cases hs : sp l with
  | nil => rfl
  | cons a r =>
    have hl := sp_len l
    rw [hs, List.length_cons] at hl
    simp only
    cases isW andW a with
    | false => rfl
    | true =>
      simp only [cond_true]
      cases hs2 : sp r with
      | nil => rfl
      | cons b r' =>
        have hl2 := sp_len r
        rw [hs2, List.length_cons] at hl2
        simp only
        cases featS b with
        | none => rfl
        | some x => rw [restN_stable (n := l.length) (m := r'.length + 1) (by omega) (by omega)]; rfl
theorem restS_app {s : List VValue} (hs : sp s = []) : ∀ (n : Nat) (l : List VValue), l.length < n → restS (l ++ s) = restS l
  | 0, _, h => by omega
  | n + 1, l, h => by
    rw [restS_eq, restS_eq l, sp_app hs]
    cases h1 : sp l with
    | nil => rfl
    | cons a r =>
      have hl := sp_len l
      rw [h1, List.length_cons] at hl
      rw [if_neg (by simp)]
      simp only [List.cons_append]
      rw [sp_app hs]
      cases h2 : sp r with
      | nil => rfl
      | cons b r' =>
        have hl2 := sp_len r
        rw [h2, List.length_cons] at hl2
        rw [if_neg (by simp)]
        simp only [List.cons_append]
        rw [restS_app hs n r' (by omega)]

def allC (l : List VCond) : VCond := ⟨1, [], 0, noD, l⟩
def notC (c : VCond) : VCond := ⟨3, [], 0, noD, [c]⟩
def medC (s : Str) : VCond := ⟨4, s, 0, noD, []⟩
def firstQ (only : Bool) (l : List VValue) : Option VCond := match l with
  | [] => none
  | a :: _ => bif a.token.kind == 1 then (bif medS (lowS a.token.text) then some (medC (lowS a.token.text)) else none) else bif only then none else featS a
def bodyQ (not only : Bool) (l : List VValue) : Option VCond := match firstQ only l with
  | none => none
  | some x => match restS l.tail with
    | none => none
    | some r => some (bif not then notC (allC (x :: r)) else allC (x :: r))
def queryQ (l : List VValue) : Option VCond :=
  bif headW notW (sp l) then bodyQ true true (sp (sp l).tail) else bif headW onlyW (sp l) then bodyQ false true (sp (sp l).tail) else bodyQ false false (sp l)
end Go.Lv.VT

namespace Go.Lv.VT
theorem joinK_rel {X R : Type} {m : Option (LX X R)} {k : X → Option R} (G : R → Prop) (P : X → Prop) (h : (∃ o, m = some (.out o) ∧ P o) ∨ (∃ r, m = some (.ret r) ∧ G r)) (hk : ∀ o, P o → ∃ r, k o = some r ∧ G r) : ∃ r, joinK m k = some r ∧ G r := by
  rcases h with ⟨o, rfl, ho⟩ | ⟨r, rfl, hr⟩
  · exact hk o ho
  · exact ⟨r, rfl, hr⟩
theorem low_not : lowS notW = notW := by decide
theorem low_only : lowS onlyW = onlyW := by decide
theorem low_and : lowS andW = andW := by decide
def finQ (not : Bool) (l : List VCond) : VCond := bif not then notC (allC l) else allC l
theorem bodyQ_eq (not only : Bool) (l : List VValue) : bodyQ not only l = match firstQ only l with
    | none => none
    | some x => (restS l.tail).map fun r => finQ not (x :: r) := by
  unfold bodyQ
  cases firstQ only l with
  | none => rfl
  | some x => cases restS l.tail with
    | none => rfl
    | some r => cases not <;> rfl

def afterF (l : List VValue) : List VValue := match l with
  | [] => []
  | a :: r => bif a.token.kind == 21 then r else a :: r
theorem rd_feature2 {l : List VValue} (hz : zL enc_VValue l ≤ big) : ∃ c b, cond_reader_feature ⟨l⟩ = some ((c, b), ⟨afterF l⟩) ∧ MayR (c, b) (featH l) := by
  have h := rd_feature hz
  cases l <;> exact h

theorem rd_query {l : List VValue} (hz : zL enc_VValue l ≤ big) : ∃ r, cond_reader_query ⟨l⟩ = some r ∧ MayR r.1 (queryQ l) := by
  unfold cond_reader_query
  have hz0 : zL enc_VValue (sp l) ≤ big := Nat.le_trans (zL_sub (sp_sub _)) hz
  have hword : ∃ (s : Str) (m : List VValue), cond_reader_word ([[110, 111, 116], [111, 110, 108, 121]], ⟨sp l⟩) = some (s, ⟨m⟩) ∧ zL enc_VValue m ≤ big ∧ queryQ l = bodyQ (s == notW) (!(s == [])) (sp m) := by
    rw [rd_word_aux [notW, onlyW] (sp l) (fun a ha => (zl_in hz0 ha).1) (by intro s hs; simp at hs; rcases hs with rfl | rfl <;> exact ⟨by decide, by decide⟩) (by decide)]
    simp only [wordS, queryQ]
    have ht : zL enc_VValue (sp l).tail ≤ big := Nat.le_trans (zL_sub (List.tail_sublist _)) hz0
    cases headW notW (sp l) with
    | true => exact ⟨notW, (sp l).tail, rfl, ht, rfl⟩
    | false =>
      cases headW onlyW (sp l) with
      | true => exact ⟨onlyW, (sp l).tail, rfl, ht, rfl⟩
      | false => exact ⟨[], sp l, rfl, hz0, by rw [sp_idem]; rfl⟩
  obtain ⟨s, m, hw, hzm, hq⟩ := hword
  simp only [rd_spaces, bindO, Option.bind_some, hw]
  rw [hq, bodyQ_eq]
  have hz1 : zL enc_VValue (sp m) ≤ big := Nat.le_trans (zL_sub (sp_sub _)) hzm
  generalize sp m = l1 at *
  have happ : appOk 0 1 104 = true := appOk_of (by decide)
  refine joinK_rel (fun r : (VCond × Bool) × Vcond_reader => MayR r.1 _) (fun o : Vcond_reader × (Int × Str × Int × Str × Bool) × (Int × Str × Int × Str × Bool) × List VCond => o.2.1 = (0, [], 0, [], false) ∧ o.2.2.1 = (1, [], 0, [], false) ∧ ∃ c, firstQ (!(s == [])) l1 = some c ∧ o.2.2.2 = [c] ∧ o.1.v = l1.tail) ?_ ?_
  · simp only [rd_kind, Option.bind_some]
    cases l1 with
    | nil =>
      right
      refine ⟨_, rfl, ?_⟩
      exact may_none _
    | cons a r =>
      obtain ⟨hat, _, _⟩ := zl_in hz1 (List.mem_cons_self (a := a) (l := r))
      have hf := rd_feature2 hz1
      simp only [headK, firstQ, featH, afterF] at hf ⊢
      cases h1 : a.token.kind == 1 with
      | true =>
        simp only [cond_true, rd_next, Option.bind_some, prog_Lower hat, cond_medium_eq (show (lowS a.token.text).length ≤ big by unfold lowS; rw [List.length_map]; exact hat), need_of happ]
        cases medS (lowS a.token.text) with
        | true => exact .inl ⟨(⟨r⟩, (0, [], 0, [], false), (1, [], 0, [], false), [medC (lowS a.token.text)]), rfl, rfl, rfl, _, rfl, rfl, rfl⟩
        | false =>
          right
          simp only [Bool.not_false, cond_true, cond_false]
          exact ⟨_, rfl, may_none _⟩
      | false =>
        obtain ⟨c, b, g1, g2, g3⟩ := hf
        simp only [cond_false, g1, Option.bind_some, eta_Cond, need_of happ]
        cases hs : s == [] with
        | false =>
          right
          simp only [Bool.not_false, cond_true]
          cases b <;> exact ⟨_, rfl, may_none _⟩
        | true =>
          cases hfs : featS a with
          | none =>
            rw [hfs] at g2
            obtain rfl : b = false := g2
            exact .inr ⟨_, rfl, may_none _⟩
          | some x =>
            rw [hfs] at g2
            obtain rfl : b = true := g2
            obtain rfl : c = x := g3 x hfs
            have h21 : (a.token.kind == 21) = true := by
              unfold featS at hfs
              cases hk : a.token.kind == 21 with
              | true => rfl
              | false => rw [hk] at hfs; cases hfs
            simp only [h21, cond_true]
            exact .inl ⟨_, rfl, rfl, rfl, _, rfl, rfl, rfl⟩
  · rintro ⟨⟨v⟩, _, _, acc⟩ ⟨rfl, rfl, c, hc, rfl, hv⟩
    have hv : v = l1.tail := hv
    subst hv
    have hzt : zL enc_VValue l1.tail ≤ big := Nat.le_trans (zL_sub (List.tail_sublist _)) hz1
    have hlt := zL_len zValue_pos l1
    have hrs : restS l1.tail = restS (sp l1.tail) := by rw [restS_eq, restS_eq (sp l1.tail), sp_idem]
    simp only [hc, rd_spaces, Option.bind_some, hrs]
    refine loop_meas (fun s : Vcond_reader × (Int × Str × Int × Str × Bool) × (Int × Str × Int × Str × Bool) × List VCond => s.1.v.length) (fun s => s.2.1 = (0, [], 0, [], false) ∧ s.2.2.1 = (1, [], 0, [], false) ∧ sp s.1.v = s.1.v ∧ zL enc_VValue s.1.v ≤ big ∧ s.2.2.2.length + s.1.v.length ≤ big)
      (fun t (r : (VCond × Bool) × Vcond_reader) => MayR r.1 ((restS t.1.v).map fun q => finQ (s == notW) (t.2.2.2 ++ q))) ?_ ?_
    · rintro ⟨⟨v⟩, _, _, acc⟩ ⟨rfl, rfl, hv1, hv2, hv3⟩
      simp only at hv1 hv2 hv3
      cases v with
      | nil =>
        right; right
        refine ⟨(⟨[]⟩, (0, [], 0, [], false), (1, [], 0, [], false), acc), rfl, ?_⟩
        have hr : restS [] = some [] := by rw [restS_eq, sp_nil]
        simp only [hr, Option.map_some, List.append_nil]
        cases hn : s == [110, 111, 116] with
        | true => exact ⟨_, rfl, may_some _⟩
        | false => exact ⟨_, rfl, may_some _⟩
      | cons a r =>
        have hpos : decide (((a :: r).length : Int) > 0) = true := decide_eq_true (by simp only [List.length_cons]; omega)
        simp only [hpos, cond_true]
        rw [rd_word_aux [andW] (a :: r) (fun x hx => (zl_in hv2 hx).1) (by intro s hs; simp at hs; subst hs; exact ⟨by decide, by decide⟩) (by decide)]
        rw [restS_eq, hv1]
        simp only [wordS, headW]
        cases isW andW a with
        | false =>
          right; left
          exact ⟨_, rfl, may_none _⟩
        | true =>
          have e0 : (andW == ([] : Str)) = false := rfl
          rw [zL_cons] at hv2
          have hz2 : zL enc_VValue (sp r) ≤ big := Nat.le_trans (zL_sub (sp_sub _)) (by omega)
          obtain ⟨c, b, g1, g2, g3⟩ := rd_feature2 hz2
          have hlr := sp_len r
          simp only [List.length_cons] at hv3
          simp only [cond_true, Option.bind_some, e0, cond_false, List.tail_cons, rd_spaces, g1]
          cases hsr : sp r with
          | nil =>
            rw [hsr] at g2
            obtain rfl : b = false := g2
            right; left
            exact ⟨_, rfl, may_none _⟩
          | cons d r' =>
            rw [hsr] at g2 g3 hlr hz2
            rw [zL_cons] at hz2
            simp only [featH, afterF] at g2 g3 ⊢
            cases hfs : featS d with
            | none =>
              rw [hfs] at g2
              obtain rfl : b = false := g2
              right; left
              exact ⟨_, rfl, may_none _⟩
            | some x =>
              rw [hfs] at g2
              obtain rfl : b = true := g2
              obtain rfl : c = x := g3 x hfs
              have h21 : (d.token.kind == 21) = true := by
                unfold featS at hfs
                cases hk : d.token.kind == 21 with
                | true => rfl
                | false => rw [hk] at hfs; cases hfs
              have hap : appOk acc.length 1 104 = true := appOk_of (by unfold big at hv3; omega)
              have hlr' := sp_len r'
              rw [List.length_cons] at hlr
              left
              refine ⟨(⟨sp r'⟩, (0, [], 0, [], false), (1, [], 0, [], false), acc ++ [c]), ?_, ⟨rfl, rfl, sp_idem _, Nat.le_trans (zL_sub (sp_sub _)) (by omega), ?_⟩, ?_, ?_⟩
              · simp only [Bool.not_true, cond_false, hap, need_true, h21, cond_true, eta_Cond]
              · simp only [List.length_append, List.length_cons, List.length_nil]; omega
              · simp only [List.length_cons]; omega
              · intro q hq
                have hsp : restS (sp r') = restS r' := by rw [restS_eq, restS_eq r', sp_idem]
                simp only [hsp] at hq
                simp only
                cases hr : restS r' with
                | none => rw [hr] at hq; exact hq
                | some z =>
                  rw [hr] at hq
                  simp only [Option.map_some, List.append_assoc, List.singleton_append] at hq ⊢
                  exact hq
    · refine ⟨rfl, rfl, sp_idem _, Nat.le_trans (zL_sub (sp_sub _)) hzt, ?_⟩
      have := sp_len l1.tail
      have h1b : 1 ≤ big := by unfold big; omega
      simp only [List.length_cons, List.length_nil, List.length_tail] at *
      omega
end Go.Lv.VT

namespace Go.Lv.VT
def neverC : VCond := notC (allC [medC [97, 108, 108]])
theorem never_eq : ref10_never () = some neverC := rfl
def queryT (y : List VValue) : Option VCond :=
  bif headW notW y then bodyQ true true (sp y.tail) else bif headW onlyW y then bodyQ false true (sp y.tail) else bodyQ false false y
theorem queryT_eq (l : List VValue) : queryQ l = queryT (sp l) := rfl
theorem bodyQ_app (not only : Bool) {s : List VValue} (hs : sp s = []) {l : List VValue} (hl : l ≠ []) : bodyQ not only (l ++ s) = bodyQ not only l := by
  rw [bodyQ_eq, bodyQ_eq]
  cases l with
  | nil => exact absurd rfl hl
  | cons a r =>
    simp only [List.cons_append, firstQ, List.tail_cons, restS_app hs _ r (Nat.lt_succ_self _)]
theorem bodyQ_sp (not only : Bool) {s : List VValue} (hs : sp s = []) (r : List VValue) : bodyQ not only (sp (r ++ s)) = bodyQ not only (sp r) := by
  rw [sp_app hs]
  cases hr : sp r with
  | nil => rw [if_pos rfl]
  | cons a t => rw [if_neg (by simp)]; exact bodyQ_app not only hs (by simp)
theorem sp_trimS (l : List VValue) : sp (trimS l) = trimS l := sp_pre (trimB_pre (sp l)) (sp_idem l)
theorem queryT_trim (l : List VValue) : queryQ l = queryT (trimS l) := by
  rw [queryT_eq]
  obtain ⟨s, h1, h2⟩ := trimB_split (sp l)
  show queryT (sp l) = queryT (trimB (sp l))
  have hi : sp (sp l) = sp l := sp_idem l
  generalize sp l = m at *
  cases hz : trimB m with
  | nil =>
    rw [hz, List.nil_append] at h1
    subst h1
    rw [← hi, h2]
  | cons a r =>
    rw [hz] at h1
    rw [h1]
    have hb := bodyQ_app false false h2 (l := a :: r) (by simp)
    rw [List.cons_append] at hb
    simp only [List.cons_append, queryT, headW, List.tail_cons, bodyQ_sp _ _ h2, hb]

def orN (o : Option VCond) : VCond := match o with
  | some c => c
  | none => neverC

theorem rf_asked {x : List VValue} (hz : zL enc_VValue x ≤ big) : ref10_asked x = some (orN (queryQ x)) := by
  suffices h : ∃ r, ref10_asked x = some r ∧ r = orN (queryQ x) by
    obtain ⟨r, h1, rfl⟩ := h; exact h1
  unfold ref10_asked
  have hsz := szL_zL x
  have hzy : zL enc_VValue (trimS x) ≤ big := Nat.le_trans (zL_sub ((trimB_sub _).trans (sp_sub _))) hz
  rw [queryT_trim]
  have hspy := sp_trimS x
  simp only [ref_trimmed (show szL x ≤ big by omega), bindO, Option.bind_some]
  generalize trimS x = y at *
  have hyl := zL_len zValue_pos y
  have htx : ∀ a ∈ y, a.token.text.length ≤ big := fun a ha => (zl_in hzy ha).1
  have w0 := rf_word (v := y) 0 (s := notW) htx (by decide) low_not
  have w1 := rf_word (v := y) 0 (s := onlyW) htx (by decide) low_only
  simp only [Int.natCast_zero, List.drop_zero] at w0 w1
  have happ : appOk 0 1 104 = true := appOk_of (by decide)
  have hb2 : 2 ≤ big := by unfold big; omega
  simp only [w0, w1, condO_some, Option.bind_some, never_eq, eta_Cond]
  refine joinK_rel (fun r : VCond => r = _) (fun o : Int × (Int × Str × Int × Str × Bool) × (Int × Str × Int × Str × Bool) => ∃ i : Nat, o.1 = (i : Int) ∧ o.2.1 = (0, [], 0, [], false) ∧ o.2.2 = (1, [], 0, [], false) ∧ i ≤ max 1 y.length ∧ queryT y = bodyQ (headW notW y) false (y.drop i)) ?_ ?_
  · have s1 := rf_spaces (v := y) 1 (by omega) (by omega)
    have hd1 := spI_drop y 1
    have hl1 := spI_le y 1
    simp only [Int.natCast_one] at s1
    have hq : (bif headW notW y then true else bif !(headW notW y) then headW onlyW y else default) = false → queryT y = bodyQ (headW notW y) false (y.drop 0) := by
      intro h
      unfold queryT
      cases h1 : headW notW y with
      | true => rw [h1] at h; cases h
      | false =>
        rw [h1] at h
        have h : headW onlyW y = false := h
        rw [h]; rfl
    have hq2 : (bif headW notW y then true else bif !(headW notW y) then headW onlyW y else default) = true → queryT y = bodyQ (headW notW y) true (sp (y.drop 1)) := by
      intro h
      unfold queryT
      rw [List.drop_one]
      cases h1 : headW notW y with
      | true => rfl
      | false =>
        rw [h1] at h
        have h : headW onlyW y = true := h
        rw [h]; rfl
    generalize (bif headW notW y then true else bif !(headW notW y) then headW onlyW y else default) = b at *
    cases b with
    | false =>
      left
      exact ⟨_, rfl, 0, rfl, rfl, rfl, by omega, hq rfl⟩
    | true =>
      have hq2 := hq2 rfl
      simp only [cond_true, s1, rf_kind, Option.bind_some, hd1]
      cases hs : sp (y.drop 1) with
      | nil =>
        right
        exact ⟨_, rfl, by rw [hq2, hs, bodyQ_eq]; rfl⟩
      | cons a r =>
        simp only
        cases h1 : a.token.kind == 1 with
        | false =>
          right
          refine ⟨_, rfl, ?_⟩
          rw [hq2, hs, bodyQ_eq]
          simp only [firstQ, h1, cond_false, cond_true]
          rfl
        | true =>
          left
          refine ⟨_, rfl, spI y 1, rfl, rfl, rfl, by omega, ?_⟩
          rw [hq2, hd1, hs, bodyQ_eq, bodyQ_eq]
          simp only [firstQ, h1, cond_true]
  · rintro ⟨_, _, _⟩ ⟨i, rfl, rfl, rfl, hi, hq⟩
    rw [hq, bodyQ_eq]
    simp only [rf_kind, Option.bind_some]
    refine joinK_rel (fun r : VCond => r = _) (fun o : Int × (Int × Str × Int × Str × Bool) × (Int × Str × Int × Str × Bool) × List VCond => o.1 = (i : Int) ∧ o.2.1 = (0, [], 0, [], false) ∧ o.2.2.1 = (1, [], 0, [], false) ∧ i < y.length ∧ ∃ c, firstQ false (y.drop i) = some c ∧ o.2.2.2 = [c]) ?_ ?_
    · obtain ⟨⟨c, b⟩, g1, g2, g3⟩ := rf_feature (v := y) i hzy
      rw [g1]
      cases hd : y.drop i with
      | nil =>
        rw [hd] at g2
        obtain rfl : b = false := g2
        right
        exact ⟨_, rfl, rfl⟩
      | cons a r =>
        obtain ⟨d1, d2, d3⟩ := dropV hd
        rw [hd] at g2 g3
        simp only [featH] at g2 g3
        have hat := htx a (List.mem_of_mem_drop (i := i) (by rw [hd]; exact List.mem_cons_self))
        have hll : (lowS a.token.text).length ≤ big := by unfold lowS; rw [List.length_map]; exact hat
        simp only [firstQ, d2, Option.bind_some, ref_Lower hat, ref10_medium_eq hll, happ, need_true]
        cases a.token.kind == 1 with
        | true =>
          simp only [cond_true]
          cases medS (lowS a.token.text) with
          | true => exact .inl ⟨_, rfl, rfl, rfl, rfl, d1, _, rfl, rfl⟩
          | false => exact .inr ⟨_, rfl, rfl⟩
        | false =>
          simp only [cond_false]
          cases hfs : featS a with
          | none =>
            rw [hfs] at g2
            obtain rfl : b = false := g2
            exact .inr ⟨_, rfl, rfl⟩
          | some x =>
            rw [hfs] at g2
            obtain rfl : b = true := g2
            obtain rfl : c = x := g3 x hfs
            exact .inl ⟨_, rfl, rfl, rfl, rfl, d1, _, rfl, rfl⟩
    · rintro ⟨_, _, _, _⟩ ⟨rfl, rfl, rfl, hil, c, hc, rfl⟩
      simp only [hc]
      have s1 := rf_spaces (v := y) (i + 1) (by omega) (by omega)
      have hd1 := spI_drop y (i + 1)
      have hl1 := spI_le y (i + 1)
      simp only [w64_succ hil (show y.length ≤ big by omega), s1, Option.bind_some]
      have hrs : restS (y.drop i).tail = restS (y.drop (spI y (i + 1))) := by
        rw [hd1, List.tail_drop, restS_eq, restS_eq (sp _), sp_idem]
      rw [hrs]
      have hk0 : sp (y.drop (spI y (i + 1))) = y.drop (spI y (i + 1)) := by rw [hd1, sp_idem]
      have hkl : spI y (i + 1) ≤ y.length := by omega
      generalize spI y (i + 1) = k0 at *
      refine loop_meas (fun s : Int × (Int × Str × Int × Str × Bool) × (Int × Str × Int × Str × Bool) × List VCond => y.length - s.1.toNat)
        (fun s => ∃ k : Nat, s.1 = (k : Int) ∧ s.2.1 = (0, [], 0, [], false) ∧ s.2.2.1 = (1, [], 0, [], false) ∧ k ≤ y.length ∧ sp (y.drop k) = y.drop k ∧ s.2.2.2.length ≤ k + 1)
        (fun t (r : VCond) => r = orN ((restS (y.drop t.1.toNat)).map fun q => finQ (headW notW y) (t.2.2.2 ++ q))) ?_ ?_
      · rintro ⟨_, _, _, acc⟩ ⟨k, rfl, rfl, rfl, hk, hsk, hacc⟩
        simp only at hacc
        simp only [Int.toNat_natCast]
        cases hd : y.drop k with
        | nil =>
          have hkl : y.length ≤ k := List.drop_eq_nil_iff.1 hd
          have e : decide ((k : Int) < (y.length : Int)) = false := decide_eq_false (by omega)
          right; right
          refine ⟨((0, [], 0, [], false), (1, [], 0, [], false), acc), by simp only [e, cond_false], ?_⟩
          have hr : restS [] = some [] := by rw [restS_eq, sp_nil]
          simp only [hr, Option.map_some, List.append_nil]
          cases headW notW y with
          | true => exact ⟨_, rfl, rfl⟩
          | false => exact ⟨_, rfl, rfl⟩
        | cons a r =>
          rw [hd] at hsk
          obtain ⟨d1, d2, d3⟩ := dropV hd
          have wk := rf_word (v := y) k (s := andW) htx (by decide) low_and
          have sk := rf_spaces (v := y) (k + 1) (by omega) (by omega)
          have hdk := spI_drop y (k + 1)
          have hlk := spI_le y (k + 1)
          simp only [lt_true d1, cond_true, wk, Option.bind_some, w64_succ d1 (show y.length ≤ big by omega), sk]
          rw [restS_eq, hsk]
          simp only [hd, headW]
          cases isW andW a with
          | false =>
            right; left
            exact ⟨_, rfl, rfl⟩
          | true =>
            obtain ⟨⟨c', b⟩, g1, g2, g3⟩ := rf_feature (v := y) (spI y (k + 1)) hzy
            rw [hdk, d3] at g2 g3
            rw [d3] at hdk
            simp only [Bool.not_true, cond_false, cond_true, g1, Option.bind_some]
            generalize spI y (k + 1) = k1 at *
            cases hsr : sp r with
            | nil =>
              rw [hsr] at g2
              obtain rfl : b = false := g2
              right; left
              exact ⟨_, rfl, rfl⟩
            | cons d r' =>
              rw [hsr] at g2 g3 hdk
              simp only [featH] at g2 g3 ⊢
              obtain ⟨f1, f2, f3⟩ := dropV hdk
              cases hfs : featS d with
              | none =>
                rw [hfs] at g2
                obtain rfl : b = false := g2
                right; left
                exact ⟨_, rfl, rfl⟩
              | some x =>
                rw [hfs] at g2
                obtain rfl : b = true := g2
                obtain rfl : c' = x := g3 x hfs
                have hap : appOk acc.length 1 104 = true := appOk_of (by unfold big at *; omega)
                have sk2 := rf_spaces (v := y) (k1 + 1) (by omega) (by omega)
                have hdk2 := spI_drop y (k1 + 1)
                have hlk2 := spI_le y (k1 + 1)
                left
                refine ⟨((spI y (k1 + 1) : Int), (0, [], 0, [], false), (1, [], 0, [], false), acc ++ [c']), ?_, ⟨spI y (k1 + 1), rfl, rfl, rfl, by omega, by rw [hdk2, sp_idem], ?_⟩, ?_, ?_⟩
                · simp only [Bool.not_true, cond_false, hap, need_true, w64_succ f1 (show y.length ≤ big by omega), sk2, Option.bind_some]
                · simp only [List.length_append, List.length_cons, List.length_nil]; omega
                · simp only [Int.toNat_natCast]; omega
                · intro q hq
                  have hsp : restS (sp r') = restS r' := by rw [restS_eq, restS_eq r', sp_idem]
                  simp only [Int.toNat_natCast, hdk2, f3, hsp] at hq
                  rw [hq]
                  cases hr : restS r' with
                  | none => rfl
                  | some z => simp only [Option.map_some, List.append_assoc, List.singleton_append]
      · exact ⟨k0, rfl, rfl, rfl, hkl, hk0, by simp only [List.length_cons, List.length_nil]; omega⟩
end Go.Lv.VT
