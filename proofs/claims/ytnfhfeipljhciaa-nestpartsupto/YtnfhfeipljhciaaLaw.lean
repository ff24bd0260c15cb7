/- nest: what the functions of layer 4, and those of its reference, compute. -/
import Derived.Test.YtnfhfeipljhciaaTx
namespace Go.Lv.VT

mutual
/-- How large values are. -/
def szV : VValue → Nat
  | ⟨t, l⟩ => 1 + t.text.length + t.unit.length + szL l
def szL : List VValue → Nat
  | [] => 0
  | v :: r => szV v + szL r
end

theorem szV_eq (v : VValue) : szV v = 1 + v.token.text.length + v.token.unit.length + szL v.list := by
  obtain ⟨t, l⟩ := v; rw [szV]
theorem szL_mem {v : VValue} : ∀ {l : List VValue}, v ∈ l → szV v ≤ szL l
  | [], h => by cases h
  | x :: l, h => by
    rw [szL]
    rcases List.mem_cons.1 h with rfl | h
    · omega
    · have := szL_mem h; omega
theorem szL_len : ∀ (l : List VValue), l.length ≤ szL l
  | [] => Nat.le_refl _
  | v :: r => by rw [szL, szV_eq, List.length_cons]; have := szL_len r; omega

/-- A bound that is far from where integers wrap. -/
abbrev big : Nat := 4194304

theorem lt_true {i n : Nat} (h : i < n) : decide ((i : Int) < (n : Int)) = true := decide_eq_true (by omega)
theorem lt_self (n : Nat) : decide ((n : Int) < (n : Int)) = false := decide_eq_false (by omega)
theorem pos_dec (n : Nat) : decide ((n : Int) > 0) = decide (0 < n) := by
  by_cases h : 0 < n
  · rw [decide_eq_true h, decide_eq_true (by omega)]
  · rw [decide_eq_false h, decide_eq_false (by omega)]
theorem w64_succ {i n : Nat} (h : i < n) (hn : n ≤ big) : w64 ((i : Int) + 1) = ((i + 1 : Nat) : Int) := by
  rw [w64, wrap64_id (by omega) (by unfold big at hn; omega)]; omega

def closerS (k : Int) : Int := if k = 19 then 20 else if k = 21 ∨ k = 2 then 22 else if k = 23 then 24 else 0

theorem ref_closer (k : Int) : ref04_Closer k = some (closerS k) := by
  unfold ref04_Closer closerS
  by_cases h1 : k = 19
  · subst h1; rfl
  by_cases h2 : k = 21
  · subst h2; rfl
  by_cases h3 : k = 2
  · subst h3; rfl
  by_cases h4 : k = 23
  · subst h4; rfl
  have e1 : (k == 19) = false := beq_eq_false_iff_ne.2 h1
  have e2 : (k == 21) = false := beq_eq_false_iff_ne.2 h2
  have e3 : (k == 2) = false := beq_eq_false_iff_ne.2 h3
  have e4 : (k == 23) = false := beq_eq_false_iff_ne.2 h4
  simp only [e1, e2, e3, e4, cond_false, joinK_out, h1, h2, h3, h4, if_false, or_self]
theorem nest_closer_eq (k : Int) : nest_closer k = some (closerS k) := by
  unfold nest_closer closerS
  by_cases h1 : k = 19
  · subst h1; rfl
  by_cases h2 : k = 21
  · subst h2; rfl
  by_cases h3 : k = 2
  · subst h3; rfl
  by_cases h4 : k = 23
  · subst h4; rfl
  have e1 : (k == 19) = false := beq_eq_false_iff_ne.2 h1
  have e2 : (k == 21) = false := beq_eq_false_iff_ne.2 h2
  have e3 : (k == 2) = false := beq_eq_false_iff_ne.2 h3
  have e4 : (k == 23) = false := beq_eq_false_iff_ne.2 h4
  simp only [e1, e2, e3, e4, cond_false, joinK_out, h1, h2, h3, h4, if_false, or_self]

mutual
/-- The depth of values. -/
def deepV : VValue → Nat
  | ⟨t, l⟩ => if closerS t.kind = 0 then 0 else 1 + deepL l
def deepL : List VValue → Nat
  | [] => 0
  | v :: r => max (deepV v) (deepL r)
end
theorem deepV_eq (v : VValue) : deepV v = if closerS v.token.kind = 0 then 0 else 1 + deepL v.list := by
  obtain ⟨t, l⟩ := v; rw [deepV]
mutual
theorem deepV_le : ∀ v : VValue, deepV v ≤ szV v
  | ⟨t, l⟩ => by
    rw [deepV, szV]
    have := deepL_le l
    split <;> omega
theorem deepL_le : ∀ l : List VValue, deepL l ≤ szL l
  | [] => Nat.le_refl _
  | v :: r => by
    rw [deepL, szL]
    have := deepV_le v
    have := deepL_le r
    omega
end

theorem foldl_max (f : VValue → Nat) : ∀ (l : List VValue) (a : Nat), l.foldl (fun a v => max a (f v)) a = max a (l.foldr (fun v a => max (f v) a) 0)
  | [], a => by simp
  | v :: l, a => by rw [List.foldl_cons, foldl_max f l, List.foldr_cons]; omega
theorem deepL_eq : ∀ (l : List VValue), deepL l = l.foldr (fun v a => max (deepV v) a) 0
  | [] => by rw [deepL]; rfl
  | v :: l => by rw [deepL, deepL_eq l]; rfl

theorem ref_deep {l : List VValue} (h : szL l ≤ big) : ref04_Deep l = some (deepL l : Int) := by
  refine recE_meas (fun l => szL l) (fun l => szL l ≤ big) (fun l => (deepL l : Int)) (fun S l hl hS => ?_) h
  unfold ref04_Deep_B
  have hlen := szL_len l
  refine (loopK_ov l (fun i (a : Nat) => ((a : Int), (i : Int))) (fun v a => some (.again (max a (deepV v)))) (fun a => some (.out (a : Int))) (a := 0) rfl (fun i a hi => ?_) (fun a => ?_) (r := .out (deepL l : Int)) ?_)
  · have hsz := szL_mem (List.getElem_mem hi)
    have hv2 := szV_eq l[i]
    have hd := deepV_eq l[i]
    have hd2 := deepL_le l[i].list
    simp only [lt_true hi, cond_true, bindO, geti_eq hi, Option.bind_some, ref_closer]
    by_cases hc : closerS l[i].token.kind = 0
    · rw [if_pos hc] at hd
      simp [hc, hd, w64_succ hi (by omega)]
    · rw [if_neg hc] at hd
      rw [hS l[i].list (by omega) (by omega)]
      have hw : w64 (1 + (deepL l[i].list : Int)) = ((1 + deepL l[i].list : Nat) : Int) := by
        rw [w64, wrap64_id (by omega) (by unfold big at hl; omega)]; omega
      simp only [bne_iff_ne.2 hc, cond_true, Option.bind_some, joinK_out, w64_succ hi (by omega), hw, hd, Option.map_some]
      congr 3
      split <;> omega
  · simp only [lt_self, cond_false]
    rfl
  · rw [overL_fold (fun a v => max a (deepV v)) (fun v a => rfl), foldl_max, ← deepL_eq]
    simp

theorem szL_take {l : List VValue} : ∀ {i : Nat} (h : i < l.length), szL (l.take (i + 1)) = szL (l.take i) + szV l[i] := by
  induction l with
  | nil => intro i h; cases h
  | cons v r ih =>
    intro i h
    cases i with
    | zero => simp [szL]
    | succ i =>
      simp only [List.take_succ_cons, szL, List.getElem_cons_succ]
      rw [ih (by simpa using h)]
      omega
theorem szL_take_le (l : List VValue) (i : Nat) : szL (l.take i) ≤ szL l := by
  induction l generalizing i with
  | nil => simp
  | cons v r ih =>
    cases i with
    | zero => simp [szL]
    | succ i => simp only [List.take_succ_cons, szL]; have := ih i; omega

mutual
/-- The tokens of values. -/
def tokV : VValue → List VToken
  | ⟨t, l⟩ => t :: if closerS t.kind = 0 then [] else tokL l ++ [⟨closerS t.kind, [], 0, [], false⟩]
def tokL : List VValue → List VToken
  | [] => []
  | v :: r => tokV v ++ tokL r
end
theorem tokV_eq (v : VValue) : tokV v = v.token :: if closerS v.token.kind = 0 then [] else tokL v.list ++ [⟨closerS v.token.kind, [], 0, [], false⟩] := by
  obtain ⟨t, l⟩ := v; rw [tokV]
mutual
theorem tokV_le : ∀ v : VValue, (tokV v).length ≤ 2 * szV v
  | ⟨t, l⟩ => by
    rw [tokV, szV]
    have := tokL_le l
    split
    · simp; omega
    · simp; omega
theorem tokL_le : ∀ l : List VValue, (tokL l).length ≤ 2 * szL l
  | [] => Nat.le_refl _
  | v :: r => by
    rw [tokL, szL, List.length_append]
    have := tokV_le v
    have := tokL_le r
    omega
end
theorem tokL_fold : ∀ (l : List VValue) (a : List VToken), l.foldl (fun a v => a ++ tokV v) a = a ++ tokL l
  | [], a => by simp [tokL]
  | v :: l, a => by rw [List.foldl_cons, tokL_fold l, tokL, List.append_assoc]

theorem ref_tokens {l : List VValue} (h : szL l ≤ big) : ref04_Tokens l = some (tokL l) := by
  refine recE_meas (fun l => szL l) (fun l => szL l ≤ big) (fun l => tokL l) (fun S l hl hS => ?_) h
  unfold ref04_Tokens_B
  have hlen := szL_len l
  refine (loopK_oi l (fun i (a : List VToken) => ((i : Int), a)) (fun v a => some (.again (a ++ tokV v))) (fun a => some (.out a)) (fun i a => a.length ≤ 2 * szL (l.take i)) (a := []) rfl (by simp) (fun i a hi hI => ?_) (fun a _ => ?_) (r := .out (tokL l)) ?_)
  · have hsz := szL_mem (List.getElem_mem hi)
    have hv2 := szV_eq l[i]
    have hd := tokV_eq l[i]
    have hd2 := tokL_le l[i].list
    have ht := szL_take hi
    have ht2 := szL_take_le l (i + 1)
    have hv3 := tokV_le l[i]
    unfold big at hl
    have hap : ∀ n m : Nat, n + m ≤ 100000000 → appOk n m 56 = true := fun n m h => appOk_of (by omega)
    refine ⟨?_, fun a' ha => ?_⟩
    · simp only [lt_true hi, cond_true, bindO, geti_eq hi, Option.bind_some, ref_closer]
      by_cases hc : closerS l[i].token.kind = 0
      · rw [if_pos hc] at hd
        simp [hc, hd, w64_succ hi (by unfold big; omega), hap a.length 1 (by omega)]
      · rw [if_neg hc] at hd
        rw [hS l[i].list (by unfold big; omega) (by omega)]
        have hb : (closerS l[i].token.kind != 0) = true := bne_iff_ne.2 hc
        simp [hb, hd, w64_succ hi (by unfold big; omega), hap a.length 1 (by omega), hap (a.length + 1) (tokL l[i].list).length (by omega), hap (a.length + ((tokL l[i].list).length + 1)) 1 (by omega)]
    · cases ha
      rw [List.length_append, ht]
      omega
  · simp only [lt_self, cond_false]
    rfl
  · rw [overL_fold (fun a v => a ++ tokV v) (fun v a => rfl), tokL_fold]
    simp

mutual
/-- Whether lists are those of blocks, and have not their closers. -/
def shV : VValue → Int → Bool
  | ⟨t, l⟩, c => !((closerS t.kind == 0 && decide (0 < l.length)) || (c != 0 && t.kind == c) || (closerS t.kind != 0 && !(shL l (closerS t.kind))))
def shL : List VValue → Int → Bool
  | [], _ => true
  | v :: r, c => shV v c && shL r c
end
theorem shV_eq (v : VValue) (c : Int) : shV v c = !((closerS v.token.kind == 0 && decide (0 < v.list.length)) || (c != 0 && v.token.kind == c) || (closerS v.token.kind != 0 && !(shL v.list (closerS v.token.kind)))) := by
  obtain ⟨t, l⟩ := v; rw [shV]

theorem ref_shaped {l : List VValue} {c : Int} (h : szL l ≤ big) : ref04_shaped (l, c) = some (shL l c) := by
  refine recE_meas (fun x : List VValue × Int => szL x.1) (fun x => szL x.1 ≤ big) (fun x => shL x.1 x.2) (fun S x hl hS => ?_) h
  obtain ⟨l, c⟩ := x
  simp only at hl hS ⊢
  unfold ref04_shaped_B
  have hlen := szL_len l
  have hov : ∀ l : List VValue, overL (fun v (_ : Unit) => if shV v c = true then some (.again ()) else some (.ret false)) (fun _ => some (.out ())) l () = some (if shL l c = true then .out () else .ret false) := by
    intro l
    induction l with
    | nil => simp [overL, shL]
    | cons v r ih =>
      by_cases hv : shV v c = true
      · simpa [overL, shL, hv] using ih
      · simp [overL, shL, hv]
  refine (loopK_ov l (fun i (_ : Unit) => (i : Int)) (fun v (_ : Unit) => if shV v c = true then some (.again ()) else some (.ret false)) (fun _ => some (.out ())) (a := ()) rfl (fun i a hi => ?_) (fun a => ?_) (hov l)).trans ?_
  · have hsz := szL_mem (List.getElem_mem hi)
    have hv2 := szV_eq l[i]
    have hd := shV_eq l[i] c
    simp only [lt_true hi, cond_true, bindO, geti_eq hi, Option.bind_some, ref_closer]
    have hs1 : szL l[i].list ≤ big := by omega
    have hs2 : szL l[i].list < szL l := by omega
    have hS' : ∀ c', S (l[i].list, c') = some (shL l[i].list c') := fun c' => hS (l[i].list, c') hs1 hs2
    rw [hd]
    have hp : decide ((l[i].list.length : Int) > 0) = decide (0 < l[i].list.length) := pos_dec _
    have hw := w64_succ hi (by omega)
    simp only [bne, hp]
    rcases Bool.eq_false_or_eq_true (closerS l[i].token.kind == 0) with h1 | h1 <;> rcases Bool.eq_false_or_eq_true (decide (0 < l[i].list.length)) with h2 | h2 <;> rcases Bool.eq_false_or_eq_true (c == 0) with h3 | h3 <;> rcases Bool.eq_false_or_eq_true (l[i].token.kind == c) with h4 | h4 <;> rcases Bool.eq_false_or_eq_true (shL l[i].list (closerS l[i].token.kind)) with h5 | h5 <;>
      simp only [hS', hp, h1, h2, h3, h4, h5, hw, cond_true, cond_false, Bool.not_true, Bool.not_false, Bool.and_true, Bool.and_false, Bool.true_and, Bool.false_and, Bool.or_true, Bool.or_false, Bool.true_or, Bool.false_or, condO_true, condO_false, Option.bind_some, if_true, if_false, Option.map_some, Bool.false_eq_true]
  · simp only [lt_self, cond_false]
    rfl
  · cases h : shL l c <;> simp

/-- What is found out about values. -/
def foundS (l : List VValue) (c : Int) : Vnest_found := ⟨deepL l, (tokL l).length, !(shL l c)⟩
theorem look_fold (c : Int) : ∀ (l : List VValue) (a : Nat × Nat × Bool), l.foldl (fun a v => (max a.1 (deepV v), a.2.1 + (tokV v).length, a.2.2 || !(shV v c))) a = (max a.1 (deepL l), a.2.1 + (tokL l).length, a.2.2 || !(shL l c))
  | [], a => by simp [deepL, tokL, shL]
  | v :: l, a => by
    rw [List.foldl_cons, look_fold c l, deepL, tokL, shL, List.length_append]
    simp only [Prod.mk.injEq]
    refine ⟨by omega, by omega, ?_⟩
    cases a.2.2 <;> cases shV v c <;> cases shL l c <;> rfl

theorem cond_or (a b : Bool) : (bif a then true else b) = (a || b) := by cases a <;> rfl
theorem cond_and (a b : Bool) : (bif a then b else false) = (a && b) := by cases a <;> rfl

theorem nest_look_eq {l : List VValue} {c : Int} (h : szL l ≤ big) : nest_look (l, c) = some (foundS l c) := by
  refine recE_meas (fun x : List VValue × Int => szL x.1) (fun x => szL x.1 ≤ big) (fun x => foundS x.1 x.2) (fun S x hl hS => ?_) h
  obtain ⟨l, c⟩ := x
  simp only at hl hS ⊢
  unfold nest_look_B
  have hlen := szL_len l
  refine (loopK_oi l (fun i (a : Nat × Nat × Bool) => ((i : Int), (⟨(a.1 : Int), (a.2.1 : Int), a.2.2⟩ : Vnest_found))) (fun v a => some (.again (max a.1 (deepV v), a.2.1 + (tokV v).length, a.2.2 || !(shV v c)))) (fun a => some (.out (⟨(a.1 : Int), (a.2.1 : Int), a.2.2⟩ : Vnest_found))) (fun i a => a.2.1 ≤ 2 * szL (l.take i)) (a := (0, 0, false)) rfl (by simp) (fun i a hi hI => ?_) (fun a _ => ?_) (r := .out (foundS l c)) ?_)
  · have hsz := szL_mem (List.getElem_mem hi)
    have hv2 := szV_eq l[i]
    have hd := deepV_eq l[i]
    have hd2 := deepL_le l[i].list
    have ht := tokV_eq l[i]
    have ht2 := tokL_le l[i].list
    have hsh := shV_eq l[i] c
    have htk := szL_take hi
    have htk2 := szL_take_le l (i + 1)
    have hv3 := tokV_le l[i]
    have hs1 : szL l[i].list ≤ big := by omega
    have hs2 : szL l[i].list < szL l := by omega
    have hS' : S (l[i].list, closerS l[i].token.kind) = some (foundS l[i].list (closerS l[i].token.kind)) := hS (l[i].list, closerS l[i].token.kind) hs1 hs2
    obtain ⟨d, n, b⟩ := a
    simp only at hI
    have hw := w64_succ hi (by omega)
    unfold big at hl
    have hw1 : w64 ((n : Int) + 1) = ((n + 1 : Nat) : Int) := by rw [w64, wrap64_id (by omega) (by omega)]; omega
    refine ⟨?_, fun a' ha => ?_⟩
    · have hp : decide ((l[i].list.length : Int) > 0) = decide (0 < l[i].list.length) := pos_dec _
      simp only [lt_true hi, cond_true, bindO, geti_eq hi, Option.bind_some, nest_closer_eq, Option.map_some, hw1, bne, hp, cond_or, cond_and]
      by_cases hc : closerS l[i].token.kind = 0
      · rw [if_pos hc] at hd ht
        simp only [hc, beq_self_eq_true, Bool.true_and, Bool.not_true, Bool.false_and, Bool.or_false, bne] at hsh ⊢
        rw [hsh, hd, ht]
        rcases Bool.eq_false_or_eq_true (decide (0 < l[i].list.length)) with h2 | h2 <;> rcases Bool.eq_false_or_eq_true (c == 0) with h3 | h3 <;> rcases Bool.eq_false_or_eq_true (l[i].token.kind == c) with h4 | h4 <;>
          simp [h2, h3, h4, hw, cond_true, cond_false]
      · rw [if_neg hc] at hd ht
        have hcb : (closerS l[i].token.kind == 0) = false := beq_eq_false_iff_ne.2 hc
        have hw2 : w64 ((deepL l[i].list : Int) + 1) = ((1 + deepL l[i].list : Nat) : Int) := by rw [w64, wrap64_id (by omega) (by omega)]; omega
        have hw3 : w64 (((n + 1 : Nat) : Int) + ((tokL l[i].list).length : Int)) = ((n + 1 + (tokL l[i].list).length : Nat) : Int) := by rw [w64, wrap64_id (by omega) (by omega)]; omega
        have hw4 : w64 (((n + 1 + (tokL l[i].list).length : Nat) : Int) + 1) = ((n + (1 + ((tokL l[i].list).length + 1)) : Nat) : Int) := by rw [w64, wrap64_id (by omega) (by omega)]; omega
        have htl : (tokV l[i]).length = 1 + ((tokL l[i].list).length + 1) := by rw [ht]; simp; omega
        have hm : (if ((1 + deepL l[i].list : Nat) : Int) > (d : Int) then ((1 + deepL l[i].list : Nat) : Int) else (d : Int)) = ((max d (1 + deepL l[i].list) : Nat) : Int) := by split <;> omega
        rw [hsh, hd, htl]
        simp only [hcb, hS', Bool.false_and, Bool.not_false, Bool.true_and, Bool.or_false, Bool.false_or, cond_false, bne, Option.bind_some, foundS]
        rcases Bool.eq_false_or_eq_true (c == 0) with h3 | h3 <;> rcases Bool.eq_false_or_eq_true (l[i].token.kind == c) with h4 | h4 <;>
          simp only [h3, h4, hw, hw2, hw3, hw4, hm, cond_true, cond_false, joinK_out, Bool.not_true, Bool.not_false, Bool.true_and, Bool.and_true, Bool.and_false, Bool.false_and, Bool.or_true, Bool.or_false, Bool.true_or, Bool.false_or, Bool.not_not]
    · cases ha
      simp only
      omega
  · simp only [lt_self, cond_false]
    rfl
  · rw [overL_fold (fun a v => (max a.1 (deepV v), a.2.1 + (tokV v).length, a.2.2 || !(shV v c))) (fun v a => rfl), look_fold]
    simp [foundS]

end Go.Lv.VT

namespace Go.Lv.VT

mutual
/-- What Size counts, up to some number. -/
def sizeV : VValue → Int → Int
  | ⟨t, l⟩, m => 1 + t.text.length + t.unit.length + sizeL l m 0
def sizeL : List VValue → Int → Int → Int
  | [], _, n => n
  | v :: r, m, n => if n ≤ m then sizeL r m (n + sizeV v (m - n)) else n
end
theorem sizeV_eq (v : VValue) (m : Int) : sizeV v m = 1 + v.token.text.length + v.token.unit.length + sizeL v.list m 0 := by
  obtain ⟨t, l⟩ := v; rw [sizeV]
mutual
theorem sizeV_le : ∀ (v : VValue) (m : Int), 0 ≤ sizeV v m ∧ sizeV v m ≤ szV v
  | ⟨t, l⟩, m => by
    rw [sizeV, szV]
    have := sizeL_le l m 0
    omega
theorem sizeL_le : ∀ (l : List VValue) (m n : Int), n ≤ sizeL l m n ∧ sizeL l m n ≤ n + szL l
  | [], m, n => by rw [sizeL, szL]; omega
  | v :: r, m, n => by
    rw [sizeL, szL]
    have := sizeV_le v (m - n)
    have := sizeL_le r m (n + sizeV v (m - n))
    split <;> omega
end

theorem ref_size {l : List VValue} {m : Int} (h : szL l ≤ big) (hm : -10000000 ≤ m ∧ m ≤ 10000000) : ref04_Size (l, m) = some (sizeL l m 0) := by
  refine recE_meas (fun x : List VValue × Int => szL x.1) (fun x => szL x.1 ≤ big ∧ -10000000 ≤ x.2 ∧ x.2 ≤ 10000000) (fun x => sizeL x.1 x.2 0) (fun S x hl hS => ?_) ⟨h, hm⟩
  obtain ⟨l, m⟩ := x
  obtain ⟨hl, hm1, hm2⟩ := hl
  simp only at hl hS hm1 hm2 ⊢
  unfold ref04_Size_B
  have hlen := szL_len l
  have hov : ∀ (l : List VValue) (n : Int), overL (X := Int) (R := Int) (fun v n => if n ≤ m then some (.again (n + sizeV v (m - n))) else some (.out n)) (fun n => some (.out n)) l n = some (.out (sizeL l m n)) := by
    intro l
    induction l with
    | nil => intro n; rw [sizeL]; rfl
    | cons v r ih =>
      intro n
      rw [sizeL]
      simp only [overL]
      by_cases hn : n ≤ m
      · rw [if_pos hn, if_pos hn]; exact ih _
      · rw [if_neg hn, if_neg hn]
  refine (loopK_oi l (fun i (a : Int) => (a, (i : Int))) (fun v n => if n ≤ m then some (.again (n + sizeV v (m - n))) else some (.out n)) (fun n => some (.out n)) (fun i n => 0 ≤ n ∧ n ≤ szL (l.take i)) (a := 0) rfl (by simp) (fun i a hi hI => ?_) (fun a _ => ?_) (hov l 0))
  · have hsz := szL_mem (List.getElem_mem hi)
    have hv2 := szV_eq l[i]
    have hd := sizeV_eq l[i] (m - a)
    have hd2 := sizeL_le l[i].list (m - a) 0
    have hd3 := sizeV_le l[i] (m - a)
    have htk := szL_take hi
    have htk2 := szL_take_le l (i + 1)
    unfold big at hl
    refine ⟨?_, fun a' ha => ?_⟩
    · simp only [lt_true hi, cond_true, bindO]
      by_cases hn : a ≤ m
      · have hw : w64 ((i : Int) + 1) = ((i + 1 : Nat) : Int) := w64_succ hi (by unfold big; omega)
        have h0 : w64 (m - a) = m - a := wrap64_id (by omega) (by omega)
        have hs1 : szL l[i].list ≤ 4194304 ∧ -10000000 ≤ m - a ∧ m - a ≤ 10000000 := by omega
        have hs2 : szL l[i].list < szL l := by omega
        have hS' : S (l[i].list, m - a) = some (sizeL l[i].list (m - a) 0) := hS (l[i].list, m - a) hs1 hs2
        have h1 : w64 (1 + (l[i].token.text.length : Int)) = 1 + (l[i].token.text.length : Int) := wrap64_id (by omega) (by omega)
        have h2 : w64 (1 + (l[i].token.text.length : Int) + (l[i].token.unit.length : Int)) = 1 + (l[i].token.text.length : Int) + (l[i].token.unit.length : Int) := wrap64_id (by omega) (by omega)
        have h3 : w64 (1 + (l[i].token.text.length : Int) + (l[i].token.unit.length : Int) + sizeL l[i].list (m - a) 0) = sizeV l[i] (m - a) := by rw [hd]; exact wrap64_id (by omega) (by omega)
        have h4 : w64 (a + sizeV l[i] (m - a)) = a + sizeV l[i] (m - a) := wrap64_id (by omega) (by omega)
        simp only [decide_eq_true hn, cond_true, geti_eq hi, Option.bind_some, h0, hS', h1, h2, h3, h4, hw, if_pos hn, Option.map_some]
      · simp only [decide_eq_false hn, cond_false, if_neg hn, Option.map_some]
    · by_cases hn : a ≤ m
      · rw [if_pos hn] at ha
        cases ha
        omega
      · rw [if_neg hn] at ha
        cases ha
  · simp only [lt_self, cond_false]
    rfl

theorem ref_same {a : List VValue} (h : szL a ≤ big) : ref04_Same (a, a) = some true := by
  refine recE_meas (fun x : List VValue × List VValue => szL x.1) (fun x => szL x.1 ≤ big ∧ x.1 = x.2) (fun x => true) (fun S x hl hS => ?_) (show szL (a, a).1 ≤ big ∧ (a, a).1 = (a, a).2 from ⟨h, rfl⟩)
  obtain ⟨l, l'⟩ := x
  obtain ⟨hl, he⟩ := hl
  simp only at hl hS he
  subst he
  unfold ref04_Same_B
  have hlen := szL_len l
  have hne : ((l.length : Int) != (l.length : Int)) = false := by simp
  simp only [hne, cond_false]
  refine (loopK_ov l (fun i (_ : Unit) => (i : Int)) (fun v (_ : Unit) => some (.again ())) (fun _ => some (.out ())) (a := ()) rfl (fun i a hi => ?_) (fun a => ?_) (r := .out ()) ?_)
  · have hsz := szL_mem (List.getElem_mem hi)
    have hv2 := szV_eq l[i]
    have hs1 : szL l[i].list ≤ big := by omega
    have hs2 : szL l[i].list < szL l := by omega
    have hS' : S (l[i].list, l[i].list) = some true := hS (l[i].list, l[i].list) ⟨hs1, rfl⟩ hs2
    simp [hi, geti_eq hi, hS', w64_succ hi (by omega)]
  · simp only [lt_self, cond_false]
    rfl
  · rw [overL_fold (fun a v => a) (fun v a => rfl)]

/-- How large lists of values are. -/
def szP : List (List VValue) → Nat
  | [] => 0
  | l :: r => 1 + szL l + szP r
theorem szP_mem {v : List VValue} : ∀ {l : List (List VValue)}, v ∈ l → szL v ≤ szP l
  | [], h => by cases h
  | x :: l, h => by
    rw [szP]
    rcases List.mem_cons.1 h with rfl | h
    · omega
    · have := szP_mem h; omega
theorem szP_len : ∀ (l : List (List VValue)), l.length ≤ szP l
  | [] => Nat.le_refl _
  | v :: r => by rw [szP, List.length_cons]; have := szP_len r; omega

theorem ref_sameParts {l : List (List VValue)} (h : szP l ≤ big) : ref04_SameParts (l, l) = some true := by
  unfold ref04_SameParts
  have hlen := szP_len l
  have hne : ((l.length : Int) != (l.length : Int)) = false := by simp
  simp only [hne, cond_false]
  refine (loopK_ov l (fun i (_ : Unit) => (i : Int)) (fun v (_ : Unit) => some (.again ())) (fun _ => some (.out ())) (a := ()) rfl (fun i a hi => ?_) (fun a => ?_) (r := .out ()) ?_)
  · have hsz := szP_mem (List.getElem_mem hi)
    simp [hi, geti_eq hi, ref_same (a := l[i]) (by omega), w64_succ hi (by omega)]
  · simp only [lt_self, cond_false]
    rfl
  · rw [overL_fold (fun a v => a) (fun v a => rfl)]

theorem both_self {R : Type} (x : Option R) : both x x = x := by
  unfold both; rw [if_pos rfl]

theorem clone_eq {l : List VValue} (h : szL l ≤ big) : slices_Clone_Value l = some l := by
  unfold slices_Clone_Value
  have hlen := szL_len l
  unfold big at h
  have hap : appOk 0 l.length 80 = true := appOk_of (by omega)
  cases l with
  | nil => simp only [hap, both_self, need_true, List.isEmpty_nil, cond_true]
  | cons v r => simp only [hap, need_true, List.isEmpty_cons, cond_false]

theorem twin_eq {l : List VValue} (h : szL l ≤ big) : nest_twin l = some l := by
  refine recE_meas (fun l => szL l) (fun l => szL l ≤ big) (fun l => l) (fun S l hl hS => ?_) h
  unfold nest_twin_B
  have hlen := szL_len l
  simp only [bindO, clone_eq hl, Option.bind_some]
  refine (loopK_oi l (fun i (a : List VValue) => ((i : Int), a)) (fun v a => some (.again a)) (fun a => some (.out a)) (fun i a => a = l) (a := l) rfl rfl (fun i a hi hI => ?_) (fun a hI => ?_) (r := .out l) ?_)
  · subst hI
    have hsz := szL_mem (List.getElem_mem hi)
    have hv2 := szV_eq a[i]
    refine ⟨?_, fun a' ha => by cases ha; rfl⟩
    have h1 : S a[i].list = some a[i].list := hS a[i].list (by omega) (by omega)
    have h2 : decide ((0 : Int) ≤ (i : Int)) = true := decide_eq_true (by omega)
    have h3 : a[i]? = some a[i] := List.getElem?_eq_getElem hi
    have h4 : a.set i ⟨a[i].token, a[i].list⟩ = a := by
      have : (⟨a[i].token, a[i].list⟩ : VValue) = a[i] := by cases a[i]; rfl
      rw [this, List.set_getElem_self]
    simp only [lt_true hi, h2, Bool.and_self, cond_true, need_true, Int.toNat_natCast, h3, Option.bind_some, h1, h4, w64_succ hi (by omega), Option.map_some]
  · subst hI
    simp only [lt_self, cond_false]
    rfl
  · rw [overL_fold (fun a v => a) (fun v a => rfl)]
    congr 2
    clear hl hS hlen h
    generalize l = b at *
    have : ∀ (m b : List VValue), m.foldl (fun a _ => a) b = b := by
      intro m
      induction m with
      | nil => intro b; rfl
      | cons v m ih => intro b; exact ih b
    exact this _ _
end Go.Lv.VT

namespace Go.Lv.VT

theorem szL_sub {a b : List VValue} (h : a.Sublist b) : szL a ≤ szL b := by
  induction h with
  | slnil => exact Nat.le_refl _
  | cons v _ ih => rw [szL]; omega
  | cons_cons v _ ih => rw [szL, szL]; omega

theorem nil_or_snoc (l : List VValue) : l = [] ∨ ∃ t v, l = t ++ [v] := by
  rcases List.eq_nil_or_concat l with h | ⟨t, v, h⟩
  · exact .inl h
  · exact .inr ⟨t, v, by rw [h, List.concat_eq_append]⟩

def isSp (v : VValue) : Bool := v.token.kind == 13
/-- Without spaces at the end. -/
def trimB (l : List VValue) : List VValue := (l.reverse.dropWhile isSp).reverse
theorem trimB_nil : trimB [] = [] := rfl
theorem trimB_snoc (t : List VValue) (v : VValue) : trimB (t ++ [v]) = if isSp v then trimB t else t ++ [v] := by
  unfold trimB
  rw [List.reverse_append]
  simp only [List.reverse_cons, List.reverse_nil, List.nil_append, List.cons_append, List.dropWhile_cons]
  split
  · rfl
  · simp
theorem trimB_sub (l : List VValue) : (trimB l).Sublist l := by
  unfold trimB
  have := List.dropWhile_sublist isSp (l := l.reverse)
  simpa using this.reverse
def trimS (l : List VValue) : List VValue := trimB (l.dropWhile isSp)
theorem trimS_sz (l : List VValue) : szL (trimS l) ≤ szL l := szL_sub ((trimB_sub _).trans (List.dropWhile_sublist _))
theorem drop_dw (p : VValue → Bool) : ∀ (l : List VValue), l.drop (l.length - (l.dropWhile p).length) = l.dropWhile p
  | [] => rfl
  | v :: r => by
    rw [List.dropWhile_cons]
    split
    · have h := List.Sublist.length_le (List.dropWhile_sublist p (l := r))
      rw [List.length_cons, Nat.succ_sub h, List.drop_succ_cons]
      exact drop_dw p r
    · simp

theorem ref_trimmed {l : List VValue} (h : szL l ≤ big) : ref04_Trimmed l = some (trimS l) := by
  unfold ref04_Trimmed
  refine (loopK_go (r := .out (l.dropWhile isSp)) (loopF_inv (fun s => s.dropWhile isSp = l.dropWhile isSp) (fun s => s.length) _ (fun s hs => ?_) rfl)).trans ?_
  · cases s with
    | nil => exact .inr (.inl ⟨[], by simp, by rw [← hs]; rfl⟩)
    | cons v t =>
      have h1 : decide (((v :: t).length : Int) > 0) = true := by rw [pos_dec]; simp
      have h2 : geti (v :: t) 0 = some v := rfl
      have h3 : decide ((1 : Int) ≤ ((v :: t).length : Int)) = true := by simp; omega
      rw [List.dropWhile_cons] at hs
      cases hv : isSp v with
      | true =>
        rw [hv] at hs
        unfold isSp at hv
        refine .inl ⟨t, ?_, by simpa using hs, by simp⟩
        simp only [h1, h2, h3, condO_true, bindO, Option.bind_some, hv, cond_true, need_true]
        rfl
      | false =>
        rw [hv] at hs
        unfold isSp at hv
        refine .inr (.inl ⟨v :: t, ?_, by rw [← hs]; rfl⟩)
        simp only [h1, h2, condO_true, bindO, Option.bind_some, hv, cond_true, cond_false]
  · rw [go_out]
    have hd : szL (l.dropWhile isSp) ≤ big := Nat.le_trans (szL_sub (List.dropWhile_sublist _)) h
    unfold trimS
    generalize l.dropWhile isSp = d at hd
    refine (loopK_go (r := .out (trimB d)) (loopF_inv (fun s => trimB s = trimB d ∧ szL s ≤ big) (fun s => s.length) _ (fun s hs => ?_) ⟨rfl, hd⟩)).trans ?_
    · rcases nil_or_snoc s with rfl | ⟨t, v, rfl⟩
      · exact .inr (.inl ⟨[], by simp, by rw [← hs.1]; rfl⟩)
      · have hlen := szL_len (t ++ [v])
        have hl2 : (t ++ [v]).length = t.length + 1 := by simp
        have hb := hs.2
        unfold big at hb
        have h1 : decide (((t ++ [v]).length : Int) > 0) = true := by rw [pos_dec]; simp
        have h4 : w64 (((t ++ [v]).length : Int) - 1) = (t.length : Int) := by rw [w64, wrap64_id (by omega) (by omega)]; omega
        have h2 : geti (t ++ [v]) (t.length : Int) = some v := by rw [geti_eq (by omega)]; simp
        have h3 : (decide ((0 : Int) ≤ (t.length : Int)) && decide ((t.length : Int) ≤ ((t ++ [v]).length : Int))) = true := by simp; omega
        have hs1 := hs.1
        rw [trimB_snoc] at hs1
        cases hv : isSp v with
        | true =>
          rw [if_pos hv] at hs1
          unfold isSp at hv
          refine .inl ⟨t, ?_, ⟨hs1, Nat.le_trans (szL_sub (List.sublist_append_left t [v])) hs.2⟩, by simp⟩
          simp only [h1, h4, h2, h3, condO_true, bindO, Option.bind_some, hv, cond_true, need_true, Int.toNat_natCast]
          simp
        | false =>
          rw [if_neg (by rw [hv]; simp)] at hs1
          unfold isSp at hv
          refine .inr (.inl ⟨t ++ [v], ?_, by rw [← hs1]⟩)
          simp only [h1, h4, h2, condO_true, bindO, Option.bind_some, hv, cond_true, cond_false]
    · rw [go_out]

/-- The error of values. -/
def errS (l : List VValue) : Int := if 16 < deepL l then 20 else if 1500 < (tokL l).length then 4 else if shL l 0 then 0 else 8
theorem ref_check {l : List VValue} (h : szL l ≤ big) : ref04_Check l = some (errS l) := by
  unfold ref04_Check errS
  simp only [bindO, ref_deep h, ref_tokens h, ref_shaped h, Option.bind_some]
  by_cases h1 : 16 < deepL l
  · have : decide ((deepL l : Int) > 16) = true := decide_eq_true (by omega)
    simp [this, h1]
  · have : decide ((deepL l : Int) > 16) = false := decide_eq_false (by omega)
    by_cases h2 : 1500 < (tokL l).length
    · have h3 : decide (((tokL l).length : Int) > 1500) = true := decide_eq_true (by omega)
      simp [this, h1, h2, h3]
    · have h3 : decide (((tokL l).length : Int) > 1500) = false := decide_eq_false (by omega)
      cases h4 : shL l 0 <;> simp [this, h1, h2, h3]
theorem nest_check {l : List VValue} (h : szL l ≤ big) : nest_Check l = some (errS l) := by
  unfold nest_Check errS
  simp only [bindO, nest_look_eq h, Option.bind_some, foundS]
  by_cases h1 : 16 < deepL l
  · have : decide ((deepL l : Int) > 16) = true := decide_eq_true (by omega)
    simp [this, h1]
  · have : decide ((deepL l : Int) > 16) = false := decide_eq_false (by omega)
    by_cases h2 : 1500 < (tokL l).length
    · have h3 : decide (((tokL l).length : Int) > 1500) = true := decide_eq_true (by omega)
      simp [this, h1, h2, h3]
    · have h3 : decide (((tokL l).length : Int) > 1500) = false := decide_eq_false (by omega)
      cases h4 : shL l 0 <;> simp [this, h1, h2, h3]

theorem nest_depth {l : List VValue} (h : szL l ≤ big) : nest_Depth l = some (if errS l = 0 then ((deepL l : Int), 0) else (0, errS l)) := by
  unfold nest_Depth
  simp only [bindO, nest_check h, nest_look_eq h, Option.bind_some, foundS]
  by_cases h1 : errS l = 0
  · simp [h1]
  · have h2 : (errS l != 0) = true := bne_iff_ne.2 h1
    simp [h1, h2]
theorem ref_depth {l : List VValue} (h : szL l ≤ big) : ref04_Depth l = some (if errS l = 0 then ((deepL l : Int), 0) else (0, errS l)) := by
  unfold ref04_Depth
  simp only [bindO, ref_check h, ref_deep h, Option.bind_some]
  by_cases h1 : errS l = 0
  · simp [h1]
  · have h2 : (errS l != 0) = true := bne_iff_ne.2 h1
    simp [h1, h2]

theorem ref_trim {l : List VValue} (h : szL l ≤ big) : ref04_Trim l = some (if errS l = 0 then (trimS l, 0) else ([], errS l)) := by
  unfold ref04_Trim
  simp only [bindO, ref_check h, ref_trimmed h, Option.bind_some]
  by_cases h1 : errS l = 0
  · simp [h1]
  · have h2 : (errS l != 0) = true := bne_iff_ne.2 h1
    simp [h1, h2]

theorem trim1 {l : List VValue} {i : Nat} (h : i < l.length) : nest_Trim_1 ((i : Int), l) = some (isSp l[i]) := by
  unfold nest_Trim_1
  simp only [bindO, geti_eq h, Option.bind_some]
  rfl

theorem nest_trim {l : List VValue} (h : szL l ≤ big) : nest_Trim l = some (if errS l = 0 then (trimS l, 0) else ([], errS l)) := by
  unfold nest_Trim
  have hlen := szL_len l
  simp only [bindO, nest_check h, Option.bind_some]
  by_cases h1 : errS l = 0
  · rw [if_pos h1]
    have hne : (errS l != 0) = false := by simp [h1]
    simp only [hne, cond_false]
    have hdl := List.Sublist.length_le (List.dropWhile_sublist isSp (l := l))
    have hdd := drop_dw isSp l
    refine (loopK_go (r := .out ((l.length - (l.dropWhile isSp).length : Nat) : Int)) (loopF_inv (fun s => ∃ k : Nat, s = (k : Int) ∧ k ≤ l.length ∧ (l.drop k).dropWhile isSp = l.dropWhile isSp) (fun s => l.length - s.toNat) _ (fun s hs => ?_) ⟨0, rfl, Nat.zero_le _, rfl⟩)).trans ?_
    · obtain ⟨k, rfl, hk, he⟩ := hs
      by_cases hlt : k < l.length
      · rw [List.drop_eq_getElem_cons hlt, List.dropWhile_cons] at he
        have hw := w64_succ hlt (by unfold big at h ⊢; omega)
        cases hv : isSp l[k] with
        | true =>
          rw [if_pos hv] at he
          refine .inl ⟨((k + 1 : Nat) : Int), ?_, ⟨k + 1, rfl, hlt, he⟩, by omega⟩
          simp only [lt_true hlt, condO_true, trim1 hlt, Option.bind_some, hv, cond_true, hw]
        | false =>
          rw [if_neg (by rw [hv]; simp)] at he
          refine .inr (.inl ⟨(k : Int), ?_, ?_⟩)
          · simp only [lt_true hlt, condO_true, trim1 hlt, Option.bind_some, hv, cond_true, cond_false]
          · rw [← he]
            congr 1
            simp
            omega
      · have hkk : k = l.length := by omega
        subst hkk
        rw [List.drop_length] at he
        refine .inr (.inl ⟨(l.length : Int), ?_, ?_⟩)
        · simp only [lt_self, condO_false, Option.bind_some, cond_false]
        · rw [← he]; simp
    · rw [go_out]
      generalize hf : l.length - (l.dropWhile isSp).length = f at hdd
      have hfl : f ≤ l.length := by omega
      generalize l.dropWhile isSp = d at hdd
      subst hdd
      refine (loopK_go (r := .out ((f + (trimB (l.drop f)).length : Nat) : Int)) (loopF_inv (fun s => ∃ m : Nat, s = (m : Int) ∧ f ≤ m ∧ m ≤ l.length ∧ trimB ((l.take m).drop f) = trimB (l.drop f)) (fun s => s.toNat) _ (fun s hs => ?_) ⟨l.length, rfl, hfl, Nat.le_refl _, by rw [List.take_length]⟩)).trans ?_
      · obtain ⟨m, rfl, hm1, hm2, he⟩ := hs
        by_cases hlt : f < m
        · have hm : m - 1 < l.length := by omega
          have hsn : (l.take m).drop f = (l.take (m - 1)).drop f ++ [l[m - 1]] := by
            have : l.take m = l.take (m - 1) ++ [l[m - 1]] := by
              have := List.take_succ_eq_append_getElem hm
              rwa [show m - 1 + 1 = m by omega] at this
            rw [this, List.drop_append_of_le_length (by rw [List.length_take]; omega)]
          rw [hsn, trimB_snoc] at he
          have h2 : decide ((f : Int) < (m : Int)) = true := decide_eq_true (by omega)
          have hw : w64 ((m : Int) - 1) = ((m - 1 : Nat) : Int) := by rw [w64, wrap64_id (by omega) (by unfold big at h; omega)]; omega
          cases hv : isSp l[m - 1] with
          | true =>
            rw [if_pos hv] at he
            refine .inl ⟨((m - 1 : Nat) : Int), ?_, ⟨m - 1, rfl, by omega, by omega, he⟩, by omega⟩
            simp only [h2, condO_true, hw, trim1 hm, Option.bind_some, hv, cond_true]
          | false =>
            rw [if_neg (by rw [hv]; simp)] at he
            refine .inr (.inl ⟨(m : Int), ?_, ?_⟩)
            · simp only [h2, condO_true, hw, trim1 hm, Option.bind_some, hv, cond_true, cond_false]
            · rw [← he]
              congr 1
              simp
              omega
        · have hmm : m = f := by omega
          subst hmm
          have h2 : decide ((m : Int) < (m : Int)) = false := decide_eq_false (by omega)
          refine .inr (.inl ⟨(m : Int), ?_, ?_⟩)
          · simp only [h2, condO_false, Option.bind_some, cond_false]
          · rw [List.drop_eq_nil_of_le (by rw [List.length_take]; omega), trimB_nil] at he
            rw [← he]; simp
      · rw [go_out]
        have htl := List.Sublist.length_le (trimB_sub (l.drop f))
        rw [List.length_drop] at htl
        have hcut : List.drop f (List.take (f + (trimB (l.drop f)).length) l) = trimB (l.drop f) := by
          rw [List.drop_take]
          have : ∀ d : List VValue, d.take (trimB d).length = trimB d := by
            intro d
            unfold trimB
            rw [List.length_reverse]
            have h3 := drop_dw isSp d.reverse
            have h4 := List.Sublist.length_le (List.dropWhile_sublist isSp (l := d.reverse))
            rw [List.length_reverse] at h3 h4
            rw [← h3, List.drop_reverse, List.reverse_reverse]
            congr 1
            simp
          have e := this (l.drop f)
          rw [show f + (trimB (l.drop f)).length - f = (trimB (l.drop f)).length by omega]
          exact e
        have hneed : (decide ((0 : Int) ≤ (f : Int)) && (decide ((f : Int) ≤ ((f + (trimB (l.drop f)).length : Nat) : Int)) && (decide (((f + (trimB (l.drop f)).length : Nat) : Int) ≤ ((f + (trimB (l.drop f)).length : Nat) : Int)) && decide (((f + (trimB (l.drop f)).length : Nat) : Int) ≤ (l.length : Int))))) = true := by
          simp only [Bool.and_eq_true, decide_eq_true_eq]; omega
        have hts : trimS l = trimB (l.drop f) := by
          unfold trimS
          rw [← drop_dw isSp l, hf]
        simp only [hneed, need_true, Int.toNat_natCast, hcut, twin_eq (Nat.le_trans (szL_sub ((trimB_sub _).trans (List.drop_sublist _ _))) h), Option.bind_some, hts]
  · rw [if_neg h1]
    have hne : (errS l != 0) = true := by simp [h1]
    simp only [hne, cond_true]
end Go.Lv.VT

namespace Go.Lv.VT

def stepP (k : Int) (a : List (List VValue) × List VValue) (v : VValue) : List (List VValue) × List VValue :=
  if v.token.kind == k then (a.1 ++ [a.2], []) else (a.1, a.2 ++ [v])
def partsF (k : Int) (l : List VValue) : List (List VValue) × List VValue := l.foldl (stepP k) ([], [])
def partsS (k : Int) (l : List VValue) : List (List VValue) := (partsF k l).1 ++ [(partsF k l).2]

theorem partsF_take {k : Int} {l : List VValue} {i : Nat} (h : i < l.length) : partsF k (l.take (i + 1)) = stepP k (partsF k (l.take i)) l[i] := by
  unfold partsF
  rw [List.take_succ_eq_append_getElem h, List.foldl_append]
  rfl

theorem szP_append (a b : List (List VValue)) : szP (a ++ b) = szP a + szP b := by
  induction a with
  | nil => simp [szP]
  | cons x a ih => simp only [List.cons_append, szP, ih]; omega
theorem szL_append (a b : List VValue) : szL (a ++ b) = szL a + szL b := by
  induction a with
  | nil => simp [szL]
  | cons x a ih => simp only [List.cons_append, szL, ih]; omega

/-- How much the parts are. -/
theorem parts_sz (k : Int) : ∀ (l : List VValue) (a : List (List VValue) × List VValue), szP (l.foldl (stepP k) a).1 + szL (l.foldl (stepP k) a).2 ≤ szP a.1 + szL a.2 + szL l ∧ (l.foldl (stepP k) a).1.length ≤ a.1.length + l.length ∧ (l.foldl (stepP k) a).2.length ≤ a.2.length + l.length
  | [], a => by simp [szL]
  | v :: l, a => by
    rw [List.foldl_cons]
    obtain ⟨h1, h2, h3⟩ := parts_sz k l (stepP k a v)
    have hv := szV_eq v
    have : szP (stepP k a v).1 + szL (stepP k a v).2 ≤ szP a.1 + szL a.2 + szV v ∧ (stepP k a v).1.length ≤ a.1.length + 1 ∧ (stepP k a v).2.length ≤ a.2.length + 1 := by
      unfold stepP
      split
      · simp only [szP_append, szP, szL, List.length_append, List.length_cons, List.length_nil]; omega
      · simp only [szL_append, szL, List.length_append, List.length_cons, List.length_nil]; omega
    rw [szL, List.length_cons]
    omega

theorem partsS_sz (k : Int) (l : List VValue) : szP (partsS k l) ≤ szL l + 1 := by
  obtain ⟨h1, _, _⟩ := parts_sz k l ([], [])
  unfold partsS partsF
  rw [szP_append, szP, szP]
  have e1 : szP ([] : List (List VValue)) = 0 := rfl
  have e2 : szL ([] : List VValue) = 0 := rfl
  simp only [e1, e2] at h1
  omega

theorem ref_parts {l : List VValue} {k : Int} (h : szL l ≤ big) : ref04_Parts (l, k) = some (partsS k l) := by
  unfold ref04_Parts
  have hlen := szL_len l
  refine (loopK_oi l (fun i (a : List (List VValue) × List VValue) => ((i : Int), (a.1, ([] : List (List VValue))), a.2)) (fun v a => some (.again (stepP k a v))) (fun a => some (.out ((a.1, ([] : List (List VValue))), a.2))) (fun i a => a.1.length ≤ i ∧ a.2.length ≤ i) (a := ([], [])) rfl (by simp) (fun i a hi hI => ?_) (fun a _ => ?_) (r := .out (((partsF k l).1, []), (partsF k l).2)) ?_)
  · obtain ⟨l1, last⟩ := a
    obtain ⟨hI1, hI2⟩ := hI
    simp only at hI1 hI2
    unfold big at h
    have hw := w64_succ hi (by unfold big; omega)
    refine ⟨?_, fun a' ha => ?_⟩
    · simp only [lt_true hi, cond_true, bindO, geti_eq hi, Option.bind_some, Option.map_some, stepP]
      cases hv : (l[i].token.kind == k) with
      | true =>
        have hap : appOk (l1 ++ List.cons last []).length (0 + 1 + 0) 24 = true := appOk_of (by simp; omega)
        simp only [cond_true, hap, need_true, joinK_out, hw, if_true, List.append_nil]
      | false =>
        have hl0 : ([] : List (List VValue)).length = 0 := rfl
        have hn : w64 (((l1.length + 1 + ([] : List (List VValue)).length : Nat) : Int) - 1) = (l1.length : Int) := by rw [w64, wrap64_id (by omega) (by omega)]; omega
        have hb : (decide ((0 : Int) ≤ (l1.length : Int)) && decide ((l1.length : Int) < ((l1.length + 1 + ([] : List (List VValue)).length : Nat) : Int))) = true := by
          simp only [Bool.and_eq_true, decide_eq_true_eq]; omega
        have hbq : Nat.beq l1.length l1.length = true := Nat.beq_refl _
        have hap : appOk last.length 1 80 = true := appOk_of (by omega)
        have hb2 : ∀ z : VValue, (decide ((0 : Int) ≤ (last.length : Int)) && decide ((last.length : Int) < ((last ++ [z]).length : Int))) = true := by
          intro z; simp; omega
        have hz : ∀ z : VValue, (last ++ [z])[last.length]? = some z := by intro z; simp
        have hset : ∀ z u : VValue, (last ++ [z]).set last.length u = last ++ [u] := by intro z u; simp
        have he : ∀ u : VValue, (⟨u.token, u.list⟩ : VValue) = u := fun u => by cases u; rfl
        simp only [cond_false, hn, hb, need_true, Int.toNat_natCast, hbq, hap, hb2, hz, hset, he, Option.bind_some, both_self, joinK_out, hw, if_false, Bool.false_eq_true]
    · cases ha
      unfold stepP
      split
      · simp; omega
      · simp; omega
  · simp only [lt_self, cond_false]
    rfl
  · rw [overL_fold (fun a v => stepP k a v) (fun v a => rfl)]
    rfl

theorem ref_split {l : List VValue} {k : Int} (h : szL l ≤ big) : ref04_Split (l, k) = some (if errS l = 0 then (if k < 1 ∨ 24 < k then ([], 2) else (partsS k l, 0)) else ([], errS l)) := by
  unfold ref04_Split
  simp only [bindO, ref_check h, ref_parts h, Option.bind_some]
  by_cases h1 : errS l = 0
  · by_cases h2 : k < 1
    · simp [h1, h2]
    · by_cases h3 : 24 < k
      · simp [h1, h2, h3]
      · simp [h1, h2, h3]
  · have h2 : (errS l != 0) = true := bne_iff_ne.2 h1
    simp [h1, h2]

theorem nest_split {l : List VValue} {k : Int} (h : szL l ≤ big) : nest_Split (l, k) = some (if errS l = 0 then (if k < 1 ∨ 24 < k then ([], 2) else (partsS k l, 0)) else ([], errS l)) := by
  unfold nest_Split
  have hlen := szL_len l
  simp only [bindO, nest_check h, Option.bind_some]
  by_cases h1 : errS l = 0
  · have hne : (errS l != 0) = false := by simp [h1]
    rw [if_pos h1]
    simp only [hne, cond_false, cond_or]
    by_cases h2 : k < 1 ∨ 24 < k
    · have : (decide (k < 1) || decide (k > 24)) = true := by simpa using h2
      rw [if_pos h2, this]
      rfl
    · have : (decide (k < 1) || decide (k > 24)) = false := by
        rw [Bool.or_eq_false_iff]
        exact ⟨decide_eq_false (by omega), decide_eq_false (by omega)⟩
      rw [if_neg h2, this]
      simp only [cond_false]
      refine (loopK_go (r := .out (((l.length - (partsF k l).2.length : Nat) : Int), (partsF k l).1)) (loopF_inv (fun s => ∃ i from_ : Nat, s = (((from_ : Int), (i : Int)), (partsF k (l.take i)).1) ∧ from_ ≤ i ∧ i ≤ l.length ∧ (partsF k (l.take i)).2 = (l.take i).drop from_) (fun s => l.length - s.1.2.toNat) _ (fun s hs => ?_) ⟨0, 0, by simp [partsF], Nat.le_refl _, Nat.zero_le _, by simp [partsF]⟩)).trans ?_
      · obtain ⟨i, fr, rfl, hfi, hil, he⟩ := hs
        by_cases hi : i < l.length
        · refine .inl ?_
          have hw := w64_succ hi (by unfold big at h ⊢; omega)
          have hpt := partsF_take (k := k) hi
          have htk : l.take (i + 1) = l.take i ++ [l[i]] := List.take_succ_eq_append_getElem hi
          unfold stepP at hpt
          simp only [lt_true hi, cond_true, geti_eq hi, Option.bind_some]
          cases hv : (l[i].token.kind == k) with
          | true =>
            rw [if_pos hv] at hpt
            have hn : (decide ((0 : Int) ≤ (fr : Int)) && (decide ((fr : Int) ≤ (i : Int)) && (decide ((i : Int) ≤ (i : Int)) && decide ((i : Int) ≤ (l.length : Int))))) = true := by
              simp only [Bool.and_eq_true, decide_eq_true_eq]; omega
            have hsz : szL (List.drop fr (List.take i l)) ≤ big := Nat.le_trans (szL_sub ((List.drop_sublist _ _).trans (List.take_sublist _ _))) h
            have hpl := (parts_sz k (l.take i) ([], [])).2.1
            have hap : appOk (partsF k (l.take i)).1.length 1 24 = true := appOk_of (by
              unfold partsF
              have := List.length_take_le i l
              unfold big at h
              simp only [List.length_nil] at hpl
              omega)
            refine ⟨((((i + 1 : Nat) : Int), ((i + 1 : Nat) : Int)), (partsF k (l.take (i + 1))).1), ?_, ⟨i + 1, i + 1, rfl, Nat.le_refl _, hi, ?_⟩, ?_⟩
            · simp only [cond_true, hn, need_true, Int.toNat_natCast, twin_eq hsz, Option.bind_some, hap, hw, joinK_out, hpt, he]
            · rw [hpt]
              simp
            · simp only [Int.toNat_natCast]; omega
          | false =>
            rw [if_neg (by rw [hv]; simp)] at hpt
            refine ⟨(((fr : Int), ((i + 1 : Nat) : Int)), (partsF k (l.take (i + 1))).1), ?_, ⟨i + 1, fr, rfl, by omega, hi, ?_⟩, ?_⟩
            · simp only [cond_false, joinK_out, hw, hpt]
            · rw [hpt, htk, he, List.drop_append_of_le_length (by rw [List.length_take]; omega)]
            · simp only [Int.toNat_natCast]; omega
        · have hil : i = l.length := by omega
          subst hil
          rw [List.take_length] at he ⊢
          refine .inr (.inl ⟨((fr : Int), (partsF k l).1), by simp only [lt_self, cond_false], ?_⟩)
          rw [he, List.length_drop]
          congr 2
          omega
      · rw [go_out]
        -- the last part is behind
        have key : ∀ (m : List VValue) (a : List (List VValue) × List VValue) (p : List VValue), a.2 <:+ p → (m.foldl (stepP k) a).2 <:+ p ++ m := by
          intro m
          induction m with
          | nil => intro a p h; simpa using h
          | cons v m ih =>
            intro a p h
            rw [List.foldl_cons]
            have : (stepP k a v).2 <:+ p ++ [v] := by
              unfold stepP
              split
              · exact List.nil_suffix
              · obtain ⟨q, hq⟩ := h
                exact ⟨q, by rw [← hq, List.append_assoc]⟩
            have := ih _ _ this
            rwa [List.append_assoc] at this
        have hsuf := key l ([], []) [] (List.suffix_refl _)
        rw [List.nil_append] at hsuf
        have hdr : List.drop (l.length - (partsF k l).2.length) l = (partsF k l).2 := by
          unfold partsF
          exact (List.suffix_iff_eq_drop.1 hsuf).symm
        have hsz : szL (partsF k l).2 ≤ big := by
          have := szL_sub hsuf.sublist
          unfold partsF
          omega
        have hle : (partsF k l).2.length ≤ l.length := by unfold partsF; exact hsuf.length_le
        have hn : (decide ((0 : Int) ≤ ((l.length - (partsF k l).2.length : Nat) : Int)) && decide (((l.length - (partsF k l).2.length : Nat) : Int) ≤ (l.length : Int))) = true := by
          simp only [Bool.and_eq_true, decide_eq_true_eq]; omega
        have hpl := (parts_sz k l ([], [])).2.1
        have hap : appOk (partsF k l).1.length 1 24 = true := appOk_of (by
          unfold partsF
          unfold big at h
          simp only [List.length_nil] at hpl
          omega)
        simp only [hn, need_true, Int.toNat_natCast, hdr, twin_eq hsz, Option.bind_some, hap]
        rfl
  · have h2 : (errS l != 0) = true := bne_iff_ne.2 h1
    rw [if_neg h1]
    simp only [h2, cond_true]

theorem law_NestParts {l : List VValue} {k : Int} (h : szL l ≤ 2097152) : law04_NestParts (l, k) = some true := by
  unfold law04_NestParts
  have hb : szL l ≤ big := by unfold big; omega
  have hg : ∃ b, ref04_Great l = some b := by
    unfold ref04_Great
    simp only [bindO, ref_size hb (m := 300) (by omega), ref_deep hb, Option.bind_some]
    cases decide (sizeL l 300 0 > 300) <;> exact ⟨_, rfl⟩
  obtain ⟨b, hg⟩ := hg
  have hp := partsS_sz k l
  have h1 : ref04_Same (trimS l, trimS l) = some true := ref_same (Nat.le_trans (trimS_sz l) hb)
  have h2 : ref04_SameParts (partsS k l, partsS k l) = some true := ref_sameParts (by unfold big; omega)
  have h3 : ref04_Same (([] : List VValue), []) = some true := ref_same (by simp [szL, big])
  have h4 : ref04_SameParts (([] : List (List VValue)), []) = some true := ref_sameParts (by simp [szP, big])
  simp only [bindO, hg, Option.bind_some]
  cases b with
  | true => rfl
  | false =>
    simp only [cond_false, nest_depth hb, ref_depth hb, nest_trim hb, ref_trim hb, nest_split hb, ref_split hb, nest_check hb, ref_check hb, Option.bind_some]
    by_cases he : errS l = 0
    · by_cases hk : k < 1 ∨ 24 < k
      · simp [he, hk, h1, h4]
      · simp [he, hk, h1, h2]
    · simp [he, h3, h4]
end Go.Lv.VT
