/- Media queries: the program's and the reference's reading. -/
import Derived.Test.YtnfhfeipljhciaaGreatLay
import Derived.Test.YtnfhfeipljhciaaGreatLax
namespace Go.Lv.VT
theorem cuts_sub (k : Int) : ∀ (l : List VValue) (a : List (List VValue) × List VValue) (pre : List VValue), (∀ p ∈ a.1, p.Sublist pre) → a.2.Sublist pre →
    (∀ p ∈ (l.foldl (cutsP k) a).1, p.Sublist (pre ++ l)) ∧ (l.foldl (cutsP k) a).2.Sublist (pre ++ l)
  | [], a, pre, h1, h2 => by rw [List.append_nil]; exact ⟨h1, h2⟩
  | v :: l, a, pre, h1, h2 => by
    have e : pre ++ v :: l = (pre ++ [v]) ++ l := by simp
    rw [List.foldl_cons, e]
    refine cuts_sub k l _ _ ?_ ?_
    · intro p hp
      unfold cutsP at hp
      split at hp
      · rw [List.mem_append] at hp
        rcases hp with hp | hp
        · exact (h1 p hp).trans (List.sublist_append_left _ _)
        · rw [List.mem_singleton] at hp; subst hp; exact h2.trans (List.sublist_append_left _ _)
      · exact (h1 p hp).trans (List.sublist_append_left _ _)
    · unfold cutsP
      split
      · exact List.nil_sublist _
      · exact List.Sublist.append h2 (List.Sublist.refl _)
theorem cutsS_sub {k : Int} {l p : List VValue} (h : p ∈ cutsS k l) : p.Sublist l := by
  obtain ⟨h1, h2⟩ := cuts_sub k l ([], []) [] (by intro p hp; cases hp) (List.Sublist.refl _)
  rw [List.nil_append] at h1 h2
  unfold cutsS at h
  rw [List.mem_append] at h
  rcases h with h | h
  · exact h1 p h
  · rw [List.mem_singleton] at h; subst h; exact h2
theorem cutsS_len (k : Int) (l : List VValue) : (cutsS k l).length ≤ l.length + 1 := by
  obtain ⟨_, h, _⟩ := parts_sz k l ([], [])
  unfold cutsS cutsF
  simp only [List.length_append, List.length_cons, List.length_nil] at *
  omega
theorem zL_two : ∀ l : List VValue, 2 * l.length ≤ zL enc_VValue l
  | [] => by simp
  | v :: l => by
    have := zL_two l
    have := zValue_eq v
    rw [zL_cons, List.length_cons]
    omega
theorem sp_all : ∀ {l : List VValue}, sp l = [] → ∀ v ∈ l, isSp v = true
  | [], _, v, h => by cases h
  | a :: l, hs, v, h => by
    rw [sp_cons] at hs
    cases ha : isSp a with
    | false => rw [ha, if_neg (by simp)] at hs; cases hs
    | true =>
      rw [ha, if_pos rfl] at hs
      rcases List.mem_cons.1 h with rfl | h
      · exact ha
      · exact sp_all hs v h
theorem cuts_one : ∀ (l : List VValue) (b : List VValue), (∀ v ∈ l, isSp v = true) → (l.foldl (cutsP 18) ([], b)).1 = []
  | [], b, _ => rfl
  | v :: l, b, h => by
    have hv := h v List.mem_cons_self
    unfold isSp at hv
    have e : (v.token.kind == 18) = false := by
      rw [beq_iff_eq] at hv; rw [hv]; rfl
    rw [List.foldl_cons, cutsP, e, if_neg (by simp)]
    exact cuts_one l _ fun w hw => h w (List.mem_cons_of_mem _ hw)
theorem cutsS_sp {l : List VValue} (h : sp l = []) : (cutsS 18 l).length = 1 := by
  unfold cutsS cutsF
  rw [cuts_one l [] (sp_all h)]
  rfl
theorem trimS_nil {l : List VValue} : (trimS l = []) ↔ sp l = [] := by
  constructor
  · intro h
    obtain ⟨s, h1, h2⟩ := trimB_split (sp l)
    have h : trimB (sp l) = [] := h
    rw [h, List.nil_append] at h1
    rw [← sp_idem, h1, h2]
  · intro h
    show trimB (sp l) = []
    rw [h]; rfl

def askedS (x : List VValue) : VCond := ⟨2, [], 0, noD, (cutsS 18 x).map fun p => orN (queryQ p)⟩
def nilC : VCond := ⟨0, [], 0, noD, []⟩
def mediaS (x : List VValue) : VCond × Int :=
  if errS x = 0 then (if sp x = [] then (allC [], 0) else if 64 < (cutsS 18 x).length then (nilC, 4) else (askedS x, 0)) else (nilC, errS x)

theorem Media_eq {x : List VValue} (hz : zL enc_VValue x ≤ big) : cond_Media x = some (mediaS x) := by
  unfold cond_Media mediaS
  have hsz := szL_zL x
  simp only [nest_split (show szL x ≤ big by omega), bindO, Option.bind_some]
  by_cases he : errS x = 0
  · have hn : ¬((18 : Int) < 1 ∨ (24 : Int) < 18) := by decide
    have e0 : ((0 : Int) != 0) = false := rfl
    simp only [if_pos he, if_neg hn, e0, cond_false, rd_spaces, Option.bind_some]
    have hP := cutsS_len 18 x
    have hx2 := zL_two x
    have hb2 : 2 ≤ big := by unfold big; omega
    have hmem : ∀ p ∈ cutsS 18 x, zL enc_VValue p ≤ big := fun p hp => Nat.le_trans (zL_sub (cutsS_sub hp)) hz
    have hone : sp x = [] → (cutsS 18 x).length = 1 := cutsS_sp
    generalize hPe : cutsS 18 x = P at *
    have key : (bif decide ((P.length : Int) > 64) then some ((⟨0, [], 0, (⟨[], [], false⟩ : VDecl), []⟩ : VCond), (4 : Int)) else
        loopK (fun (s4 : Int × (Int × Str × Int × Str × Bool) × List VCond) =>
          bif decide (s4.1 < (P.length : Int)) then
            (geti P s4.1).bind fun y5 =>
            (cond_reader_query (⟨y5⟩ : Vcond_reader)).bind fun y6 =>
            joinK (X := (Int × Str × Int × Str × Bool) × List VCond × VCond) (
                bif !y6.1.2 then
                  some (LX.out ((s4.2.1.1, s4.2.1.2.1, s4.2.1.2.2.1, s4.2.1.2.2.2.1, s4.2.1.2.2.2.2), s4.2.2, (⟨3, [], 0, (⟨[], [], false⟩ : VDecl), [(⟨1, [], 0, (⟨[], [], false⟩ : VDecl), [(⟨4, [97, 108, 108], 0, (⟨[], [], false⟩ : VDecl), []⟩ : VCond)]⟩ : VCond)]⟩ : VCond)))
                else
                  some (LX.out ((s4.2.1.1, s4.2.1.2.1, s4.2.1.2.2.1, s4.2.1.2.2.2.1, s4.2.1.2.2.2.2), s4.2.2, (⟨y6.1.1.kind, y6.1.1.name, y6.1.1.num, y6.1.1.decl, y6.1.1.list⟩ : VCond)))) fun j7 =>
            need (appOk j7.2.1.length 1 104) <|
            some (LO.again (w64 (s4.1 + 1), (j7.1.1, j7.1.2.1, j7.1.2.2.1, j7.1.2.2.2.1, j7.1.2.2.2.2), j7.2.1 ++ [(⟨j7.2.2.kind, j7.2.2.name, j7.2.2.num, j7.2.2.decl, j7.2.2.list⟩ : VCond)]))
          else
            some (LO.out ((s4.2.1.1, s4.2.1.2.1, s4.2.1.2.2.1, s4.2.1.2.2.2.1, s4.2.1.2.2.2.2), s4.2.2)) : Int × (Int × Str × Int × Str × Bool) × List VCond → Option (LO (Int × (Int × Str × Int × Str × Bool) × List VCond) ((Int × Str × Int × Str × Bool) × List VCond) (VCond × Int))) (0, (2, [], 0, [], false), []) fun o8 =>
        some ((⟨o8.1.1, o8.1.2.1, o8.1.2.2.1, (⟨o8.1.2.2.2.1, [], o8.1.2.2.2.2⟩ : VDecl), o8.2⟩ : VCond), (0 : Int))) = some (if 64 < P.length then (nilC, 4) else (⟨2, [], 0, noD, P.map fun p => orN (queryQ p)⟩, 0)) := by
      by_cases h64 : 64 < P.length
      · have e : decide ((P.length : Int) > 64) = true := decide_eq_true (by omega)
        rw [e, if_pos h64]; rfl
      · have e : decide ((P.length : Int) > 64) = false := decide_eq_false (by omega)
        rw [e, if_neg h64, cond_false]
        refine (loop_fold P (fun (_ : Unit) _ => ()) (fun _ i => ((i : Int), (2, [], 0, [], false), (P.take i).map fun p => orN (queryQ p))) (fun _ => ((2, [], 0, [], false), P.map fun p => orN (queryQ p))) (a0 := ()) rfl ?_ ?_).trans rfl
        · intro i _ h
          have hap : appOk ((P.take i).map fun p => orN (queryQ p)).length 1 104 = true := by
            refine appOk_of ?_
            rw [List.length_map, List.length_take]
            omega
          obtain ⟨⟨⟨c, b⟩, rd⟩, g1, g2, g3⟩ := rd_query (hmem _ (List.getElem_mem h))
          have hc : (bif b then c else neverC) = orN (queryQ P[i]) := by
            cases hq : queryQ P[i] with
            | none =>
              rw [hq] at g2
              obtain rfl : b = false := g2
              rfl
            | some z =>
              rw [hq] at g2
              obtain rfl : b = true := g2
              exact g3 z hq
          have ht : (P.take (i + 1)).map (fun p => orN (queryQ p)) = (P.take i).map (fun p => orN (queryQ p)) ++ [bif b then c else neverC] := by
            rw [List.take_succ_eq_append_getElem h, List.map_append, hc]; rfl
          simp only [lt_true h, cond_true, geti_eq h, Option.bind_some, g1, ht]
          cases b with
          | false => simp only [Bool.not_false, cond_true, joinK_out, hap, need_true, w64_succ h (show P.length ≤ big by omega)]; rfl
          | true => simp only [Bool.not_true, cond_false, cond_true, joinK_out, hap, need_true, w64_succ h (show P.length ≤ big by omega), eta_Cond]
        · intro _
          simp only [lt_self, cond_false, List.take_length]
    have hl0 : (((sp x).length : Int) == 0) = decide (sp x = []) := by
      cases sp x with
      | nil => rfl
      | cons a r =>
        have : (((a :: r).length : Int) == 0) = false := beq_eq_false_iff_ne.2 (by simp only [List.length_cons]; omega)
        rw [this]; rfl
    have h1 : ((P.length : Int) == 1) = decide (P.length = 1) := by
      by_cases h : P.length = 1
      · rw [decide_eq_true h, h]; rfl
      · rw [decide_eq_false h]; exact beq_eq_false_iff_ne.2 (by omega)
    simp only [hl0, h1]
    have haske : askedS x = ⟨2, [], 0, noD, P.map fun p => orN (queryQ p)⟩ := by unfold askedS; rw [hPe]
    rw [haske]
    by_cases hs : sp x = []
    · have e1 := decide_eq_true (hone hs)
      have e2 := decide_eq_true hs
      simp only [e1, e2, cond_true, joinK_ret, if_pos hs]
      rfl
    · have e2 := decide_eq_false hs
      simp only [e2, cond_false, if_neg hs]
      cases decide (P.length = 1) with
      | true => exact key
      | false => exact key
  · have e0 : (errS x != 0) = true := bne_iff_ne.2 he
    simp only [if_neg he, e0, cond_true]
    rfl
theorem rMedia_eq {x : List VValue} (hz : zL enc_VValue x ≤ big) : ref10_Media x = some (mediaS x) := by
  unfold ref10_Media mediaS
  have hsz := szL_zL x
  simp only [ref_check (show szL x ≤ big by omega), bindO, Option.bind_some, eta_Cond]
  by_cases he : errS x = 0
  · have e0 : ((0 : Int) != 0) = false := rfl
    simp only [he, e0, cond_false, if_true]
    have hP := cutsS_len 18 x
    have hx2 := zL_two x
    have hb2 : 2 ≤ big := by unfold big; omega
    have hmem : ∀ p ∈ cutsS 18 x, zL enc_VValue p ≤ big := fun p hp => Nat.le_trans (zL_sub (cutsS_sub hp)) hz
    have hA : ref10_Asked x = some (if sp x = [] then (allC [], true) else (askedS x, decide ((cutsS 18 x).length ≤ 64))) := by
      unfold ref10_Asked askedS
      simp only [ref_trimmed (show szL x ≤ big by omega), bindO, Option.bind_some, ref_parts (k := 18) (show szL x ≤ big by omega)]
      generalize cutsS 18 x = P at *
      have hl0 : (((trimS x).length : Int) == 0) = decide (sp x = []) := by
        by_cases hs : sp x = []
        · rw [decide_eq_true hs, trimS_nil.2 hs]; rfl
        · rw [decide_eq_false hs]
          have : trimS x ≠ [] := fun h => hs (trimS_nil.1 h)
          refine beq_eq_false_iff_ne.2 ?_
          intro h0
          exact this (List.length_eq_zero_iff.1 (by omega))
      rw [hl0]
      by_cases hs : sp x = []
      · rw [decide_eq_true hs, if_pos hs]; rfl
      · rw [decide_eq_false hs, if_neg hs, cond_false]
        refine (loop_fold P (fun (_ : Unit) _ => ()) (fun _ i => ((i : Int), (2, [], 0, [], false), (P.take i).map fun p => orN (queryQ p))) (fun _ => ((2, [], 0, [], false), P.map fun p => orN (queryQ p))) (a0 := ()) rfl ?_ ?_).trans ?_
        · intro i _ h
          have hap : appOk ((P.take i).map fun p => orN (queryQ p)).length 1 104 = true := by
            refine appOk_of ?_
            rw [List.length_map, List.length_take]
            unfold big at *
            omega
          have ht : (P.take (i + 1)).map (fun p => orN (queryQ p)) = (P.take i).map (fun p => orN (queryQ p)) ++ [orN (queryQ P[i])] := by
            rw [List.take_succ_eq_append_getElem h, List.map_append]; rfl
          simp only [lt_true h, cond_true, geti_eq h, Option.bind_some, rf_asked (hmem _ (List.getElem_mem h)), ht, hap, need_true, w64_succ h (show P.length ≤ big by omega), eta_Cond]
        · intro _
          simp only [lt_self, cond_false, List.take_length]
        · have : decide ((P.length : Int) ≤ 64) = decide (P.length ≤ 64) := by
            by_cases h : P.length ≤ 64
            · rw [decide_eq_true h]; exact decide_eq_true (by omega)
            · rw [decide_eq_false h]; exact decide_eq_false (by omega)
          simp only [this]
          rfl
    rw [hA]
    simp only [Option.bind_some]
    by_cases hs : sp x = []
    · simp only [if_pos hs, Bool.not_true, cond_false]
    · simp only [if_neg hs]
      by_cases h64 : 64 < (cutsS 18 x).length
      · have e := decide_eq_false (show ¬(cutsS 18 x).length ≤ 64 by omega)
        simp only [e, if_pos h64, Bool.not_false, cond_true]
        rfl
      · have e := decide_eq_true (show (cutsS 18 x).length ≤ 64 by omega)
        simp only [e, if_neg h64, Bool.not_true, cond_false]
  · have e0 : (errS x != 0) = true := bne_iff_ne.2 he
    simp only [if_neg he, e0, cond_true]
    rfl
end Go.Lv.VT

namespace Go.Lv.VT
theorem shV_zero {v : VValue} {c : Int} (h : shV v c = true) : shV v 0 = true := by
  rw [shV_eq] at h ⊢
  have e : ((0 : Int) != 0) = false := rfl
  rw [e]
  cases h1 : (closerS v.token.kind == 0 && decide (0 < v.list.length)) with
  | true => rw [h1] at h; cases h
  | false =>
    rw [h1] at h
    cases h2 : (closerS v.token.kind != 0 && !(shL v.list (closerS v.token.kind))) with
    | true => rw [h2] at h; simp at h
    | false => rfl
theorem shL_zero {c : Int} : ∀ {l : List VValue}, shL l c = true → shL l 0 = true
  | [], _ => by rw [shL]
  | v :: r, h => by
    rw [shL, Bool.and_eq_true] at h ⊢
    exact ⟨shV_zero h.1, shL_zero h.2⟩
theorem shL_mem {c : Int} {v : VValue} : ∀ {l : List VValue}, shL l c = true → v ∈ l → shV v c = true
  | [], _, h => by cases h
  | w :: r, h, hv => by
    rw [shL, Bool.and_eq_true] at h
    rcases List.mem_cons.1 hv with rfl | hv
    · exact h.1
    · exact shL_mem h.2 hv
theorem deepL_mem {v : VValue} : ∀ {l : List VValue}, v ∈ l → deepV v ≤ deepL l
  | [], h => by cases h
  | w :: r, h => by
    rw [deepL]
    rcases List.mem_cons.1 h with rfl | h
    · omega
    · have := deepL_mem h; omega
theorem tokL_memv {v : VValue} : ∀ {l : List VValue}, v ∈ l → (tokV v).length ≤ (tokL l).length
  | [], h => by cases h
  | w :: r, h => by
    rw [tokL, List.length_append]
    rcases List.mem_cons.1 h with rfl | h
    · omega
    · have := tokL_memv h; omega
theorem errS_zero {l : List VValue} : errS l = 0 ↔ deepL l ≤ 16 ∧ (tokL l).length ≤ 1500 ∧ shL l 0 = true := by
  unfold errS
  by_cases h1 : 16 < deepL l
  · rw [if_pos h1]; constructor
    · intro h; cases h
    · rintro ⟨h, _⟩; omega
  rw [if_neg h1]
  by_cases h2 : 1500 < (tokL l).length
  · rw [if_pos h2]; constructor
    · intro h; cases h
    · rintro ⟨_, h, _⟩; omega
  rw [if_neg h2]
  cases shL l 0 with
  | true => simp; omega
  | false => simp
theorem errS_in {l : List VValue} (h : errS l = 0) {a : VValue} (ha : a ∈ l) (hk : (a.token.kind == 21) = true) : errS a.list = 0 := by
  rw [beq_iff_eq] at hk
  rw [errS_zero] at h ⊢
  obtain ⟨h1, h2, h3⟩ := h
  have c : closerS a.token.kind = 22 := by rw [hk]; rfl
  have d := deepL_mem ha
  have t := tokL_memv ha
  have s := shL_mem h3 ha
  rw [deepV_eq, c, if_neg (by decide)] at d
  rw [tokV_eq, c, if_neg (by decide)] at t
  simp only [List.length_cons, List.length_append, List.length_nil] at t
  rw [shV_eq, c] at s
  refine ⟨by omega, by omega, shL_zero (c := 22) ?_⟩
  cases hs : shL a.list 22 with
  | true => rfl
  | false => rw [hs] at s; simp at s

def declC (d : VDecl) : VCond := ⟨7, [], 0, d, []⟩
def otherC : VCond := ⟨8, [], 0, noD, []⟩
def termF (f : List VValue → Option VCond) (a : VValue) : Option VCond :=
  bif a.token.kind == 2 then some otherC else bif a.token.kind == 21 then (match oneS a.list with
    | some d => some (declC d)
    | none => match f a.list with
      | some c => some c
      | none => some otherC) else none
def headT (f : List VValue → Option VCond) (l : List VValue) : Option VCond := match l with
  | [] => none
  | a :: _ => termF f a
def moreN (f : List VValue → Option VCond) (op : Str) : Nat → Bool → List VValue → Option (List VCond)
  | 0, _, _ => none
  | n + 1, flag, l => match l with
    | [] => some []
    | a :: r => bif flag && (isW op a && decide ((sp r).length < r.length)) then (match sp r with
      | [] => none
      | b :: r' => match termF f b with
        | none => none
        | some x => (moreN f op n (decide ((sp r').length < r'.length)) (sp r')).map (x :: ·)) else none
def moreS (f : List VValue → Option VCond) (op : Str) (flag : Bool) (l : List VValue) : Option (List VCond) := moreN f op (l.length + 1) flag l
theorem moreN_stable (f : List VValue → Option VCond) (op : Str) : ∀ {n m : Nat} {flag : Bool} {l : List VValue}, l.length < n → l.length < m → moreN f op n flag l = moreN f op m flag l
  | 0, _, _, _, h, _ => by omega
  | _, 0, _, _, _, h => by omega
  | n + 1, m + 1, flag, l, h1, h2 => by
    cases l with
    | nil => rfl
    | cons a r =>
      unfold moreN
      simp only
      cases flag && (isW op a && decide ((sp r).length < r.length)) with
      | false => rfl
      | true =>
        simp only [cond_true]
        cases hs : sp r with
        | nil => rfl
        | cons b r' =>
          have hl := sp_len r
          have hl2 := sp_len r'
          rw [hs, List.length_cons] at hl
          rw [List.length_cons] at h1 h2
          simp only
          cases termF f b with
          | none => rfl
          | some x => rw [moreN_stable f op (n := n) (m := m) (by omega) (by omega)]
theorem moreN_cons (f : List VValue → Option VCond) (op : Str) (n : Nat) (flag : Bool) (a : VValue) (r : List VValue) : moreN f op (n + 1) flag (a :: r) =
    bif flag && (isW op a && decide ((sp r).length < r.length)) then (match sp r with
      | [] => none
      | b :: r' => match termF f b with
        | none => none
        | some x => (moreN f op n (decide ((sp r').length < r'.length)) (sp r')).map (x :: ·)) else none := rfl
theorem moreS_nil (f : List VValue → Option VCond) (op : Str) (flag : Bool) : moreS f op flag [] = some [] := rfl
theorem moreS_cons (f : List VValue → Option VCond) (op : Str) (flag : Bool) (a : VValue) (r : List VValue) : moreS f op flag (a :: r) =
    bif flag && (isW op a && decide ((sp r).length < r.length)) then (match sp r with
      | [] => none
      | b :: r' => match termF f b with
        | none => none
        | some x => (moreS f op (decide ((sp r').length < r'.length)) (sp r')).map (x :: ·)) else none := by
  unfold moreS
  rw [moreN_cons]
  cases flag && (isW op a && decide ((sp r).length < r.length)) with
  | false => rfl
  | true =>
    simp only [cond_true]
    cases hs : sp r with
    | nil => rfl
    | cons b r' =>
      have hl := sp_len r
      have hl2 := sp_len r'
      rw [hs, List.length_cons] at hl
      simp only
      cases termF f b with
      | none => rfl
      | some x => rw [moreN_stable f op (n := (a :: r).length) (m := (sp r').length + 1) (by rw [List.length_cons]; omega) (by omega)]
def orC (l : List VCond) : VCond := ⟨2, [], 0, noD, l⟩
def toldB (f : List VValue → Option VCond) (l : List VValue) : Option VCond := match sp l with
  | [] => none
  | a :: r => bif isW notW a then (bif decide ((sp r).length < r.length) && (sp (sp r).tail).isEmpty then (headT f (sp r)).map notC else none) else
    match termF f a with
    | none => none
    | some x => match sp r with
      | [] => some x
      | w :: t => bif isW orW w then (moreS f orW (decide ((sp r).length < r.length)) (w :: t)).map fun q => orC (x :: q)
        else (moreS f andW (decide ((sp r).length < r.length)) (w :: t)).map fun q => allC (x :: q)
theorem termF_congr {f g : List VValue → Option VCond} {a : VValue} (h : f a.list = g a.list) : termF f a = termF g a := by
  unfold termF; rw [h]
theorem moreN_congr {f g : List VValue → Option VCond} (op : Str) : ∀ {n : Nat} {flag : Bool} {l : List VValue}, (∀ a ∈ l, f a.list = g a.list) → moreN f op n flag l = moreN g op n flag l
  | 0, _, _, _ => rfl
  | n + 1, flag, [], _ => rfl
  | n + 1, flag, a :: r, h => by
    have hr : ∀ b ∈ sp r, f b.list = g b.list := fun b hb => h b (List.mem_cons_of_mem _ ((sp_sub r).subset hb))
    unfold moreN
    simp only
    cases flag && (isW op a && decide ((sp r).length < r.length)) with
    | false => rfl
    | true =>
      simp only [cond_true]
      cases hs : sp r with
      | nil => rfl
      | cons b r' =>
        rw [hs] at hr
        have hr' : ∀ b ∈ sp r', f b.list = g b.list := fun b hb => hr b (List.mem_cons_of_mem _ ((sp_sub r').subset hb))
        simp only
        rw [termF_congr (hr b List.mem_cons_self), moreN_congr op hr']
theorem toldB_congr {f g : List VValue → Option VCond} {l : List VValue} (h : ∀ a ∈ l, f a.list = g a.list) : toldB f l = toldB g l := by
  have h0 : ∀ a ∈ sp l, f a.list = g a.list := fun a ha => h a ((sp_sub l).subset ha)
  unfold toldB
  cases hs : sp l with
  | nil => rfl
  | cons a r =>
    rw [hs] at h0
    have hr : ∀ b ∈ sp r, f b.list = g b.list := fun b hb => h0 b (List.mem_cons_of_mem _ ((sp_sub r).subset hb))
    have hh : headT f (sp r) = headT g (sp r) := by
      cases hs2 : sp r with
      | nil => rfl
      | cons b t => exact termF_congr (hr b (by rw [hs2]; exact List.mem_cons_self))
    simp only
    rw [hh, termF_congr (h0 a List.mem_cons_self)]
    cases hs2 : sp r with
    | nil => rfl
    | cons w t =>
      rw [hs2] at hr
      simp only [moreS, moreN_congr _ hr]
def toldN : Nat → List VValue → Option VCond
  | 0, _ => none
  | n + 1, l => toldB (toldN n) l
def toldS (l : List VValue) : Option VCond := toldN (zL enc_VValue l + 1) l
theorem zL_in {l : List VValue} {a : VValue} (ha : a ∈ l) : zL enc_VValue a.list < zL enc_VValue l := by
  have h1 := zL_mem (f := enc_VValue) ha
  have h2 := zValue_eq a
  omega
theorem toldN_stable : ∀ {n m : Nat} {l : List VValue}, zL enc_VValue l < n → zL enc_VValue l < m → toldN n l = toldN m l
  | 0, _, _, h, _ => by omega
  | _, 0, _, _, h => by omega
  | n + 1, m + 1, l, h1, h2 => by
    show toldB (toldN n) l = toldB (toldN m) l
    refine toldB_congr fun a ha => ?_
    have := zL_in ha
    exact toldN_stable (by omega) (by omega)
theorem toldS_eq (l : List VValue) : toldS l = toldB toldS l := by
  show toldB (toldN (zL enc_VValue l)) l = _
  refine toldB_congr fun a ha => ?_
  have := zL_in ha
  exact toldN_stable (by omega) (by omega)
end Go.Lv.VT

namespace Go.Lv.VT
def OkV {Y : Type} (T : List VValue → Option Y) (g : Y → VCond × Bool) (f : List VValue → Option VCond) (a : VValue) : Prop :=
  a.token.text.length ≤ big ∧ zL enc_VValue a.list ≤ big ∧ ((a.token.kind == 21) = true → errS a.list = 0 ∧ ∃ y, T a.list = some y ∧ MayR (g y) (f a.list))

theorem rd_term {S : Vcond_reader → Option ((VCond × Bool) × Vcond_reader)} {f : List VValue → Option VCond} {m : List VValue} (hm : ∀ a ∈ m, OkV (fun l => S ⟨l⟩) (fun y => y.1) f a) :
    ∃ c b v, cond_reader_term S ⟨m⟩ = some ((c, b), ⟨v⟩) ∧ MayR (c, b) (headT f m) ∧ (b = true → v = m.tail) := by
  unfold cond_reader_term
  simp only [rd_kind, bindO, Option.bind_some]
  cases m with
  | nil => exact ⟨_, _, _, rfl, may_none _, fun h => by cases h⟩
  | cons a r =>
    obtain ⟨h1, h2, h3⟩ := hm a List.mem_cons_self
    simp only [headK, headT, termF]
    cases h2k : a.token.kind == 2 with
    | true =>
      simp only [cond_true, rd_next, Option.bind_some]
      exact ⟨_, _, _, rfl, may_some _, fun _ => rfl⟩
    | false =>
      cases hk : a.token.kind == 21 with
      | false => exact ⟨_, _, _, rfl, may_none _, fun h => by cases h⟩
      | true =>
        obtain ⟨he, ⟨⟨c, b⟩, rd⟩, g1, g2, g3⟩ := h3 hk
        have g1 : S ⟨a.list⟩ = some ((c, b), rd) := g1
        simp only [cond_false, cond_true, rd_next, Option.bind_some, decl_One_eq h2 he]
        cases ho : oneS a.list with
        | some d => exact ⟨_, _, _, rfl, may_some _, fun _ => rfl⟩
        | none =>
          have e0 : ((0 : Int) == 0) = true := rfl
          simp only [pairO, e0, cond_true, cond_false, g1, Option.bind_some]
          cases hf : f a.list with
          | none =>
            rw [hf] at g2
            obtain rfl : b = false := g2
            exact ⟨_, _, _, rfl, may_some _, fun _ => rfl⟩
          | some z =>
            rw [hf] at g2
            obtain rfl : b = true := g2
            obtain rfl : c = z := g3 z hf
            simp only [cond_true, eta_Cond]
            exact ⟨c, _, _, rfl, may_some _, fun _ => rfl⟩
theorem two_words {a : VValue} (h : isW andW a = true) : isW orW a = false := by
  unfold isW at *
  rw [Bool.and_eq_true, beq_iff_eq (a := lowS a.token.text)] at h
  rw [h.2, Bool.and_eq_false_iff]
  exact .inr rfl
def opW (op : Int) (l : List VValue) : Int := if op = 0 then (bif headW orW l then 2 else 1) else op
def wordO (op : Int) : Str := if op = 2 then orW else andW
def resT (f : List VValue → Option VCond) (op : Int) (flag : Bool) (l : List VValue) (acc : List VCond) : Option VCond :=
  (moreS f (wordO (opW op l)) flag l).map fun q => ⟨opW op l, [], 0, noD, acc ++ q⟩
theorem pos_cons {α : Type} (a : α) (r : List α) : decide (((a :: r).length : Int) > 0) = true := decide_eq_true (by simp only [List.length_cons]; omega)
theorem len0 {α : Type} (l : List α) : ((l.length : Int) == 0) = l.isEmpty := by
  cases l with
  | nil => rfl
  | cons a r => exact beq_eq_false_iff_ne.2 (by simp only [List.length_cons]; omega)

theorem rd_told_B {S : Vcond_reader → Option ((VCond × Bool) × Vcond_reader)} {f : List VValue → Option VCond} {l : List VValue} (hl : l.length ≤ big) (hm : ∀ a ∈ l, OkV (fun l => S ⟨l⟩) (fun y => y.1) f a) :
    ∃ y, cond_reader_told_B S ⟨l⟩ = some y ∧ MayR y.1 (toldB f l) := by
  unfold cond_reader_told_B toldB
  have hm0 : ∀ a ∈ sp l, OkV (fun l => S ⟨l⟩) (fun y => y.1) f a := fun a ha => hm a ((sp_sub l).subset ha)
  have hl0 : (sp l).length ≤ big := Nat.le_trans (sp_len l) hl
  simp only [rd_spaces, bindO, Option.bind_some]
  generalize sp l = m at *
  rw [rd_word_aux [notW] m (fun a ha => (hm0 a ha).1) (by intro s hs; simp at hs; subst hs; exact ⟨by decide, low_not⟩) (by decide)]
  have e0 : (notW == ([] : Str)) = false := rfl
  have e1 : (([] : Str) == ([] : Str)) = true := rfl
  have happ : appOk 0 1 104 = true := appOk_of (by decide)
  cases m with
  | nil =>
    obtain ⟨c, b, v, g1, g2, g3⟩ := rd_term hm0
    obtain rfl : b = false := g2.1
    simp only [wordS, headW, cond_false, Option.bind_some, e1, Bool.not_true, g1, Bool.not_false, cond_true]
    exact ⟨_, rfl, may_none _⟩
  | cons a r =>
    have hmr : ∀ a ∈ sp r, OkV (fun l => S ⟨l⟩) (fun y => y.1) f a := fun a ha => hm0 a (List.mem_cons_of_mem _ ((sp_sub r).subset ha))
    have hlr : (sp r).length ≤ big := by have := sp_len r; rw [List.length_cons] at hl0; omega
    simp only [wordS, headW]
    cases hn : isW notW a with
    | true =>
      obtain ⟨c, b, v, g1, g2, g3⟩ := rd_term hmr
      simp only [cond_true, Option.bind_some, e0, Bool.not_false, List.tail_cons, rd_spaces, g1, eta_Cond, len0]
      refine ⟨_, rfl, ?_⟩
      cases hh : headT f (sp r) with
      | none =>
        rw [hh] at g2
        obtain rfl : b = false := g2.1
        cases decide ((sp r).length < r.length) && (sp (sp r).tail).isEmpty <;> exact may_none _
      | some x =>
        rw [hh] at g2
        obtain rfl : b = true := g2.1
        obtain rfl : c = x := g2.2 x rfl
        obtain rfl := g3 rfl
        cases decide ((sp r).length < r.length) with
        | false => exact may_none _
        | true =>
          cases (sp (sp r).tail).isEmpty with
          | false => exact may_none _
          | true => exact may_some _
    | false =>
      obtain ⟨c, b, v, g1, g2, g3⟩ := rd_term hm0
      simp only [headT] at g2
      simp only [cond_false, Option.bind_some, e1, Bool.not_true, g1]
      cases hh : termF f a with
      | none =>
        rw [hh] at g2
        obtain rfl : b = false := g2.1
        exact ⟨_, rfl, may_none _⟩
      | some x =>
        rw [hh] at g2
        obtain rfl : b = true := g2.1
        obtain rfl : c = x := g2.2 x rfl
        obtain rfl : r = v := (g3 rfl).symm
        simp only [Bool.not_true, cond_false, rd_spaces, List.tail_cons, Option.bind_some, eta_Cond, len0]
        cases hsr : sp r with
        | nil =>
          simp only
          exact ⟨((c, true), _), rfl, may_some _⟩
        | cons w t =>
          rw [hsr] at hmr hlr
          have hsp : sp (w :: t) = w :: t := by rw [← hsr, sp_idem]
          have hres : (bif isW orW w then (moreS f orW (decide ((w :: t).length < r.length)) (w :: t)).map (fun q => orC (c :: q))
              else (moreS f andW (decide ((w :: t).length < r.length)) (w :: t)).map fun q => allC (c :: q)) = resT f 0 (decide ((w :: t).length < r.length)) (w :: t) [c] := by
            unfold resT opW headW
            rw [if_pos rfl]
            simp only
            cases isW orW w <;> rfl
          simp only [List.isEmpty_cons, cond_false, hres]
          generalize decide ((w :: t).length < r.length) = flag
          refine loop_meas (fun s : Bool × Vcond_reader × (Int × Str × Int × Str × Bool) × (Int × Str × Int × Str × Bool) × List VCond => s.2.1.v.length)
            (fun s => ∃ op : Int, (op = 0 ∨ op = 1 ∨ op = 2) ∧ s.2.2.1 = (0, [], 0, [], false) ∧ s.2.2.2.1 = (op, [], 0, [], false) ∧ sp s.2.1.v = s.2.1.v ∧ (op = 0 → s.2.1.v ≠ []) ∧ (∀ a ∈ s.2.1.v, OkV (fun l => S ⟨l⟩) (fun y => y.1) f a) ∧ s.2.2.2.2.length + s.2.1.v.length ≤ big + 1)
            (fun s (r : (VCond × Bool) × Vcond_reader) => MayR r.1 (resT f s.2.2.2.1.1 s.1 s.2.1.v s.2.2.2.2)) ?_ ?_
          · rintro ⟨flag, ⟨v⟩, _, _, acc⟩ ⟨op, hop, rfl, rfl, hv, hne, hok, hacc⟩
            simp only at hv hne hok hacc
            cases v with
            | nil =>
              have hop0 : op ≠ 0 := fun h => hne h rfl
              right; right
              refine ⟨(⟨[]⟩, (0, [], 0, [], false), (op, [], 0, [], false), acc), rfl, ?_⟩
              refine ⟨_, rfl, ?_⟩
              unfold resT opW
              rw [if_neg hop0, moreS_nil, Option.map_some, List.append_nil]
              exact may_some _
            | cons a r =>
              simp only [pos_cons, cond_true]
              rw [rd_word_aux [andW, orW] (a :: r) (fun a ha => (hok a ha).1) (by intro s hs; simp at hs; rcases hs with rfl | rfl <;> exact ⟨by decide, by decide⟩) (by decide)]
              have hokr : ∀ a ∈ sp r, OkV (fun l => S ⟨l⟩) (fun y => y.1) f a := fun a ha => hok a (List.mem_cons_of_mem _ ((sp_sub r).subset ha))
              obtain ⟨c', b, v', k1, k2, k3⟩ := rd_term hokr
              have hlen := sp_len r
              rw [List.length_cons] at hacc
              -- behind a word
              have tail : ∀ (t : Int) (s : Str), (t = 1 ∧ s = andW ∨ t = 2 ∧ s = orW) → isW s a = true → (op = 0 ∨ op = t) → (bif s == [97, 110, 100] then (1 : Int) else bif s == [111, 114] then 2 else 0) = t →
                  (∃ s' : Bool × Vcond_reader × (Int × Str × Int × Str × Bool) × (Int × Str × Int × Str × Bool) × List VCond,
                    (bif bif !decide ((sp r).length < r.length) then true else !b then
                      some (LO.ret (((⟨t, [], 0, (⟨[], [], false⟩ : VDecl), acc⟩ : VCond), false), (⟨v'⟩ : Vcond_reader)))
                    else
                      some (LO.again (decide ((sp v').length < v'.length), (⟨sp v'⟩ : Vcond_reader), ((0 : Int), ([] : Str), (0 : Int), ([] : Str), false), (t, ([] : Str), (0 : Int), ([] : Str), false), acc ++ [c'])) :
                        Option (LO (Bool × Vcond_reader × (Int × Str × Int × Str × Bool) × (Int × Str × Int × Str × Bool) × List VCond) (Vcond_reader × (Int × Str × Int × Str × Bool) × (Int × Str × Int × Str × Bool) × List VCond) ((VCond × Bool) × Vcond_reader))) = some (LO.again s') ∧
                    (∃ op : Int, (op = 0 ∨ op = 1 ∨ op = 2) ∧ s'.2.2.1 = (0, [], 0, [], false) ∧ s'.2.2.2.1 = (op, [], 0, [], false) ∧ sp s'.2.1.v = s'.2.1.v ∧ (op = 0 → s'.2.1.v ≠ []) ∧ (∀ a ∈ s'.2.1.v, OkV (fun l => S ⟨l⟩) (fun y => y.1) f a) ∧ s'.2.2.2.2.length + s'.2.1.v.length ≤ big + 1) ∧
                    s'.2.1.v.length < (a :: r).length ∧ ∀ q : (VCond × Bool) × Vcond_reader, MayR q.1 (resT f s'.2.2.2.1.1 s'.1 s'.2.1.v s'.2.2.2.2) → MayR q.1 (resT f op true (a :: r) acc)) ∨
                  (∃ q : (VCond × Bool) × Vcond_reader, (bif bif !decide ((sp r).length < r.length) then true else !b then
                      some (LO.ret (((⟨t, [], 0, (⟨[], [], false⟩ : VDecl), acc⟩ : VCond), false), (⟨v'⟩ : Vcond_reader)))
                    else
                      some (LO.again (decide ((sp v').length < v'.length), (⟨sp v'⟩ : Vcond_reader), ((0 : Int), ([] : Str), (0 : Int), ([] : Str), false), (t, ([] : Str), (0 : Int), ([] : Str), false), acc ++ [c'])) :
                        Option (LO (Bool × Vcond_reader × (Int × Str × Int × Str × Bool) × (Int × Str × Int × Str × Bool) × List VCond) (Vcond_reader × (Int × Str × Int × Str × Bool) × (Int × Str × Int × Str × Bool) × List VCond) ((VCond × Bool) × Vcond_reader))) = some (LO.ret q) ∧ MayR q.1 (resT f op true (a :: r) acc)) := by
                intro t s hts hs hopt _
                have hopw : opW op (a :: r) = t := by
                  unfold opW headW
                  rcases hopt with rfl | rfl
                  · rw [if_pos rfl]
                    simp only
                    rcases hts with ⟨rfl, rfl⟩ | ⟨rfl, rfl⟩
                    · rw [two_words hs]; rfl
                    · rw [hs]; rfl
                  · have : op ≠ 0 := by rcases hts with ⟨rfl, _⟩ | ⟨rfl, _⟩ <;> decide
                    rw [if_neg this]
                have hwo : wordO t = s := by
                  unfold wordO
                  rcases hts with ⟨rfl, rfl⟩ | ⟨rfl, rfl⟩ <;> rfl
                have hR : resT f op true (a :: r) acc = (moreS f s true (a :: r)).map fun q => ⟨t, [], 0, noD, acc ++ q⟩ := by
                  unfold resT; rw [hopw, hwo]
                rw [hR, moreS_cons, hs]
                simp only [Bool.true_and]
                cases decide ((sp r).length < r.length) with
                | false =>
                  right
                  exact ⟨_, rfl, may_none _⟩
                | true =>
                  simp only [cond_true, Bool.not_true, cond_false]
                  cases hsr : sp r with
                  | nil =>
                    rw [hsr] at k2
                    obtain rfl : b = false := k2.1
                    right
                    exact ⟨_, rfl, may_none _⟩
                  | cons d r' =>
                    rw [hsr] at k2 k3 hlen hokr
                    simp only [headT] at k2 ⊢
                    cases hfd : termF f d with
                    | none =>
                      rw [hfd] at k2
                      obtain rfl : b = false := k2.1
                      right
                      exact ⟨_, rfl, may_none _⟩
                    | some z =>
                      rw [hfd] at k2
                      obtain rfl : b = true := k2.1
                      obtain rfl : c' = z := k2.2 z rfl
                      obtain rfl : v' = r' := k3 rfl
                      have hl2 := sp_len v'
                      rw [List.length_cons] at hlen
                      have ht0 : t ≠ 0 := by rcases hts with ⟨rfl, _⟩ | ⟨rfl, _⟩ <;> decide
                      left
                      refine ⟨(decide ((sp v').length < v'.length), ⟨sp v'⟩, (0, [], 0, [], false), (t, [], 0, [], false), acc ++ [c']), rfl, ⟨t, by rcases hts with ⟨rfl, _⟩ | ⟨rfl, _⟩ <;> simp, rfl, rfl, sp_idem _, fun h => absurd h ht0, ?_, ?_⟩, ?_, ?_⟩
                      · intro x hx
                        exact hokr x (List.mem_cons_of_mem _ ((sp_sub v').subset hx))
                      · simp only [List.length_append, List.length_cons, List.length_nil]; omega
                      · simp only [List.length_cons]; omega
                      · intro q hq
                        unfold resT opW at hq
                        simp only at hq
                        rw [if_neg ht0, hwo] at hq
                        cases hmo : moreS f s (decide ((sp v').length < v'.length)) (sp v') with
                        | none => rw [hmo] at hq; exact hq
                        | some qq =>
                          rw [hmo] at hq
                          simp only [Option.map_some, List.append_assoc, List.singleton_append] at hq ⊢
                          exact hq
              have fail : ∀ s : Str, s = wordO (opW op (a :: r)) → (flag = false ∨ isW s a = false) → resT f op flag (a :: r) acc = none := by
                intro s hs hfl
                unfold resT
                rw [← hs, moreS_cons]
                rcases hfl with rfl | h
                · rfl
                · rw [h]; cases flag <;> rfl
              have hap : appOk acc.length 1 104 = true := appOk_of (by unfold big at hacc; omega)
              have q1 : (andW == ([97, 110, 100] : Str)) = true := rfl
              have q2 : (orW == ([97, 110, 100] : Str)) = false := rfl
              have q3 : (orW == ([111, 114] : Str)) = true := rfl
              have q4 : (([] : Str) == ([97, 110, 100] : Str)) = false := rfl
              have q5 : (([] : Str) == ([111, 114] : Str)) = false := rfl
              have i0 : ((0 : Int) == 0) = true := rfl
              have i1 : ((1 : Int) == 0) = false := rfl
              have i2 : ((2 : Int) == 0) = false := rfl
              simp only [wordS, headW]
              cases ha : isW andW a with
              | true =>
                simp only [cond_true, Option.bind_some, q1, i1, cond_false, List.tail_cons, rd_spaces, k1, hap, need_true, eta_Cond]
                cases flag with
                | false =>
                  right; left
                  exact ⟨_, rfl, by rw [fail _ rfl (.inl rfl)]; exact may_none _⟩
                | true =>
                  rcases hop with rfl | rfl | rfl
                  · rcases tail 1 andW (.inl ⟨rfl, rfl⟩) ha (.inl rfl) rfl with h | h
                    · exact .inl h
                    · exact .inr (.inl h)
                  · rcases tail 1 andW (.inl ⟨rfl, rfl⟩) ha (.inr rfl) rfl with h | h
                    · exact .inl h
                    · exact .inr (.inl h)
                  · right; left
                    exact ⟨_, rfl, by rw [fail orW rfl (.inr (two_words ha))]; exact may_none _⟩
              | false =>
                cases ho : isW orW a with
                | true =>
                  simp only [cond_true, Option.bind_some, q2, q3, i2, cond_false, List.tail_cons, rd_spaces, k1, hap, need_true, eta_Cond]
                  cases flag with
                  | false =>
                    right; left
                    exact ⟨_, rfl, by rw [fail _ rfl (.inl rfl)]; exact may_none _⟩
                  | true =>
                    rcases hop with rfl | rfl | rfl
                    · rcases tail 2 orW (.inr ⟨rfl, rfl⟩) ho (.inl rfl) rfl with h | h
                      · exact .inl h
                      · exact .inr (.inl h)
                    · right; left
                      exact ⟨_, rfl, by rw [fail andW rfl (.inr ha)]; exact may_none _⟩
                    · rcases tail 2 orW (.inr ⟨rfl, rfl⟩) ho (.inr rfl) rfl with h | h
                      · exact .inl h
                      · exact .inr (.inl h)
                | false =>
                  simp only [cond_false, Option.bind_some, q4, q5, i0, cond_true]
                  right; left
                  refine ⟨_, rfl, ?_⟩
                  have hw : isW (wordO (opW op (a :: r))) a = false := by
                    unfold wordO; split
                    · exact ho
                    · exact ha
                  rw [fail _ rfl (.inr hw)]
                  exact may_none _
          · exact ⟨0, .inl rfl, rfl, rfl, hsp, fun _ => List.cons_ne_nil _ _, hmr, by simp only [List.length_cons, List.length_nil] at *; omega⟩
end Go.Lv.VT

namespace Go.Lv.VT
def toldT (f : List VValue → Option VCond) (l : List VValue) : Option VCond := match l with
  | [] => none
  | a :: r => bif isW notW a then (bif decide ((sp r).length < r.length) && (sp (sp r).tail).isEmpty then (headT f (sp r)).map notC else none) else
    match termF f a with
    | none => none
    | some x => match sp r with
      | [] => some x
      | w :: t => bif isW orW w then (moreS f orW (decide ((sp r).length < r.length)) (w :: t)).map fun q => orC (x :: q)
        else (moreS f andW (decide ((sp r).length < r.length)) (w :: t)).map fun q => allC (x :: q)
theorem toldT_eq (f : List VValue → Option VCond) (l : List VValue) : toldB f l = toldT f (sp l) := by
  unfold toldB toldT
  cases sp l <;> rfl
theorem flag_app (a b s : List VValue) : decide ((a ++ s).length < (b ++ s).length) = decide (a.length < b.length) := by
  rw [List.length_append, List.length_append]
  by_cases h : a.length < b.length
  · rw [decide_eq_true h]; exact decide_eq_true (by omega)
  · rw [decide_eq_false h]; exact decide_eq_false (by omega)
theorem moreS_app (f : List VValue → Option VCond) (op : Str) {s : List VValue} (hs : sp s = []) : ∀ (n : Nat) (flag : Bool) (l : List VValue), l.length < n → l ≠ [] → moreS f op flag (l ++ s) = moreS f op flag l
  | 0, _, _, h, _ => by omega
  | _, _, [], _, h => absurd rfl h
  | n + 1, flag, a :: r, h, _ => by
    rw [List.cons_append, moreS_cons, moreS_cons, sp_app hs]
    have hl := sp_len r
    rw [List.length_cons] at h
    cases hr : sp r with
    | nil =>
      rw [if_pos rfl]
      cases flag && (isW op a && decide (([] : List VValue).length < (r ++ s).length)) <;> cases flag && (isW op a && decide (([] : List VValue).length < r.length)) <;> rfl
    | cons b r' =>
      rw [hr, List.length_cons] at hl
      have hl2 := sp_len r'
      rw [if_neg (by simp), flag_app]
      simp only [List.cons_append]
      rw [sp_app hs]
      cases hr' : sp r' with
      | nil => rw [if_pos rfl]; simp only [moreS_nil]
      | cons c t =>
        rw [if_neg (by simp), flag_app]
        rw [hr'] at hl2
        rw [moreS_app f op hs n _ (c :: t) (by omega) (by simp)]
theorem toldT_app (f : List VValue → Option VCond) {s : List VValue} (hs : sp s = []) {l : List VValue} (hl : l ≠ []) : toldT f (l ++ s) = toldT f l := by
  cases l with
  | nil => exact absurd rfl hl
  | cons a r =>
    unfold toldT
    simp only [List.cons_append]
    rw [sp_app hs]
    cases hr : sp r with
    | nil =>
      rw [if_pos rfl]
      simp only [headT, Option.map_none]
      cases isW notW a with
      | true =>
        cases decide (([] : List VValue).length < (r ++ s).length) && (sp ([] : List VValue).tail).isEmpty <;> cases decide (([] : List VValue).length < r.length) && (sp ([] : List VValue).tail).isEmpty <;> rfl
      | false => rfl
    | cons b t =>
      rw [if_neg (by simp), flag_app]
      simp only [List.cons_append, List.tail_cons, headT]
      have he : (sp (t ++ s)).isEmpty = (sp t).isEmpty := by
        rw [sp_app hs]
        cases sp t with
        | nil => rw [if_pos rfl]
        | cons c d => rw [if_neg (by simp)]; rfl
      rw [he, ← List.cons_append, moreS_app f orW hs _ _ (b :: t) (Nat.lt_succ_self _) (by simp), moreS_app f andW hs _ _ (b :: t) (Nat.lt_succ_self _) (by simp)]
theorem toldT_trim (f : List VValue → Option VCond) (l : List VValue) : toldB f l = toldT f (trimS l) := by
  rw [toldT_eq]
  obtain ⟨s, h1, h2⟩ := trimB_split (sp l)
  show toldT f (sp l) = toldT f (trimB (sp l))
  have hi : sp (sp l) = sp l := sp_idem l
  generalize sp l = m at *
  cases hz : trimB m with
  | nil =>
    rw [hz, List.nil_append] at h1
    subst h1
    rw [← hi, h2]
  | cons a r =>
    rw [hz] at h1
    rw [h1, toldT_app f h2 (by simp)]

theorem rf_term {S : List VValue → Option (VCond × Bool)} {f : List VValue → Option VCond} {y : List VValue} (hm : ∀ a ∈ y, OkV S id f a) (i : Nat) :
    ∃ q, ref10_term S (y, (i : Int)) = some q ∧ MayR q (headT f (y.drop i)) := by
  unfold ref10_term
  simp only [rf_kind, bindO, Option.bind_some]
  cases hd : y.drop i with
  | nil => exact ⟨_, rfl, may_none _⟩
  | cons a r =>
    obtain ⟨d1, d2, d3⟩ := dropV hd
    obtain ⟨h1, h2, h3⟩ := hm a (List.mem_of_mem_drop (i := i) (by rw [hd]; exact List.mem_cons_self))
    simp only [headT, termF]
    cases h2k : a.token.kind == 2 with
    | true =>
      simp only [cond_true]
      exact ⟨_, rfl, may_some _⟩
    | false =>
      cases hk : a.token.kind == 21 with
      | false => exact ⟨_, rfl, may_none _⟩
      | true =>
        obtain ⟨he, ⟨c, b⟩, g1, g2, g3⟩ := h3 hk
        simp only [cond_false, cond_true, Bool.not_true, d2, Option.bind_some, Read1_eq h2]
        cases ho : oneS a.list with
        | some d => exact ⟨_, rfl, may_some _⟩
        | none =>
          simp only [pairO, cond_false, g1, Option.bind_some]
          cases hf : f a.list with
          | none =>
            rw [hf] at g2
            obtain rfl : b = false := g2
            exact ⟨_, rfl, may_some _⟩
          | some z =>
            rw [hf] at g2
            obtain rfl : b = true := g2
            obtain rfl : c = z := g3 z hf
            simp only [cond_true, eta_Cond]
            exact ⟨(c, true), rfl, may_some _⟩
theorem fl_eq (y : List VValue) (i : Nat) : ((spI y i : Int) == (i : Int)) = !decide ((sp (y.drop i)).length < (y.drop i).length) := by
  have h := sp_len (y.drop i)
  unfold spI
  by_cases hl : (sp (y.drop i)).length < (y.drop i).length
  · rw [decide_eq_true hl]; exact beq_eq_false_iff_ne.2 (by omega)
  · rw [decide_eq_false hl]; exact beq_iff_eq.2 (by omega)

def flS (d : List VValue) : Bool := decide ((sp d).length < d.length)
theorem rf_told_B {S : List VValue → Option (VCond × Bool)} {f : List VValue → Option VCond} {l : List VValue} (hz : zL enc_VValue l ≤ big) (hm : ∀ a ∈ l, OkV S id f a) :
    ∃ y, ref10_told_B S l = some y ∧ MayR y (toldB f l) := by
  unfold ref10_told_B
  rw [toldT_trim]
  have hsz := szL_zL l
  have hzy : zL enc_VValue (trimS l) ≤ big := Nat.le_trans (zL_sub ((trimB_sub _).trans (sp_sub _))) hz
  have hm0 : ∀ a ∈ trimS l, OkV S id f a := fun a ha => hm a (((trimB_sub _).trans (sp_sub _)).subset ha)
  have hend := trimS_end l
  simp only [ref_trimmed (show szL l ≤ big by omega), bindO, Option.bind_some, eta_Cond]
  generalize trimS l = y at *
  have hyl := zL_len zValue_pos y
  have htx : ∀ a ∈ y, a.token.text.length ≤ big := fun a ha => (zl_in hzy ha).1
  have w0 := rf_word (v := y) 0 (s := notW) htx (by decide) low_not
  simp only [Int.natCast_zero, List.drop_zero] at w0
  have happ : appOk 0 1 104 = true := appOk_of (by decide)
  have hb2 : 2 ≤ big := by unfold big; omega
  have s1 := rf_spaces (v := y) 1 (by omega) (by omega)
  have hd1 := spI_drop y 1
  have hl1 := spI_le y 1
  have hf1 := fl_eq y 1
  simp only [Int.natCast_one] at s1 hf1
  have t0 := rf_term hm0 0
  simp only [Int.natCast_zero, List.drop_zero] at t0
  obtain ⟨⟨c0, b0⟩, t01, t02⟩ := t0
  obtain ⟨⟨c1, b1⟩, t11, t12⟩ := rf_term hm0 (spI y 1)
  simp only [w0, s1, Option.bind_some, t01, t11]
  cases y with
  | nil =>
    obtain rfl : b0 = false := t02.1
    exact ⟨_, rfl, may_none _⟩
  | cons a r =>
    rw [hd1] at t12
    simp only [List.drop_succ_cons, List.drop_zero] at hd1 t12 hf1
    have hendr : EndS r := end_tail hend
    have t02 : MayR (c0, b0) (termF f a) := t02
    simp only [toldT, headW]
    cases hn : isW notW a with
    | true =>
      simp only [cond_true]
      refine ⟨_, rfl, ?_⟩
      have hlen : (sp r).length = (a :: r).length - spI (a :: r) 1 := by rw [← hd1, List.length_drop]
      have hgt : decide (((spI (a :: r) 1 : Nat) : Int) > 1) = decide ((sp r).length < r.length) := by
        cases hfl : decide ((sp r).length < r.length) with
        | true =>
          rw [hfl] at hf1
          have := beq_eq_false_iff_ne.1 hf1
          exact decide_eq_true (by omega)
        | false =>
          rw [hfl] at hf1
          have := beq_iff_eq.1 hf1
          exact decide_eq_false (by omega)
      cases hh : headT f (sp r) with
      | none =>
        rw [hh] at t12
        obtain rfl : b1 = false := t12.1
        cases decide ((sp r).length < r.length) && (sp (sp r).tail).isEmpty <;> exact may_none _
      | some x =>
        rw [hh] at t12
        obtain rfl : b1 = true := t12.1
        obtain rfl : c1 = x := t12.2 x rfl
        have heq : (w64 (((spI (a :: r) 1 : Nat) : Int) + 1) == ((a :: r).length : Int)) = (sp (sp r).tail).isEmpty := by
          have hlt : spI (a :: r) 1 < (a :: r).length := by
            cases hsr : sp r with
            | nil => rw [hsr] at hh; cases hh
            | cons d t => rw [hsr, List.length_cons] at hlen; omega
          rw [w64_succ hlt (by omega)]
          cases hsr : sp r with
          | nil => rw [hsr] at hh; cases hh
          | cons d t =>
            have hendt : EndS t := end_tail (hsr ▸ end_sp hendr)
            rw [hsr, List.length_cons] at hlen
            simp only [List.tail_cons]
            cases hst : sp t with
            | nil =>
              obtain rfl := end_nil hendt hst
              exact beq_iff_eq.2 (by simp only [List.length_nil] at hlen; omega)
            | cons e g =>
              have : 1 ≤ t.length := by
                cases t with
                | nil => cases hst
                | cons _ _ => simp
              exact beq_eq_false_iff_ne.2 (by omega)
        rw [hgt, heq]
        cases decide ((sp r).length < r.length) with
        | false => exact may_none _
        | true =>
          cases (sp (sp r).tail).isEmpty with
          | false => exact may_none _
          | true => exact may_some _
    | false =>
      simp only [cond_false]
      cases hh : termF f a with
      | none =>
        rw [hh] at t02
        obtain rfl : b0 = false := t02.1
        exact ⟨_, rfl, may_none _⟩
      | some x =>
        rw [hh] at t02
        obtain rfl : b0 = true := t02.1
        obtain rfl : c0 = x := t02.2 x rfl
        simp only [Bool.not_true, cond_false]
        cases hsr : sp r with
        | nil =>
          obtain rfl := end_nil hendr hsr
          exact ⟨(c0, true), rfl, may_some _⟩
        | cons w t =>
          have hne : (((a :: r).length : Int) == 1) = false := by
            refine beq_eq_false_iff_ne.2 ?_
            have := sp_len r
            rw [hsr, List.length_cons] at this
            rw [List.length_cons]
            omega
          have wor := rf_word (v := a :: r) (spI (a :: r) 1) (s := orW) htx (by decide) low_or'
          rw [hd1, hsr] at wor
          simp only [headW] at wor
          simp only [hne, cond_false, wor, Option.bind_some]
          have hgoal : ∃ op : Int, (op = 1 ∨ op = 2) ∧ (bif isW orW w then
                some (LX.out (((0 : Int), ([] : Str), (0 : Int), ([] : Str), false), ((2 : Int), ([] : Str), (0 : Int), ([] : Str), false), [c0]) : LX ((Int × Str × Int × Str × Bool) × (Int × Str × Int × Str × Bool) × List VCond) (VCond × Bool))
              else some (LX.out (((0 : Int), ([] : Str), (0 : Int), ([] : Str), false), ((1 : Int), ([] : Str), (0 : Int), ([] : Str), false), [c0]))) = some (LX.out (((0 : Int), ([] : Str), (0 : Int), ([] : Str), false), (op, ([] : Str), (0 : Int), ([] : Str), false), [c0])) ∧
              (bif isW orW w then (moreS f orW (decide ((w :: t).length < r.length)) (w :: t)).map (fun q => orC (c0 :: q))
                else (moreS f andW (decide ((w :: t).length < r.length)) (w :: t)).map fun q => allC (c0 :: q)) = (moreS f (wordO op) (decide ((w :: t).length < r.length)) (w :: t)).map fun q => ⟨op, [], 0, noD, [c0] ++ q⟩ := by
            cases isW orW w with
            | true => exact ⟨2, .inr rfl, rfl, rfl⟩
            | false => exact ⟨1, .inl rfl, rfl, rfl⟩
          obtain ⟨op, hop, ho1, ho2⟩ := hgoal
          rw [ho1, ho2, joinK_out]
          rw [← hsr]
          generalize hyy : a :: r = y at *
          have hdr : r = y.drop 1 := by rw [← hyy]; rfl
          have hy1 : 1 ≤ y.length := by rw [← hyy, List.length_cons]; omega
          rw [hdr]
          refine loop_meas (fun s : Int × (Int × Str × Int × Str × Bool) × (Int × Str × Int × Str × Bool) × List VCond => y.length - s.1.toNat)
            (fun s => ∃ k : Nat, s.1 = (k : Int) ∧ s.2.1 = (0, [], 0, [], false) ∧ s.2.2.1 = (op, [], 0, [], false) ∧ k ≤ y.length ∧ s.2.2.2.length ≤ k)
            (fun s (q : VCond × Bool) => MayR q ((moreS f (wordO op) (flS (y.drop s.1.toNat)) (sp (y.drop s.1.toNat))).map fun q => ⟨op, [], 0, noD, s.2.2.2 ++ q⟩)) ?_ ?_
          · rintro ⟨_, _, _, acc⟩ ⟨k, rfl, rfl, rfl, hk, hacc⟩
            simp only at hacc
            simp only [Int.toNat_natCast]
            cases hd : y.drop k with
            | nil =>
              have hkl : y.length ≤ k := List.drop_eq_nil_iff.1 hd
              have e : decide ((k : Int) < (y.length : Int)) = false := decide_eq_false (by omega)
              right; right
              refine ⟨((0, [], 0, [], false), (op, [], 0, [], false), acc), by simp only [e, cond_false], ?_⟩
              refine ⟨_, rfl, ?_⟩
              rw [sp_nil, moreS_nil, Option.map_some, List.append_nil]
              exact may_some _
            | cons a' r' =>
              obtain ⟨d1, d2, d3⟩ := dropV hd
              have sk := rf_spaces (v := y) k (by omega) (by omega)
              have hdk := spI_drop y k
              have hlk := spI_le y k
              have hfk := fl_eq y k
              have hendk : EndS (y.drop k) := end_drop hend k
              rw [hd] at hdk hfk hendk
              have wa := rf_word (v := y) (spI y k) (s := andW) htx (by decide) low_and
              have wo := rf_word (v := y) (spI y k) (s := orW) htx (by decide) low_or'
              simp only [flS, lt_true d1, cond_true, sk, Option.bind_some, hfk, wa, wo, hdk, condO_some]
              cases hsd : sp (a' :: r') with
              | nil => have := end_nil hendk hsd; cases this
              | cons w r2 =>
                rw [hsd] at hdk
                obtain ⟨e1, e2, e3⟩ := dropV hdk
                have hbool : (bif bif !decide ((w :: r2).length < (a' :: r').length) then true else bif op == 1 then !(bif op == 1 && !(!decide ((w :: r2).length < (a' :: r').length)) then headW andW (w :: r2) else default) else false then true else
                    bif op == 2 then !(bif op == 2 && !(bif !decide ((w :: r2).length < (a' :: r').length) then true else bif op == 1 then !(bif op == 1 && !(!decide ((w :: r2).length < (a' :: r').length)) then headW andW (w :: r2) else default) else false) then headW orW (w :: r2) else default) else false) = !(decide ((w :: r2).length < (a' :: r').length) && isW (wordO op) w) := by
                  rcases hop with rfl | rfl
                  · have : wordO 1 = andW := rfl
                    rw [this]
                    simp only [headW]
                    cases decide ((w :: r2).length < (a' :: r').length) <;> cases isW andW w <;> cases isW orW w <;> decide
                  · have : wordO 2 = orW := rfl
                    rw [this]
                    simp only [headW]
                    cases decide ((w :: r2).length < (a' :: r').length) <;> cases isW andW w <;> cases isW orW w <;> decide
                rw [hbool, moreS_cons, ← Bool.and_assoc]
                cases decide ((w :: r2).length < (a' :: r').length) && isW (wordO op) w with
                | false =>
                  right; left
                  exact ⟨_, rfl, may_none _⟩
                | true =>
                  have sk2 := rf_spaces (v := y) (spI y k + 1) (by omega) (by omega)
                  have hdk2 := spI_drop y (spI y k + 1)
                  have hlk2 := spI_le y (spI y k + 1)
                  have hfk2 := fl_eq y (spI y k + 1)
                  rw [e3] at hdk2 hfk2
                  obtain ⟨⟨c', b⟩, k1, k2⟩ := rf_term hm0 (spI y (spI y k + 1))
                  rw [hdk2] at k2
                  simp only [Bool.not_true, cond_false, w64_succ e1 (show y.length ≤ big by omega), sk2, Option.bind_some, k1, hfk2, Bool.true_and]
                  cases hfl : decide ((sp r2).length < r2.length) with
                  | false =>
                    right; left
                    simp only [Bool.not_false, cond_true, cond_false]
                    cases b <;> exact ⟨_, rfl, may_none _⟩
                  | true =>
                    simp only [Bool.not_true, cond_true, cond_false]
                    cases hs2 : sp r2 with
                    | nil =>
                      rw [hs2] at k2
                      obtain rfl : b = false := k2.1
                      right; left
                      exact ⟨_, rfl, may_none _⟩
                    | cons d r3 =>
                      rw [hs2] at k2 hdk2
                      simp only [headT] at k2 ⊢
                      obtain ⟨f1, f2, f3⟩ := dropV hdk2
                      cases hfd : termF f d with
                      | none =>
                        rw [hfd] at k2
                        obtain rfl : b = false := k2.1
                        right; left
                        exact ⟨_, rfl, may_none _⟩
                      | some z =>
                        rw [hfd] at k2
                        obtain rfl : b = true := k2.1
                        obtain rfl : c' = z := k2.2 z rfl
                        have hap : appOk acc.length 1 104 = true := appOk_of (by unfold big at *; omega)
                        left
                        refine ⟨(((spI y (spI y k + 1) + 1 : Nat) : Int), (0, [], 0, [], false), (op, [], 0, [], false), acc ++ [c']), ?_, ⟨spI y (spI y k + 1) + 1, rfl, rfl, rfl, by omega, ?_⟩, ?_, ?_⟩
                        · simp only [Bool.not_true, cond_false, hap, need_true, w64_succ f1 (show y.length ≤ big by omega)]
                        · simp only [List.length_append, List.length_cons, List.length_nil]; omega
                        · simp only [Int.toNat_natCast]; omega
                        · intro q hq
                          simp only [flS, Int.toNat_natCast, f3] at hq
                          cases hmo : moreS f (wordO op) (decide ((sp r3).length < r3.length)) (sp r3) with
                          | none => rw [hmo] at hq; exact hq
                          | some qq =>
                            rw [hmo] at hq
                            simp only [Option.map_some, List.append_assoc, List.singleton_append] at hq ⊢
                            exact hq
          · exact ⟨1, rfl, rfl, rfl, hy1, Nat.le_refl _⟩
where
  low_or' : lowS orW = orW := by decide
  end_drop {l : List VValue} (h : EndS l) (k : Nat) : EndS (l.drop k) := by
    induction k generalizing l with
    | zero => exact h
    | succ k ih =>
      cases l with
      | nil => exact h
      | cons a r => rw [List.drop_succ_cons]; exact ih (end_tail h)
end Go.Lv.VT

namespace Go.Lv.VT
theorem rd_told {l : List VValue} (hz : zL enc_VValue l ≤ big) (he : errS l = 0) : ∃ y, cond_reader_told ⟨l⟩ = some y ∧ MayR y.1 (toldS l) := by
  refine recE_rel mono_cond_reader_told (fun x => zL enc_VValue x.v) (fun x => zL enc_VValue x.v ≤ big ∧ errS x.v = 0) (fun x y => MayR y.1 (toldS x.v)) (fun S x hx hS => ?_) (x := (⟨l⟩ : Vcond_reader)) ⟨hz, he⟩
  obtain ⟨l⟩ := x
  obtain ⟨hz, he⟩ := hx
  simp only at hz he hS ⊢
  rw [toldS_eq]
  have hl := zL_len zValue_pos l
  refine rd_told_B (by omega) fun a ha => ?_
  obtain ⟨h1, h2, h3, h4⟩ := zl_in hz ha
  refine ⟨h1, h3, fun hk => ⟨errS_in he ha hk, hS ⟨a.list⟩ ⟨h3, errS_in he ha hk⟩ h4⟩⟩
theorem rf_told {l : List VValue} (hz : zL enc_VValue l ≤ big) (he : errS l = 0) : ∃ y, ref10_told l = some y ∧ MayR y (toldS l) := by
  refine recE_rel mono_ref10_told (fun x => zL enc_VValue x) (fun x => zL enc_VValue x ≤ big ∧ errS x = 0) (fun x y => MayR y (toldS x)) (fun S x hx hS => ?_) (x := l) ⟨hz, he⟩
  obtain ⟨hz, he⟩ := hx
  rw [toldS_eq]
  refine rf_told_B hz fun a ha => ?_
  obtain ⟨h1, h2, h3, h4⟩ := zl_in hz ha
  refine ⟨h1, h3, fun hk => ⟨errS_in he ha hk, hS a.list ⟨h3, errS_in he ha hk⟩ h4⟩⟩

theorem one_size {x : List VValue} {d : VDecl} (h : oneS x = some d) : bCells (enc_VDecl d) ≤ zL enc_VValue x := by
  unfold oneS at h
  have hx : zL enc_VValue (trimS x) ≤ zL enc_VValue x := zL_sub ((trimB_sub _).trans (sp_sub _))
  generalize trimS x = m at *
  cases m with
  | nil => cases h
  | cons a r =>
    simp only at h
    cases h1 : a.token.kind == 1 with
    | false => rw [h1] at h; cases h
    | true =>
      rw [h1] at h
      simp only [cond_true] at h
      have hsr : zL enc_VValue (sp r) ≤ zL enc_VValue r := zL_sub (sp_sub _)
      cases hs : sp r with
      | nil => rw [hs] at h; cases h
      | cons c r2 =>
        rw [hs] at h hsr
        simp only at h
        cases h2 : c.token.kind == 16 with
        | false => rw [h2] at h; cases h
        | true =>
          rw [h2] at h
          simp only [cond_true] at h
          cases h3 : declS ⟨nameO a.token.text, (markS (sp r2)).1, (markS (sp r2)).2⟩ with
          | false => rw [h3] at h; cases h
          | true =>
            rw [h3] at h
            injection h with h
            subst h
            rw [zDecl_eq]
            have hv : zL enc_VValue (markS (sp r2)).1 ≤ zL enc_VValue r2 := zL_sub ((mark_pre (sp r2)).sublist.trans (sp_sub _))
            have hn : (nameO a.token.text).length = a.token.text.length := by
              unfold nameO
              cases List.isPrefixOf [45, 45] a.token.text with
              | true => rfl
              | false => exact List.length_map _
            have hva := zValue_eq a
            rw [zL_cons] at hx hsr
            simp only [hn]
            omega
theorem zNo : bCells (enc_VDecl noD) = 3 := by
  rw [zDecl_eq]; rfl
theorem zCnd (k : Int) (n : Str) (u : Int) (d : VDecl) (l : List VCond) : bCells (enc_VCond ⟨k, n, u, d, l⟩) = 4 + n.length + bCells (enc_VDecl d) + zL enc_VCond l := by
  rw [zCond_eq]; simp only; omega
theorem zNil : zL enc_VCond [] = 0 := rfl
theorem term_size {f : List VValue → Option VCond} {a : VValue} {c : VCond} (hf : ∀ c, f a.list = some c → bCells (enc_VCond c) ≤ 2 * zL enc_VValue a.list) (h : termF f a = some c) : bCells (enc_VCond c) ≤ 2 * bCells (enc_VValue a) := by
  have hva := zValue_eq a
  have ho : bCells (enc_VCond otherC) = 7 := by unfold otherC; rw [zCnd, zNo, zNil]; rfl
  unfold termF at h
  cases h2 : a.token.kind == 2 with
  | true => rw [h2] at h; injection h with h; subst h; omega
  | false =>
    rw [h2] at h
    cases h3 : a.token.kind == 21 with
    | false => rw [h3] at h; cases h
    | true =>
      rw [h3] at h
      simp only [cond_true, cond_false] at h
      cases hd : oneS a.list with
      | some d =>
        rw [hd] at h
        injection h with h
        subst h
        have := one_size hd
        unfold declC
        rw [zCnd, zNil]
        simp only [List.length_nil]
        omega
      | none =>
        rw [hd] at h
        simp only at h
        cases hfl : f a.list with
        | none => rw [hfl] at h; injection h with h; subst h; omega
        | some z =>
          rw [hfl] at h
          injection h with h
          subst h
          have := hf z hfl
          omega
theorem more_size {f : List VValue → Option VCond} {op : Str} : ∀ (n : Nat) {flag : Bool} {l : List VValue} {q : List VCond}, l.length < n → (∀ a ∈ l, ∀ c, f a.list = some c → bCells (enc_VCond c) ≤ 2 * zL enc_VValue a.list) →
    moreS f op flag l = some q → zL enc_VCond q ≤ 2 * zL enc_VValue l.tail
  | 0, _, _, _, h, _, _ => by omega
  | n + 1, flag, [], q, _, _, h => by
    rw [moreS_nil] at h
    injection h with h
    subst h
    exact Nat.zero_le _
  | n + 1, flag, a :: r, q, hn, hf, h => by
    rw [moreS_cons] at h
    have hl := sp_len r
    have hz := zL_sub (f := enc_VValue) (sp_sub r)
    rw [List.length_cons] at hn
    have hfr : ∀ a ∈ sp r, ∀ c, f a.list = some c → bCells (enc_VCond c) ≤ 2 * zL enc_VValue a.list := fun b hb => hf b (List.mem_cons_of_mem _ ((sp_sub r).subset hb))
    cases hg : flag && (isW op a && decide ((sp r).length < r.length)) with
    | false => rw [hg] at h; cases h
    | true =>
      rw [hg] at h
      simp only [cond_true] at h
      cases hs : sp r with
      | nil => rw [hs] at h; cases h
      | cons b r' =>
        rw [hs] at h hl hz hfr
        simp only at h
        cases ht : termF f b with
        | none => rw [ht] at h; cases h
        | some x =>
          rw [ht] at h
          simp only at h
          cases hm : moreS f op (decide ((sp r').length < r'.length)) (sp r') with
          | none => rw [hm] at h; cases h
          | some z =>
            rw [hm] at h
            injection h with h
            subst h
            have hl' := sp_len r'
            rw [List.length_cons] at hl
            have h1 := term_size (hfr b List.mem_cons_self) ht
            have h2 := more_size n (l := sp r') (by omega) (fun c hc => hfr c (List.mem_cons_of_mem _ ((sp_sub r').subset hc))) hm
            have h3 := zL_sub (f := enc_VValue) ((List.tail_sublist (sp r')).trans (sp_sub r'))
            rw [zL_cons] at hz
            rw [zL_cons, List.tail_cons]
            omega
theorem toldB_size {f : List VValue → Option VCond} {l : List VValue} {c : VCond} (hf : ∀ a ∈ l, ∀ c, f a.list = some c → bCells (enc_VCond c) ≤ 2 * zL enc_VValue a.list) (h : toldB f l = some c) : bCells (enc_VCond c) ≤ 2 * zL enc_VValue l := by
  rw [toldT_eq] at h
  have hz := zL_sub (f := enc_VValue) (sp_sub l)
  have hf0 : ∀ a ∈ sp l, ∀ c, f a.list = some c → bCells (enc_VCond c) ≤ 2 * zL enc_VValue a.list := fun b hb => hf b ((sp_sub l).subset hb)
  generalize sp l = m at *
  cases m with
  | nil => cases h
  | cons a r =>
    unfold toldT at h
    simp only at h
    have hva := zValue_eq a
    rw [zL_cons] at hz
    have hr := zL_sub (f := enc_VValue) (sp_sub r)
    have hfr : ∀ a ∈ sp r, ∀ c, f a.list = some c → bCells (enc_VCond c) ≤ 2 * zL enc_VValue a.list := fun b hb => hf0 b (List.mem_cons_of_mem _ ((sp_sub r).subset hb))
    cases hn : isW notW a with
    | true =>
      rw [hn] at h
      simp only [cond_true] at h
      cases hg : decide ((sp r).length < r.length) && (sp (sp r).tail).isEmpty with
      | false => rw [hg] at h; cases h
      | true =>
        rw [hg] at h
        simp only [cond_true] at h
        cases hs : sp r with
        | nil => rw [hs] at h; cases h
        | cons b t =>
          rw [hs] at h hr hfr
          simp only [headT] at h
          cases ht : termF f b with
          | none => rw [ht] at h; cases h
          | some x =>
            rw [ht] at h
            injection h with h
            subst h
            have := term_size (hfr b List.mem_cons_self) ht
            unfold notC
            rw [zCnd, zNo, zL_cons, zNil]
            rw [zL_cons] at hr
            simp only [List.length_nil]
            omega
    | false =>
      rw [hn] at h
      simp only [cond_false] at h
      cases ht : termF f a with
      | none => rw [ht] at h; cases h
      | some x =>
        rw [ht] at h
        simp only at h
        have h1 := term_size (hf0 a List.mem_cons_self) ht
        cases hs : sp r with
        | nil => rw [hs] at h; injection h with h; subst h; omega
        | cons w t =>
          rw [hs] at h hr hfr
          simp only at h
          have hvw := zValue_eq w
          rw [zL_cons] at hr
          have more : ∀ op q, moreS f op (decide ((w :: t).length < r.length)) (w :: t) = some q → zL enc_VCond q ≤ 2 * zL enc_VValue t := fun op q hq => more_size _ (Nat.lt_succ_self _) hfr hq
          cases ho : isW orW w with
          | true =>
            rw [ho] at h
            simp only [cond_true] at h
            cases hm : moreS f orW (decide ((w :: t).length < r.length)) (w :: t) with
            | none => rw [hm] at h; cases h
            | some q =>
              rw [hm] at h
              injection h with h
              subst h
              have := more _ _ hm
              unfold orC
              rw [zCnd, zNo, zL_cons]
              simp only [List.length_nil]
              omega
          | false =>
            rw [ho] at h
            simp only [cond_false] at h
            cases hm : moreS f andW (decide ((w :: t).length < r.length)) (w :: t) with
            | none => rw [hm] at h; cases h
            | some q =>
              rw [hm] at h
              injection h with h
              subst h
              have := more _ _ hm
              unfold allC
              rw [zCnd, zNo, zL_cons]
              simp only [List.length_nil]
              omega
theorem told_size : ∀ (n : Nat) {l : List VValue} {c : VCond}, zL enc_VValue l < n → toldS l = some c → bCells (enc_VCond c) ≤ 2 * zL enc_VValue l
  | 0, _, _, h, _ => by omega
  | n + 1, l, c, hn, h => by
    rw [toldS_eq] at h
    refine toldB_size (fun a ha c hc => ?_) h
    have := zL_in ha
    exact told_size n (by omega) hc
def supS (x : List VValue) : VCond × Int :=
  if errS x = 0 then (match toldS x with
    | some c => bif supportC c then (c, 0) else (nilC, 12)
    | none => (nilC, 12)) else (nilC, errS x)
theorem Supports_eq {x : List VValue} (hz : 2 * zL enc_VValue x ≤ big) : cond_Supports x = some (supS x) := by
  unfold cond_Supports supS
  have hsz := szL_zL x
  simp only [nest_check (show szL x ≤ big by omega), bindO, Option.bind_some]
  by_cases he : errS x = 0
  · have e0 : ((0 : Int) != 0) = false := rfl
    obtain ⟨⟨⟨c, b⟩, rd⟩, g1, g2, g3⟩ := rd_told (show zL enc_VValue x ≤ big by omega) he
    simp only [he, e0, cond_false, if_true, g1, Option.bind_some, eta_Cond]
    cases ht : toldS x with
    | none =>
      rw [ht] at g2
      obtain rfl : b = false := g2
      rfl
    | some z =>
      rw [ht] at g2
      obtain rfl : b = true := g2
      obtain rfl : c = z := g3 z ht
      have := told_size _ (Nat.lt_succ_self _) ht
      simp only [Bool.not_true, Bool.not_false, condO_true, cond_Check_eq' (show bCells (enc_VCond c) ≤ big by omega), Option.bind_some, cond_false]
      cases supportC c <;> rfl
  · have e0 : (errS x != 0) = true := bne_iff_ne.2 he
    simp only [if_neg he, e0, cond_true]
    rfl
where
  cond_Check_eq' {c : VCond} (h : bCells (enc_VCond c) ≤ big) : cond_CheckSupports c = some (bif supportC c then 0 else 8) := cond_CheckSupports_eq h
theorem rSupports_eq {x : List VValue} (hz : 2 * zL enc_VValue x ≤ big) : ref10_Supports x = some (supS x) := by
  unfold ref10_Supports supS ref10_Told
  have hsz := szL_zL x
  simp only [ref_check (show szL x ≤ big by omega), bindO, Option.bind_some]
  by_cases he : errS x = 0
  · have e0 : ((0 : Int) != 0) = false := rfl
    obtain ⟨⟨c, b⟩, g1, g2, g3⟩ := rf_told (show zL enc_VValue x ≤ big by omega) he
    simp only [he, e0, cond_false, if_true, g1, Option.bind_some, eta_Cond]
    cases ht : toldS x with
    | none =>
      rw [ht] at g2
      obtain rfl : b = false := g2
      rfl
    | some z =>
      rw [ht] at g2
      obtain rfl : b = true := g2
      obtain rfl : c = z := g3 z ht
      have := told_size _ (Nat.lt_succ_self _) ht
      simp only [condO_true, ref10_Supportive_eq (show bCells (enc_VCond c) ≤ big by omega), Option.bind_some, cond_true]
      cases supportC c <;> rfl
  · have e0 : (errS x != 0) = true := bne_iff_ne.2 he
    simp only [if_neg he, e0, cond_true]
    rfl
end Go.Lv.VT

namespace Go.Lv.VT
theorem feat_size {a : VValue} {c : VCond} (h : featS a = some c) : bCells (enc_VCond c) = 7 := by
  have hk : ∀ (k : Int) (r : List VValue), featK k r = some c → bCells (enc_VCond c) = 7 := by
    intro k r h
    unfold featK at h
    cases h1 : sp r with
    | nil => rw [h1] at h; cases h
    | cons d r2 =>
      rw [h1] at h
      simp only at h
      cases h2 : d.token.kind == 16 with
      | false => rw [h2] at h; cases h
      | true =>
        rw [h2] at h
        simp only [cond_true] at h
        cases h3 : sp r2 with
        | nil => rw [h3] at h; cases h
        | cons t r3 =>
          rw [h3] at h
          simp only at h
          cases h4 : (sp r3).isEmpty && pxS t.token with
          | false => rw [h4] at h; cases h
          | true =>
            rw [h4] at h
            injection h with h
            subst h
            rw [zCnd, zNo, zNil]; rfl
  unfold featS at h
  cases h1 : a.token.kind == 21 with
  | false => rw [h1] at h; cases h
  | true =>
    rw [h1] at h
    simp only [cond_true] at h
    unfold featM at h
    cases hs : sp a.list with
    | nil => rw [hs] at h; cases h
    | cons w r =>
      rw [hs] at h
      simp only at h
      cases h2 : isW minW w with
      | true => rw [h2] at h; exact hk 5 r h
      | false =>
        rw [h2] at h
        cases h3 : isW maxW w with
        | true => rw [h3] at h; exact hk 6 r h
        | false => rw [h3] at h; cases h
theorem rest_size : ∀ (n : Nat) {l : List VValue} {q : List VCond}, l.length < n → restS l = some q → zL enc_VCond q ≤ 2 * zL enc_VValue l
  | 0, _, _, h, _ => by omega
  | n + 1, l, q, hn, h => by
    rw [restS_eq] at h
    have hl := sp_len l
    have hz := zL_sub (f := enc_VValue) (sp_sub l)
    cases hs : sp l with
    | nil => rw [hs] at h; injection h with h; subst h; exact Nat.zero_le _
    | cons a r =>
      rw [hs] at h hl hz
      simp only at h
      cases h1 : isW andW a with
      | false => rw [h1] at h; cases h
      | true =>
        rw [h1] at h
        simp only [cond_true] at h
        have hlr := sp_len r
        have hzr := zL_sub (f := enc_VValue) (sp_sub r)
        cases hs2 : sp r with
        | nil => rw [hs2] at h; cases h
        | cons b r' =>
          rw [hs2] at h hlr hzr
          simp only at h
          cases hf : featS b with
          | none => rw [hf] at h; cases h
          | some x =>
            rw [hf] at h
            simp only at h
            cases hr : restS r' with
            | none => rw [hr] at h; cases h
            | some z =>
              rw [hr] at h
              injection h with h
              subst h
              rw [List.length_cons] at hl hlr
              have h7 := feat_size hf
              have h2 := rest_size n (l := r') (by omega) hr
              have hvb := zValue_eq b
              rw [zL_cons] at hz hzr
              rw [zL_cons]
              omega
theorem first_size {only : Bool} {l : List VValue} {c : VCond} (h : firstQ only l = some c) : bCells (enc_VCond c) + 2 * zL enc_VValue l.tail ≤ 2 * zL enc_VValue l := by
  unfold firstQ at h
  cases l with
  | nil => cases h
  | cons a r =>
    simp only at h
    have hva := zValue_eq a
    rw [zL_cons, List.tail_cons]
    cases h1 : a.token.kind == 1 with
    | true =>
      rw [h1] at h
      simp only [cond_true] at h
      cases h2 : medS (lowS a.token.text) with
      | false => rw [h2] at h; cases h
      | true =>
        rw [h2] at h
        injection h with h
        subst h
        have : (lowS a.token.text).length = a.token.text.length := by unfold lowS; exact List.length_map _
        unfold medC
        rw [zCnd, zNo, zNil]
        omega
    | false =>
      rw [h1] at h
      cases only with
      | true => cases h
      | false =>
        have := feat_size (show featS a = some c from h)
        omega
theorem body_size {not only : Bool} {l : List VValue} {c : VCond} (h : bodyQ not only l = some c) : bCells (enc_VCond c) ≤ 2 * zL enc_VValue l + 14 := by
  rw [bodyQ_eq] at h
  cases hf : firstQ only l with
  | none => rw [hf] at h; cases h
  | some x =>
    rw [hf] at h
    simp only at h
    cases hr : restS l.tail with
    | none => rw [hr] at h; cases h
    | some q =>
      rw [hr] at h
      injection h with h
      subst h
      have h1 := first_size hf
      have h2 := rest_size _ (Nat.lt_succ_self _) hr
      unfold finQ
      cases not with
      | true =>
        simp only [cond_true]
        unfold notC allC
        rw [zCnd, zNo, zL_cons, zNil, zCnd, zNo, zL_cons]
        simp only [List.length_nil]
        omega
      | false =>
        simp only [cond_false]
        unfold allC
        rw [zCnd, zNo, zL_cons]
        simp only [List.length_nil]
        omega
theorem query_size (p : List VValue) : bCells (enc_VCond (orN (queryQ p))) ≤ 2 * zL enc_VValue p + 24 := by
  cases hq : queryQ p with
  | none =>
    have : bCells (enc_VCond (orN none)) = 24 := by
      show bCells (enc_VCond neverC) = 24
      unfold neverC notC allC medC
      rw [zCnd, zNo, zL_cons, zNil, zCnd, zNo, zL_cons, zNil, zCnd, zNo, zNil]
      rfl
    omega
  | some c =>
    show bCells (enc_VCond c) ≤ _
    have h1 := zL_sub (f := enc_VValue) (sp_sub p)
    have h2 := zL_sub (f := enc_VValue) ((sp_sub (sp p).tail).trans (List.tail_sublist _))
    unfold queryQ at hq
    cases hn : headW notW (sp p) with
    | true =>
      rw [hn] at hq
      have := body_size (show bodyQ true true (sp (sp p).tail) = some c from hq)
      omega
    | false =>
      rw [hn] at hq
      cases ho : headW onlyW (sp p) with
      | true =>
        rw [ho] at hq
        have := body_size (show bodyQ false true (sp (sp p).tail) = some c from hq)
        omega
      | false =>
        rw [ho] at hq
        have := body_size (show bodyQ false false (sp p) = some c from hq)
        omega
def zP (l : List (List VValue)) : Nat := (l.map fun p => zL enc_VValue p).sum
theorem zP_app (a b : List (List VValue)) : zP (a ++ b) = zP a + zP b := by
  unfold zP; rw [List.map_append, List.sum_append]
theorem zL_snoc (l : List VValue) (v : VValue) : zL enc_VValue (l ++ [v]) = zL enc_VValue l + bCells (enc_VValue v) := by
  induction l with
  | nil => rw [List.nil_append, zL_cons]; show _ + 0 = 0 + _; omega
  | cons a l ih => rw [List.cons_append, zL_cons, zL_cons, ih]; omega
theorem cuts_z (k : Int) : ∀ (l : List VValue) (a : List (List VValue) × List VValue), zP (l.foldl (cutsP k) a).1 + zL enc_VValue (l.foldl (cutsP k) a).2 ≤ zP a.1 + zL enc_VValue a.2 + zL enc_VValue l
  | [], a => by rw [List.foldl_nil]; exact Nat.le_add_right _ _
  | v :: l, a => by
    rw [List.foldl_cons, zL_cons]
    have h := cuts_z k l (cutsP k a v)
    have : zP (cutsP k a v).1 + zL enc_VValue (cutsP k a v).2 ≤ zP a.1 + zL enc_VValue a.2 + bCells (enc_VValue v) := by
      unfold cutsP
      split
      · rw [zP_app]
        have e : zP [a.2] = zL enc_VValue a.2 := by unfold zP; simp
        have e2 : zL enc_VValue [] = 0 := rfl
        simp only [e, e2]
        omega
      · simp only [zL_snoc]; omega
    omega
theorem cutsS_z (k : Int) (l : List VValue) : zP (cutsS k l) ≤ zL enc_VValue l := by
  have h := cuts_z k l ([], [])
  have e : zP [(cutsF k l).2] = zL enc_VValue (cutsF k l).2 := by unfold zP; simp
  have e2 : zL enc_VValue [] = 0 := rfl
  have e3 : zP [] = 0 := rfl
  unfold cutsS
  rw [zP_app, e]
  unfold cutsF
  simp only [e2, e3] at h
  omega
theorem asks_size : ∀ l : List (List VValue), zL enc_VCond (l.map fun p => orN (queryQ p)) ≤ 2 * zP l + 24 * l.length
  | [] => Nat.le_refl _
  | p :: l => by
    have h1 := query_size p
    have h2 := asks_size l
    have e : zP (p :: l) = zL enc_VValue p + zP l := by unfold zP; simp
    rw [List.map_cons, zL_cons, List.length_cons, e]
    omega
theorem nil_size : bCells (enc_VCond nilC) = 7 := by unfold nilC; rw [zCnd, zNo, zNil]; rfl
theorem media_size (x : List VValue) : bCells (enc_VCond (mediaS x).1) ≤ 2 * zL enc_VValue x + 2000 := by
  have hn := nil_size
  unfold mediaS
  split
  · split
    · have : bCells (enc_VCond (allC [])) = 7 := by unfold allC; rw [zCnd, zNo, zNil]; rfl
      show bCells (enc_VCond (allC [])) ≤ _
      omega
    · split
      · show bCells (enc_VCond nilC) ≤ _
        omega
      · show bCells (enc_VCond (askedS x)) ≤ _
        have h1 := asks_size (cutsS 18 x)
        have h2 := cutsS_z 18 x
        unfold askedS
        rw [zCnd, zNo]
        simp only [List.length_nil]
        omega
  · show bCells (enc_VCond nilC) ≤ _
    omega
theorem sup_size (x : List VValue) : bCells (enc_VCond (supS x).1) ≤ 2 * zL enc_VValue x + 2000 := by
  have hn := nil_size
  unfold supS
  split
  · cases ht : toldS x with
    | none => show bCells (enc_VCond nilC) ≤ _; omega
    | some c =>
      have := told_size _ (Nat.lt_succ_self _) ht
      simp only
      cases supportC c with
      | true => show bCells (enc_VCond c) ≤ _; omega
      | false => show bCells (enc_VCond nilC) ≤ _; omega
  · show bCells (enc_VCond nilC) ≤ _; omega

theorem same_refl {a : List VValue} (h : szL a ≤ big) : ref04_Same (a, a) = some true := by
  refine recE_meas (fun x : List VValue × List VValue => szL x.1) (fun x => szL x.1 ≤ big ∧ x.1 = x.2) (fun x => true) (fun S x hl hS => ?_) (show szL (a, a).1 ≤ big ∧ (a, a).1 = (a, a).2 from ⟨h, rfl⟩)
  obtain ⟨l, l'⟩ := x
  obtain ⟨hl, he⟩ := hl
  simp only at hl hS he
  subst he
  unfold ref04_Same_B
  have hlen := szL_len l
  have hne : ((l.length : Int) != (l.length : Int)) = false := by simp
  simp only [hne, cond_false]
  refine (loopK_ov l (fun i (_ : Unit) => (i : Int)) (fun v (_ : Unit) => some (.again ())) (fun _ => some (.out ())) (a := ()) rfl (fun i a hi => ?_) (fun a => ?_) (r := .out ()) ?_)
  · have hsz := szL_mem (List.getElem_mem hi)
    have hv2 := szV_eq l[i]
    have hs1 : szL l[i].list ≤ big := by omega
    have hs2 : szL l[i].list < szL l := by omega
    have hSq : S (l[i].list, l[i].list) = some true := hS (l[i].list, l[i].list) ⟨hs1, rfl⟩ hs2
    simp [hi, geti_eq hi, hSq, w64_succ hi (by omega)]
  · simp only [lt_self, cond_false]
    rfl
  · rw [overL_fold (fun a v => a) (fun v a => rfl)]
theorem same1_refl {d : VDecl} (h : zL enc_VValue d.value ≤ big) : ref05_Same1 (d, d) = some true := by
  unfold ref05_Same1
  have := szL_zL d.value
  have e1 : (d.name == d.name) = true := beq_self_eq_true _
  have e2 : (d.important == d.important) = true := beq_self_eq_true _
  simp only [e1, e2, cond_true, condO_true, same_refl (show szL d.value ≤ big by omega), bindO, Option.bind_some]
theorem cond_refl {c : VCond} (h : bCells (enc_VCond c) ≤ big) : ref10_Same (c, c) = some true := by
  refine recE_meas (fun x : VCond × VCond => bCells (enc_VCond x.1)) (fun x => bCells (enc_VCond x.1) ≤ big ∧ x.1 = x.2) (fun x => true) (fun S x hl hS => ?_) (show bCells (enc_VCond (c, c).1) ≤ big ∧ (c, c).1 = (c, c).2 from ⟨h, rfl⟩)
  obtain ⟨c, c'⟩ := x
  obtain ⟨hl, he⟩ := hl
  simp only at hl hS he
  subst he
  unfold ref10_Same_B
  have hlen := zCond_list c
  have hd := zCond_decl c
  rw [zDecl_eq] at hd
  have e1 : (c.kind != c.kind) = false := by simp
  have e2 : (c.name == c.name) = true := beq_self_eq_true _
  have e3 : (c.num != c.num) = false := by simp
  have e4 : ((c.list.length : Int) != (c.list.length : Int)) = false := by simp
  simp only [e1, e2, e3, e4, cond_false, Bool.not_true, Bool.not_false, condO_true, same1_refl (show zL enc_VValue c.decl.value ≤ big by omega), bindO, Option.bind_some]
  refine (loopK_ov c.list (fun i (_ : Unit) => (i : Int)) (fun v (_ : Unit) => some (.again ())) (fun _ => some (.out ())) (a := ()) rfl (fun i a hi => ?_) (fun a => ?_) (r := .out ()) ?_)
  · have hsz := zCond_mem (List.getElem_mem hi)
    have hSq : S (c.list[i], c.list[i]) = some true := hS (c.list[i], c.list[i]) ⟨by show bCells (enc_VCond c.list[i]) ≤ big; omega, rfl⟩ hsz
    simp [hi, geti_eq hi, hSq, w64_succ hi (by omega), eta_Cond]
  · simp only [lt_self, cond_false]
    rfl
  · rw [overL_fold (fun a v => a) (fun v a => rfl)]

theorem law_CondReads {x : List VValue} (hz : 2 * zL enc_VValue x + 2000 ≤ big) : law10_CondReads x = some true := by
  unfold law10_CondReads
  have hsz := szL_zL x
  have hG : ∃ b, ref04_Great x = some b := by
    unfold ref04_Great
    obtain ⟨r, hr⟩ := ref04_Size_ex (l := x) (m := 300) (by omega)
    simp only [hr, bindO, Option.bind_some, ref_deep (show szL x ≤ big by omega), condO_some]
    exact ⟨_, rfl⟩
  obtain ⟨b, hb⟩ := hG
  simp only [hb, bindO, Option.bind_some]
  cases b with
  | true => rfl
  | false =>
    have h1 := media_size x
    have h2 := sup_size x
    have e1 : ((mediaS x).2 == (mediaS x).2) = true := beq_self_eq_true _
    have e2 : ((supS x).2 == (supS x).2) = true := beq_self_eq_true _
    simp only [cond_false, Media_eq (show zL enc_VValue x ≤ big by omega), rMedia_eq (show zL enc_VValue x ≤ big by omega), Supports_eq (show 2 * zL enc_VValue x ≤ big by omega), rSupports_eq (show 2 * zL enc_VValue x ≤ big by omega), Option.bind_some, eta_Cond,
      cond_refl (show bCells (enc_VCond (mediaS x).1) ≤ big by omega), cond_refl (show bCells (enc_VCond (supS x).1) ≤ big by omega), e1, e2, cond_true, condO_true]
end Go.Lv.VT
