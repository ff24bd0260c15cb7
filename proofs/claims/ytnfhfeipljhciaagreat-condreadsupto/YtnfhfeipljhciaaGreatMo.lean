/- Laws for the plain texts: loops that look for something; bytes. -/
import Derived.Test.YtnfhfeipljhciaaGreatLf
import Derived.Test.YtnfhfeipljhciaaGreatLe
import Derived.Test.YtnfhfeipljhciaaGreatTx
namespace Go.Lv.VT
abbrev big : Nat := 4194304
theorem lt_true {i n : Nat} (h : i < n) : decide ((i : Int) < (n : Int)) = true := decide_eq_true (by omega)
theorem lt_self (n : Nat) : decide ((n : Int) < (n : Int)) = false := decide_eq_false (by omega)
theorem w64_succ {i n : Nat} (h : i < n) (hn : n ≤ big) : w64 ((i : Int) + 1) = ((i + 1 : Nat) : Int) := by
  rw [w64, wrap64_id (by omega) (by unfold big at hn; omega)]; omega
theorem condO_some {α : Type} (b : Bool) (v d : α) : condO b (some v) d = some (bif b then v else d) := by cases b <;> rfl
theorem loopK_find {α X R : Type} {step : Int → Option (LO Int X R)} {k : X → Option R} (l : List α) (q : α → Option R) (x : X)
    (hg : ∀ (i : Nat) (h : i < l.length), step (i : Int) = some (match q l[i] with | some r => .ret r | none => .again ((i + 1 : Nat) : Int)))
    (hf : step (l.length : Int) = some (.out x)) : loopK step 0 k = match l.findSome? q with | some r => some r | none => k x := by
  have key : ∀ (m : List α) (i : Nat), l.drop i = m → i ≤ l.length → ∃ n, iterF step n (i : Int) = some (match m.findSome? q with | some r => .ret r | none => .out x) := by
    intro m
    induction m with
    | nil =>
      intro i hd hi
      have : i = l.length := by have := List.drop_eq_nil_iff.1 hd; omega
      subst this
      exact ⟨1, by simp only [iterF, hf, List.findSome?_nil]⟩
    | cons v m ih =>
      intro i hd hi
      have hlt : i < l.length := by
        rcases Nat.lt_or_ge i l.length with h | h
        · exact h
        · rw [List.drop_eq_nil_of_le h] at hd; cases hd
      have hv : l[i] = v := by
        have := List.drop_eq_getElem_cons hlt
        rw [hd] at this
        injection this with h1 _
        exact h1.symm
      have hs := hg i hlt
      rw [hv] at hs
      cases hq : q v with
      | some r =>
        rw [hq] at hs
        exact ⟨1, by simp only [iterF, hs, List.findSome?_cons, hq]⟩
      | none =>
        rw [hq] at hs
        obtain ⟨n, hn⟩ := ih (i + 1) (by rw [List.drop_eq_getElem_cons hlt] at hd; injection hd) (by omega)
        refine ⟨n + 1, ?_⟩
        simp only [iterF, hs, List.findSome?_cons, hq]
        exact hn
  obtain ⟨n, hn⟩ := key l 0 rfl (by omega)
  replace hn : iterF step n 0 = _ := hn
  rw [loopK_go (loopF_of hn)]
  cases l.findSome? q <;> rfl

theorem find_all {α R : Type} (p : α → Bool) (r : R) : ∀ (l : List α), l.findSome? (fun v => bif p v then none else some r) = bif l.all p then none else some r
  | [] => rfl
  | v :: l => by
    rw [List.findSome?_cons, List.all_cons]
    cases p v with
    | false => rfl
    | true => exact find_all p r l
theorem find_any {α R : Type} (p : α → Bool) (r : R) : ∀ (l : List α), l.findSome? (fun v => bif p v then some r else none) = bif l.any p then some r else none
  | [] => rfl
  | v :: l => by
    rw [List.findSome?_cons, List.any_cons]
    cases p v with
    | true => rfl
    | false => exact find_any p r l

def idxS {α : Type} (p : α → Bool) : List α → Int
  | [] => -1
  | v :: l => bif p v then 0 else bif decide (idxS p l < 0) then -1 else idxS p l + 1
theorem idxS_any {α : Type} (p : α → Bool) : ∀ (l : List α), decide (idxS p l ≥ 0) = l.any p
  | [] => rfl
  | v :: l => by
    have ih := idxS_any p l
    rw [List.any_cons, idxS]
    cases p v with
    | true => rfl
    | false =>
      simp only [cond_false, Bool.false_or]
      rw [← ih]
      by_cases h : idxS p l < 0
      · rw [decide_eq_true h, cond_true]; simp only [ge_iff_le]; rw [decide_eq_false (by omega), decide_eq_false (by omega)]
      · rw [decide_eq_false h, cond_false, decide_eq_true (by omega), decide_eq_true (by omega)]
theorem idxS_ge {α : Type} (p : α → Bool) : ∀ (l : List α), -1 ≤ idxS p l ∧ idxS p l < l.length
  | [] => by simp [idxS]
  | v :: l => by
    have := idxS_ge p l
    rw [idxS, List.length_cons]
    cases p v with
    | true => simp only [cond_true]; omega
    | false =>
      simp only [cond_false]
      cases decide (idxS p l < 0) <;> simp only [cond_true, cond_false] <;> omega

theorem loop_idx {α : Type} {step : Int → Option (LO Int Unit Int)} (l : List α) (p : α → Bool) (hn : l.length ≤ big)
    (hg : ∀ (i : Nat) (h : i < l.length), step (i : Int) = bif p l[i] then some (.ret (i : Int)) else some (.again (w64 ((i : Int) + 1))))
    (hf : step (l.length : Int) = some (.out ())) : loopK step 0 (fun _ => some (-1)) = some (idxS p l) := by
  have key : ∀ (m : List α) (i : Nat), l.drop i = m → i ≤ l.length → ∃ n, iterF step n (i : Int) = some (bif decide (idxS p m < 0) then .out () else .ret ((i : Int) + idxS p m)) := by
    intro m
    induction m with
    | nil =>
      intro i hd hi
      have : i = l.length := by have := List.drop_eq_nil_iff.1 hd; omega
      subst this
      exact ⟨1, by simp only [iterF, hf]; rfl⟩
    | cons v m ih =>
      intro i hd hi
      have hlt : i < l.length := by
        rcases Nat.lt_or_ge i l.length with h | h
        · exact h
        · rw [List.drop_eq_nil_of_le h] at hd; cases hd
      have hv : l[i] = v := by
        have := List.drop_eq_getElem_cons hlt
        rw [hd] at this
        injection this with h1 _
        exact h1.symm
      have hs := hg i hlt
      rw [hv] at hs
      cases hq : p v with
      | true =>
        rw [hq] at hs
        refine ⟨1, ?_⟩
        simp only [iterF, hs, cond_true, idxS, hq]
        simp
      | false =>
        rw [hq, cond_false, w64_succ hlt hn] at hs
        obtain ⟨n, hn'⟩ := ih (i + 1) (by rw [List.drop_eq_getElem_cons hlt] at hd; injection hd) (by omega)
        refine ⟨n + 1, ?_⟩
        simp only [iterF, hs, idxS, hq, cond_false]
        rw [hn']
        have hb := idxS_ge p m
        by_cases h0 : idxS p m < 0
        · rw [decide_eq_true h0]; rfl
        · rw [decide_eq_false h0, cond_false, cond_false, decide_eq_false (by omega), cond_false]
          congr 2
          omega
  obtain ⟨n, hn'⟩ := key l 0 rfl (by omega)
  replace hn' : iterF step n 0 = _ := hn'
  rw [loopK_go (loopF_of hn')]
  have hb := idxS_ge p l
  by_cases h0 : idxS p l < 0
  · rw [decide_eq_true h0]
    show some (-1) = _
    congr 1; omega
  · rw [decide_eq_false h0]
    show some ((0 : Nat) + idxS p l) = _
    congr 1; omega

end Go.Lv.VT

namespace Go.Lv
theorem Le.lp {S X R : Type} {step step' : S → Option (LO S X R)} {s : S} {k k' : X → Option R} (h : ∀ s, Le (step s) (step' s)) (hk : ∀ x, Le (k x) (k' x)) : Le (loopK step s k) (loopK step' s k') := by
  intro y hy
  unfold loopK at hy
  cases hl : loopF step s with
  | none => rw [hl] at hy; cases hy
  | some r =>
    rw [hl] at hy
    obtain ⟨n, hn⟩ := loopF_iter hl
    rw [loopK_go (loopF_of (iterF_le h n s r hn))]
    cases r with
    | out x => exact hk x y hy
    | ret r => exact hy

def MonoB {X Y : Type} (B : (X → Option Y) → X → Option Y) : Prop := ∀ S S' : X → Option Y, (∀ x, Le (S x) (S' x)) → ∀ x, Le (B S x) (B S' x)

theorem recE_rel {X Y : Type} {B : (X → Option Y) → X → Option Y} (hm : MonoB B) (μ : X → Nat) (ok : X → Prop) (R : X → Y → Prop)
    (hB : ∀ (S : X → Option Y) (x : X), ok x → (∀ z, ok z → μ z < μ x → ∃ y, S z = some y ∧ R z y) → ∃ y, B S x = some y ∧ R x y) {x : X} (hx : ok x) : ∃ y, recE B x = some y ∧ R x y := by
  have step : ∀ n x, Le (iterR B n x) (iterR B (n + 1) x) := by
    intro n
    induction n with
    | zero => intro x; exact Le.none
    | succ n ih => intro x; exact hm _ _ ih x
  have up : ∀ d n x, Le (iterR B n x) (iterR B (n + d) x) := by
    intro d
    induction d with
    | zero => intro n x; exact Le.rfl
    | succ d ih => intro n x y hy; exact step _ x y (ih n x y hy)
  have key : ∀ (m : Nat) (x : X), μ x < m → ok x → ∃ y, iterR B m x = some y ∧ R x y := by
    intro m
    induction m with
    | zero => intro x h; omega
    | succ m ih =>
      intro x hm hok
      exact hB _ x hok fun z hz hlt => ih z (by omega) hz
  obtain ⟨y, h1, h2⟩ := key (μ x + 1) x (by omega) hx
  refine ⟨y, recE_of (N := μ x + 1) fun n hn => ?_, h2⟩
  obtain ⟨d, rfl⟩ := Nat.le.dest hn
  exact up d _ x y h1

theorem loop_rel {A S X R : Type} {step : S → Option (LO S X R)} {k : X → Option R} (n : Nat) (st : Nat → A → S) (Inv : Nat → A → Prop) (Q : R → Prop) {s0 : S} {a0 : A} (h0 : s0 = st 0 a0) (hI : Inv 0 a0)
    (hg : ∀ (i : Nat) (a : A), i < n → Inv i a → (∃ a', step (st i a) = some (.again (st (i + 1) a')) ∧ Inv (i + 1) a') ∨ (∃ r, step (st i a) = some (.ret r) ∧ Q r) ∨ (∃ x, step (st i a) = some (.out x) ∧ ∃ r, k x = some r ∧ Q r))
    (hf : ∀ a, Inv n a → (∃ x, step (st n a) = some (.out x) ∧ ∃ r, k x = some r ∧ Q r) ∨ (∃ r, step (st n a) = some (.ret r) ∧ Q r)) : ∃ r, loopK step s0 k = some r ∧ Q r := by
  have key : ∀ (m i : Nat) (a : A), i + m = n → Inv i a → ∃ j x, iterF step j (st i a) = some x ∧ ∃ r, LX.go x k = some r ∧ Q r := by
    intro m
    induction m with
    | zero =>
      intro i a hi ha
      obtain rfl : i = n := by omega
      rcases hf a ha with ⟨x, h1, r, h2, h3⟩ | ⟨r, h1, h2⟩
      · exact ⟨1, .out x, by simp only [iterF, h1], r, h2, h3⟩
      · exact ⟨1, .ret r, by simp only [iterF, h1], r, rfl, h2⟩
    | succ m ih =>
      intro i a hi ha
      rcases hg i a (by omega) ha with ⟨a', h1, h2⟩ | ⟨r, h1, h2⟩ | ⟨x, h1, r, h2, h3⟩
      · obtain ⟨j, x, g1, g2⟩ := ih (i + 1) a' (by omega) h2
        exact ⟨j + 1, x, by simp only [iterF, h1]; exact g1, g2⟩
      · exact ⟨1, .ret r, by simp only [iterF, h1], r, rfl, h2⟩
      · exact ⟨1, .out x, by simp only [iterF, h1], r, h2, h3⟩
  obtain ⟨j, x, h1, r, h2, h3⟩ := key n 0 a0 (by omega) hI
  refine ⟨r, ?_, h3⟩
  rw [h0, loopK_go (loopF_of h1), h2]

namespace VT
def mx {α : Type} (f : α → Nat) : List α → Nat
  | [] => 0
  | v :: l => max (f v) (mx f l)
theorem loop_max {α S X R : Type} {step : S → Option (LO S X R)} {k : X → Option R} (l : List α) (f : α → Nat) (st : Nat → Nat → S) (out : Nat → X) {s0 : S} {a0 : Nat} (h0 : s0 = st a0 0)
    (hg : ∀ (i a : Nat) (h : i < l.length), step (st a i) = some (.again (st (max a (f l[i])) (i + 1))))
    (hf : ∀ a : Nat, step (st a l.length) = some (.out (out a))) : loopK step s0 k = k (out (max a0 (mx f l))) := by
  have key : ∀ (m : List α) (i a : Nat), l.drop i = m → i ≤ l.length → ∃ n, iterF step n (st a i) = some (.out (out (max a (mx f m)))) := by
    intro m
    induction m with
    | nil =>
      intro i a hd hi
      have : i = l.length := by have := List.drop_eq_nil_iff.1 hd; omega
      subst this
      exact ⟨1, by simp only [iterF, hf, mx]; rw [Nat.max_zero]⟩
    | cons v m ih =>
      intro i a hd hi
      have hlt : i < l.length := by
        rcases Nat.lt_or_ge i l.length with h | h
        · exact h
        · rw [List.drop_eq_nil_of_le h] at hd; cases hd
      have hv : l[i] = v := by
        have := List.drop_eq_getElem_cons hlt
        rw [hd] at this
        injection this with h1 _
        exact h1.symm
      have hs := hg i a hlt
      rw [hv] at hs
      obtain ⟨n, hn⟩ := ih (i + 1) (max a (f v)) (by rw [List.drop_eq_getElem_cons hlt] at hd; injection hd) (by omega)
      refine ⟨n + 1, ?_⟩
      simp only [iterF, hs]
      rw [hn, mx, Nat.max_assoc]
  obtain ⟨n, hn⟩ := key l 0 a0 rfl (by omega)
  rw [h0, loopK_go (loopF_of hn)]
  rfl
theorem max_if (a b : Nat) : (if (b : Int) > (a : Int) then (b : Int) else (a : Int)) = ((max a b : Nat) : Int) := by split <;> omega
end VT
end Go.Lv

namespace Go.Lv.VT
set_option maxRecDepth 100000
def ref01_Small_c (n : Nat) (x : Int) : Option Int :=
  bif bif decide (x ≥ 65) then decide (x ≤ 90) else false then
    some (wu8 (wu8 (x - 65) + 97))
  else
    some x
theorem le_ref01_Small (n : Nat) (x : Int) : Le (ref01_Small_c n x) (ref01_Small x) := by
  unfold ref01_Small_c ref01_Small
  exact (.bif .rfl .rfl)
def ref01_Lower_c (n : Nat) (x : Str) : Option Str :=
  need (decide (x.length ≤ maxLen)) <|
  loopC n (fun (s1 : Int × List UInt8) =>
      bif decide (s1.1 < (s1.2.length : Int)) then
        need (decide (0 ≤ s1.1) && decide (s1.1 < (s1.2.length : Int))) <|
        bindO s1.2[s1.1.toNat]? fun y2 =>
        bindO (ref01_Small_c n (y2.toNat : Int)) fun y3 =>
        need (decide (0 ≤ s1.1) && decide (s1.1 < (s1.2.length : Int))) <|
        bindO s1.2[s1.1.toNat]? fun y4 =>
        bindO (byteO y3) fun y5 =>
        some (LO.again (w64 (s1.1 + 1), List.set s1.2 s1.1.toNat y5))
      else
        some (LO.out s1.2) : Int × List UInt8 → Option (LO (Int × List UInt8) (List UInt8) _)) (0, x) fun o6 =>
  some o6
theorem le_ref01_Lower (n : Nat) (x : Str) : Le (ref01_Lower_c n x) (ref01_Lower x) := by
  unfold ref01_Lower_c ref01_Lower
  exact (.need (.loop (fun _ => (.bif (.need (.bind .rfl fun _ => (.bind (le_ref01_Small n _) fun _ => (.need (.bind .rfl fun _ => (.bind .rfl fun _ => .rfl)))))) .rfl)) fun _ => .rfl))
def ref01_Alike_c (n : Nat) (x : Str × Str) : Option Bool :=
  bindO (ref01_Lower_c n x.1) fun y1 =>
  bindO (ref01_Lower_c n x.2) fun y2 =>
  some (y1 == y2)
theorem le_ref01_Alike (n : Nat) (x : Str × Str) : Le (ref01_Alike_c n x) (ref01_Alike x) := by
  unfold ref01_Alike_c ref01_Alike
  exact (.bind (le_ref01_Lower n _) fun _ => (.bind (le_ref01_Lower n _) fun _ => .rfl))
def glue_digit_c (n : Nat) (x : Int) : Option Bool :=
  some (bif decide (48 ≤ x) then decide (x ≤ 57) else false)
theorem le_glue_digit (n : Nat) (x : Int) : Le (glue_digit_c n x) (glue_digit x) := by
  unfold glue_digit_c glue_digit
  exact .rfl
def glue_letter_c (n : Nat) (x : Int) : Option Bool :=
  some (bif bif decide (97 ≤ ibOr IntKind.u8 x 32) then decide (ibOr IntKind.u8 x 32 ≤ 122) else false then decide (x < 128) else false)
theorem le_glue_letter (n : Nat) (x : Int) : Le (glue_letter_c n x) (glue_letter x) := by
  unfold glue_letter_c glue_letter
  exact .rfl
def glue_named_c (n : Nat) (x : Int) : Option Bool :=
  bindO (glue_letter_c n x) fun y1 =>
  bindO (condO (!y1) (glue_digit_c n x) (default : Bool)) fun y2 =>
  some (bif bif bif bif y1 then true else y2 then true else x == 95 then true else x == 45 then true else decide (x ≥ 128))
theorem le_glue_named (n : Nat) (x : Int) : Le (glue_named_c n x) (glue_named x) := by
  unfold glue_named_c glue_named
  exact (.bind (le_glue_letter n _) fun _ => (.bind (.cond (le_glue_digit n _)) fun _ => .rfl))
def ref02_Digit_c (n : Nat) (x : Int) : Option Bool :=
  some (bif decide (x ≥ 48) then decide (x ≤ 57) else false)
theorem le_ref02_Digit (n : Nat) (x : Int) : Le (ref02_Digit_c n x) (ref02_Digit x) := by
  unfold ref02_Digit_c ref02_Digit
  exact .rfl
def ref02_Space_c (n : Nat) (x : Int) : Option Bool :=
  some (bif bif x == 10 then true else x == 9 then true else x == 32)
theorem le_ref02_Space (n : Nat) (x : Int) : Le (ref02_Space_c n x) (ref02_Space x) := by
  unfold ref02_Space_c ref02_Space
  exact .rfl
def ref02_At_c (n : Nat) (x : Str × Int) : Option Int :=
  bif decide (x.2 < (x.1.length : Int)) then
    bindO (geti x.1 x.2) fun y1 =>
    some (y1.toNat : Int)
  else
    some 0
theorem le_ref02_At (n : Nat) (x : Str × Int) : Le (ref02_At_c n x) (ref02_At x) := by
  unfold ref02_At_c ref02_At
  exact (.bif (.bind .rfl fun _ => .rfl) .rfl)
def ref02_spaces_c (n : Nat) (x : Str × Int) : Option Int :=
  loopC n (fun (s1 : Int) =>
      bindO (ref02_At_c n (x.1, s1)) fun y2 =>
      bindO (ref02_Space_c n y2) fun y3 =>
      bif y3 then
        some (LO.again (w64 (s1 + 1)))
      else
        some (LO.out s1) : Int → Option (LO (Int) (Int) _)) x.2 fun o4 =>
  some o4
theorem le_ref02_spaces (n : Nat) (x : Str × Int) : Le (ref02_spaces_c n x) (ref02_spaces x) := by
  unfold ref02_spaces_c ref02_spaces
  exact (.loop (fun _ => (.bind (le_ref02_At n _) fun _ => (.bind (le_ref02_Space n _) fun _ => (.bif .rfl .rfl)))) fun _ => .rfl)
def ref02_lost_c (n : Nat) (x : Unit) : Option Str :=
  some [(239 : UInt8), (191 : UInt8), (189 : UInt8)]
theorem le_ref02_lost (n : Nat) (x : Unit) : Le (ref02_lost_c n x) (ref02_lost x) := by
  unfold ref02_lost_c ref02_lost
  exact .rfl
def ref02_Hex_c (n : Nat) (x : Int) : Option Int :=
  bindO (ref02_Digit_c n x) fun y1 =>
  bif y1 then
    some (w64 (wu8 (x - 48)))
  else
    bindO (ref01_Small_c n x) fun y2 =>
    bif bif decide (y2 ≥ 97) then decide (y2 ≤ 102) else false then
      some (w64 (w64 (wu8 (y2 - 97)) + 10))
    else
      some (-1)
theorem le_ref02_Hex (n : Nat) (x : Int) : Le (ref02_Hex_c n x) (ref02_Hex x) := by
  unfold ref02_Hex_c ref02_Hex
  exact (.bind (le_ref02_Digit n _) fun _ => (.bif .rfl (.bind (le_ref01_Small n _) fun _ => (.bif .rfl .rfl))))
def ref02_UTF8_c (n : Nat) (x : Int) : Option Str :=
  bif bif bif x == 0 then true else bif decide (x ≥ 55296) then decide (x ≤ 57343) else false then true else decide (x > 1114111) then
    bindO (ref02_lost_c n ()) fun y1 =>
    some y1
  else
    bif decide (x < 128) then
      bindO (byteO (wu8 x)) fun y2 =>
      some [y2]
    else
      bif decide (x < 2048) then
        bindO (byteO (wu8 (w64 (192 + w64 (Int.tdiv x 64))))) fun y3 =>
        bindO (byteO (wu8 (w64 (128 + Int.tmod x 64)))) fun y4 =>
        some [y3, y4]
      else
        bif decide (x < 65536) then
          bindO (byteO (wu8 (w64 (224 + w64 (Int.tdiv x 4096))))) fun y5 =>
          bindO (byteO (wu8 (w64 (128 + Int.tmod (w64 (Int.tdiv x 64)) 64)))) fun y6 =>
          bindO (byteO (wu8 (w64 (128 + Int.tmod x 64)))) fun y7 =>
          some [y5, y6, y7]
        else
          bindO (byteO (wu8 (w64 (240 + w64 (Int.tdiv x 262144))))) fun y8 =>
          bindO (byteO (wu8 (w64 (128 + Int.tmod (w64 (Int.tdiv x 4096)) 64)))) fun y9 =>
          bindO (byteO (wu8 (w64 (128 + Int.tmod (w64 (Int.tdiv x 64)) 64)))) fun y10 =>
          bindO (byteO (wu8 (w64 (128 + Int.tmod x 64)))) fun y11 =>
          some [y8, y9, y10, y11]
theorem le_ref02_UTF8 (n : Nat) (x : Int) : Le (ref02_UTF8_c n x) (ref02_UTF8 x) := by
  unfold ref02_UTF8_c ref02_UTF8
  exact (.bif (.bind (le_ref02_lost n _) fun _ => .rfl) (.bif (.bind .rfl fun _ => .rfl) (.bif (.bind .rfl fun _ => (.bind .rfl fun _ => .rfl)) (.bif (.bind .rfl fun _ => (.bind .rfl fun _ => (.bind .rfl fun _ => .rfl))) (.bind .rfl fun _ => (.bind .rfl fun _ => (.bind .rfl fun _ => (.bind .rfl fun _ => .rfl))))))))
def ref02_Escaped_c (n : Nat) (x : Str × Int) : Option (Str × Int) :=
  bif decide (w64 (x.2 + 1) ≥ (x.1.length : Int)) then
    bindO (ref02_lost_c n ()) fun y1 =>
    some (y1, w64 (x.2 + 1))
  else
    bindO (geti x.1 (w64 (x.2 + 1))) fun y2 =>
    bindO (ref02_Hex_c n (y2.toNat : Int)) fun y3 =>
    bif decide (y3 < 0) then
      need (decide (0 ≤ w64 (x.2 + 1)) && (decide (w64 (x.2 + 1) ≤ w64 (w64 (x.2 + 1) + 1)) && decide (w64 (w64 (x.2 + 1) + 1) ≤ (x.1.length : Int)))) <|
      some (List.drop (w64 (x.2 + 1)).toNat (List.take (w64 (w64 (x.2 + 1) + 1)).toNat x.1), w64 (w64 (x.2 + 1) + 1))
    else
      loopC n (fun (s4 : Int × Int) =>
          bindO (condO (bif decide (s4.2 < (x.1.length : Int)) then decide (s4.2 < w64 (w64 (x.2 + 1) + 6)) else false) (geti x.1 s4.2) 0) fun y5 =>
          bindO (condO (bif decide (s4.2 < (x.1.length : Int)) then decide (s4.2 < w64 (w64 (x.2 + 1) + 6)) else false) (ref02_Hex_c n (y5.toNat : Int)) (default : Int)) fun y6 =>
          bif bif bif decide (s4.2 < (x.1.length : Int)) then decide (s4.2 < w64 (w64 (x.2 + 1) + 6)) else false then decide (y6 ≥ 0) else false then
            bindO (geti x.1 s4.2) fun y7 =>
            bindO (ref02_Hex_c n (y7.toNat : Int)) fun y8 =>
            some (LO.again (w64 (w64 (16 * s4.1) + y8), w64 (s4.2 + 1)))
          else
            some (LO.out (s4.1, s4.2)) : Int × Int → Option (LO (Int × Int) (Int × Int) _)) (0, w64 (x.2 + 1)) fun o9 =>
      joinK (X := Int) (
          bindO (ref02_At_c n (x.1, o9.2)) fun y10 =>
          bindO (ref02_Space_c n y10) fun y11 =>
          bif y11 then
            some (LX.out (w64 (o9.2 + 1)))
          else
            some (LX.out o9.2)) fun j12 =>
      bindO (ref02_UTF8_c n o9.1) fun y13 =>
      some (y13, j12)
theorem le_ref02_Escaped (n : Nat) (x : Str × Int) : Le (ref02_Escaped_c n x) (ref02_Escaped x) := by
  unfold ref02_Escaped_c ref02_Escaped
  exact (.bif (.bind (le_ref02_lost n _) fun _ => .rfl) (.bind .rfl fun _ => (.bind (le_ref02_Hex n _) fun _ => (.bif (.need .rfl) (.loop (fun _ => (.bind .rfl fun _ => (.bind (.cond (le_ref02_Hex n _)) fun _ => (.bif (.bind .rfl fun _ => (.bind (le_ref02_Hex n _) fun _ => .rfl)) .rfl)))) fun _ => (.join (.bind (le_ref02_At n _) fun _ => (.bind (le_ref02_Space n _) fun _ => (.bif .rfl .rfl))) fun _ => (.bind (le_ref02_UTF8 n _) fun _ => .rfl)))))))
def ref02_quoted_c (n : Nat) (x : Str × Int) : Option (VToken × Int) :=
  bindO (geti x.1 x.2) fun y1 =>
  loopC n (fun (s2 : Int × VToken × VToken) =>
      bif decide (s2.1 < (x.1.length : Int)) then
        bindO (geti x.1 s2.1) fun y3 =>
        bif (y3.toNat : Int) == (y1.toNat : Int) then
          some (LO.ret (s2.2.2, w64 (s2.1 + 1)))
        else
          bindO (geti x.1 s2.1) fun y4 =>
          bif (y4.toNat : Int) == 10 then
            some (LO.ret ((⟨6, [], 0, [], false⟩ : VToken), s2.1))
          else
            bindO (geti x.1 s2.1) fun y5 =>
            bif bif (y5.toNat : Int) == 92 then w64 (s2.1 + 1) == (x.1.length : Int) else false then
              some (LO.again (w64 (s2.1 + 1), s2.2.1, s2.2.2))
            else
              bindO (geti x.1 s2.1) fun y6 =>
              bindO (condO ((y6.toNat : Int) == 92) (geti x.1 (w64 (s2.1 + 1))) 0) fun y7 =>
              bif bif (y6.toNat : Int) == 92 then (y7.toNat : Int) == 10 else false then
                some (LO.again (w64 (s2.1 + 2), s2.2.1, s2.2.2))
              else
                bindO (geti x.1 s2.1) fun y8 =>
                bif (y8.toNat : Int) == 92 then
                  bindO (ref02_Escaped_c n (x.1, s2.1)) fun y9 =>
                  need (decide (((s2.2.2.text.length + y9.1.length : Nat) : Int) ≤ 9223372036854775807)) <|
                  some (LO.again (y9.2, s2.2.1, (⟨s2.2.2.kind, s2.2.2.text ++ y9.1, s2.2.2.num, s2.2.2.unit, s2.2.2.flag⟩ : VToken)))
                else
                  need (decide (0 ≤ s2.1) && (decide (s2.1 ≤ w64 (s2.1 + 1)) && decide (w64 (s2.1 + 1) ≤ (x.1.length : Int)))) <|
                  need (decide (((s2.2.2.text.length + (List.drop s2.1.toNat (List.take (w64 (s2.1 + 1)).toNat x.1)).length : Nat) : Int) ≤ 9223372036854775807)) <|
                  some (LO.again (w64 (s2.1 + 1), s2.2.1, (⟨s2.2.2.kind, s2.2.2.text ++ List.drop s2.1.toNat (List.take (w64 (s2.1 + 1)).toNat x.1), s2.2.2.num, s2.2.2.unit, s2.2.2.flag⟩ : VToken)))
      else
        some (LO.out (s2.1, s2.2.1, s2.2.2)) : Int × VToken × VToken → Option (LO (Int × VToken × VToken) (Int × VToken × VToken) _)) (w64 (x.2 + 1), (⟨0, [], 0, [], false⟩ : VToken), (⟨5, [], 0, [], false⟩ : VToken)) fun o10 =>
  some (o10.2.2, o10.1)
theorem le_ref02_quoted (n : Nat) (x : Str × Int) : Le (ref02_quoted_c n x) (ref02_quoted x) := by
  unfold ref02_quoted_c ref02_quoted
  exact (.bind .rfl fun _ => (.loop (fun _ => (.bif (.bind .rfl fun _ => (.bif .rfl (.bind .rfl fun _ => (.bif .rfl (.bind .rfl fun _ => (.bif .rfl (.bind .rfl fun _ => (.bind .rfl fun _ => (.bif .rfl (.bind .rfl fun _ => (.bif (.bind (le_ref02_Escaped n _) fun _ => (.need .rfl)) (.need (.need .rfl))))))))))))) .rfl)) fun _ => .rfl))
def ref02_Starts_c (n : Nat) (x : Int) : Option Bool :=
  bindO (ref01_Small_c n x) fun y1 =>
  some (bif bif bif decide (y1 ≥ 97) then decide (y1 ≤ 122) else false then true else x == 95 then true else decide (x ≥ 128))
theorem le_ref02_Starts (n : Nat) (x : Int) : Le (ref02_Starts_c n x) (ref02_Starts x) := by
  unfold ref02_Starts_c ref02_Starts
  exact (.bind (le_ref01_Small n _) fun _ => .rfl)
def ref02_Letter_c (n : Nat) (x : Int) : Option Bool :=
  bindO (ref02_Starts_c n x) fun y1 =>
  bindO (condO (!y1) (ref02_Digit_c n x) (default : Bool)) fun y2 =>
  some (bif bif y1 then true else y2 then true else x == 45)
theorem le_ref02_Letter (n : Nat) (x : Int) : Le (ref02_Letter_c n x) (ref02_Letter x) := by
  unfold ref02_Letter_c ref02_Letter
  exact (.bind (le_ref02_Starts n _) fun _ => (.bind (.cond (le_ref02_Digit n _)) fun _ => .rfl))
def ref02_Escape_c (n : Nat) (x : Str × Int) : Option Bool :=
  bindO (ref02_At_c n (x.1, x.2)) fun y1 =>
  bindO (condO (y1 == 92) (ref02_At_c n (x.1, w64 (x.2 + 1))) (default : Int)) fun y2 =>
  some (bif y1 == 92 then y2 != 10 else false)
theorem le_ref02_Escape (n : Nat) (x : Str × Int) : Le (ref02_Escape_c n x) (ref02_Escape x) := by
  unfold ref02_Escape_c ref02_Escape
  exact (.bind (le_ref02_At n _) fun _ => (.bind (.cond (le_ref02_At n _)) fun _ => .rfl))
def ref02_Named_c (n : Nat) (x : Str × Int) : Option (Str × Int) :=
  loopC n (fun (s1 : Int × Str) =>
      bindO (condO (decide (s1.1 < (x.1.length : Int))) (geti x.1 s1.1) 0) fun y2 =>
      bindO (condO (decide (s1.1 < (x.1.length : Int))) (ref02_Letter_c n (y2.toNat : Int)) (default : Bool)) fun y3 =>
      bif bif decide (s1.1 < (x.1.length : Int)) then y3 else false then
        need (decide (0 ≤ s1.1) && (decide (s1.1 ≤ w64 (s1.1 + 1)) && decide (w64 (s1.1 + 1) ≤ (x.1.length : Int)))) <|
        need (decide (((s1.2.length + (List.drop s1.1.toNat (List.take (w64 (s1.1 + 1)).toNat x.1)).length : Nat) : Int) ≤ 9223372036854775807)) <|
        some (LO.again (w64 (s1.1 + 1), s1.2 ++ List.drop s1.1.toNat (List.take (w64 (s1.1 + 1)).toNat x.1)))
      else
        bindO (condO (decide (s1.1 < (x.1.length : Int))) (ref02_Escape_c n (x.1, s1.1)) (default : Bool)) fun y4 =>
        bif bif decide (s1.1 < (x.1.length : Int)) then y4 else false then
          bindO (ref02_Escaped_c n (x.1, s1.1)) fun y5 =>
          need (decide (((s1.2.length + y5.1.length : Nat) : Int) ≤ 9223372036854775807)) <|
          some (LO.again (y5.2, s1.2 ++ y5.1))
        else
          some (LO.ret (s1.2, s1.1)) : Int × Str → Option (LO (Int × Str) (Unit) _)) (x.2, []) fun o6 =>
  none
theorem le_ref02_Named (n : Nat) (x : Str × Int) : Le (ref02_Named_c n x) (ref02_Named x) := by
  unfold ref02_Named_c ref02_Named
  exact (.loop (fun _ => (.bind .rfl fun _ => (.bind (.cond (le_ref02_Letter n _)) fun _ => (.bif (.need (.need .rfl)) (.bind (.cond (le_ref02_Escape n _)) fun _ => (.bif (.bind (le_ref02_Escaped n _) fun _ => (.need .rfl)) .rfl)))))) fun _ => .none)
def ref02_NameAt_c (n : Nat) (x : Str × Int) : Option Bool :=
  bindO (ref02_At_c n (x.1, x.2)) fun y1 =>
  bif y1 == 45 then
    bindO (ref02_At_c n (x.1, w64 (x.2 + 1))) fun y2 =>
    bindO (ref02_Starts_c n y2) fun y3 =>
    bindO (condO (!y3) (ref02_At_c n (x.1, w64 (x.2 + 1))) (default : Int)) fun y4 =>
    bindO (condO (!(bif y3 then true else y4 == 45)) (ref02_Escape_c n (x.1, w64 (x.2 + 1))) (default : Bool)) fun y5 =>
    some (bif bif y3 then true else y4 == 45 then true else y5)
  else
    bindO (ref02_At_c n (x.1, x.2)) fun y6 =>
    bindO (ref02_Starts_c n y6) fun y7 =>
    bindO (condO (!y7) (ref02_Escape_c n (x.1, x.2)) (default : Bool)) fun y8 =>
    some (bif y7 then true else y8)
theorem le_ref02_NameAt (n : Nat) (x : Str × Int) : Le (ref02_NameAt_c n x) (ref02_NameAt x) := by
  unfold ref02_NameAt_c ref02_NameAt
  exact (.bind (le_ref02_At n _) fun _ => (.bif (.bind (le_ref02_At n _) fun _ => (.bind (le_ref02_Starts n _) fun _ => (.bind (.cond (le_ref02_At n _)) fun _ => (.bind (.cond (le_ref02_Escape n _)) fun _ => .rfl)))) (.bind (le_ref02_At n _) fun _ => (.bind (le_ref02_Starts n _) fun _ => (.bind (.cond (le_ref02_Escape n _)) fun _ => .rfl)))))
def ref02_NumberAt_c (n : Nat) (x : Str × Int) : Option Bool :=
  joinK (X := Int) (
      bindO (ref02_At_c n (x.1, x.2)) fun y1 =>
      bif bif y1 == 43 then true else y1 == 45 then
        some (LX.out (w64 (x.2 + 1)))
      else
        some (LX.out x.2)) fun j2 =>
  joinK (X := Int) (
      bindO (ref02_At_c n (x.1, j2)) fun y3 =>
      bif y3 == 46 then
        some (LX.out (w64 (j2 + 1)))
      else
        some (LX.out j2)) fun j4 =>
  bindO (ref02_At_c n (x.1, j4)) fun y5 =>
  bindO (ref02_Digit_c n y5) fun y6 =>
  some y6
theorem le_ref02_NumberAt (n : Nat) (x : Str × Int) : Le (ref02_NumberAt_c n x) (ref02_NumberAt x) := by
  unfold ref02_NumberAt_c ref02_NumberAt
  exact (.join (.bind (le_ref02_At n _) fun _ => (.bif .rfl .rfl)) fun _ => (.join (.bind (le_ref02_At n _) fun _ => (.bif .rfl .rfl)) fun _ => (.bind (le_ref02_At n _) fun _ => (.bind (le_ref02_Digit n _) fun _ => .rfl))))
def ref02_digits_c (n : Nat) (x : Str × Int) : Option Int :=
  loopC n (fun (s1 : Int) =>
      bindO (ref02_At_c n (x.1, s1)) fun y2 =>
      bindO (ref02_Digit_c n y2) fun y3 =>
      bif y3 then
        some (LO.again (w64 (s1 + 1)))
      else
        some (LO.out s1) : Int → Option (LO (Int) (Int) _)) x.2 fun o4 =>
  some o4
theorem le_ref02_digits (n : Nat) (x : Str × Int) : Le (ref02_digits_c n x) (ref02_digits x) := by
  unfold ref02_digits_c ref02_digits
  exact (.loop (fun _ => (.bind (le_ref02_At n _) fun _ => (.bind (le_ref02_Digit n _) fun _ => (.bif .rfl .rfl)))) fun _ => .rfl)
def ref02_NumberEnd_c (n : Nat) (x : Str × Int) : Option (Int × Bool) :=
  joinK (X := Int) (
      bindO (ref02_At_c n (x.1, x.2)) fun y1 =>
      bif bif y1 == 43 then true else y1 == 45 then
        some (LX.out (w64 (x.2 + 1)))
      else
        some (LX.out x.2)) fun j2 =>
  bindO (ref02_digits_c n (x.1, j2)) fun y3 =>
  joinK (X := Int × Bool) (
      bindO (ref02_At_c n (x.1, y3)) fun y4 =>
      bindO (condO (y4 == 46) (ref02_At_c n (x.1, w64 (y3 + 1))) (default : Int)) fun y5 =>
      bindO (condO (y4 == 46) (ref02_Digit_c n y5) (default : Bool)) fun y6 =>
      bif bif y4 == 46 then y6 else false then
        bindO (ref02_digits_c n (x.1, w64 (y3 + 1))) fun y7 =>
        some (LX.out (y7, false))
      else
        some (LX.out (y3, true))) fun j8 =>
  joinK (X := Int × Bool) (
      bindO (ref02_At_c n (x.1, j8.1)) fun y9 =>
      bif bif y9 == 101 then true else y9 == 69 then
        joinK (X := Int × Bool × Int) (
            bindO (ref02_At_c n (x.1, w64 (j8.1 + 1))) fun y10 =>
            bif bif y10 == 43 then true else y10 == 45 then
              some (LX.out (j8.1, j8.2, w64 (w64 (j8.1 + 1) + 1)))
            else
              some (LX.out (j8.1, j8.2, w64 (j8.1 + 1)))) fun j11 =>
        bindO (ref02_At_c n (x.1, j11.2.2)) fun y12 =>
        bindO (ref02_Digit_c n y12) fun y13 =>
        bif y13 then
          bindO (ref02_digits_c n (x.1, j11.2.2)) fun y14 =>
          some (LX.out (y14, false))
        else
          some (LX.out (j11.1, j11.2.1))
      else
        some (LX.out (j8.1, j8.2))) fun j15 =>
  some (j15.1, j15.2)
theorem le_ref02_NumberEnd (n : Nat) (x : Str × Int) : Le (ref02_NumberEnd_c n x) (ref02_NumberEnd x) := by
  unfold ref02_NumberEnd_c ref02_NumberEnd
  exact (.join (.bind (le_ref02_At n _) fun _ => (.bif .rfl .rfl)) fun _ => (.bind (le_ref02_digits n _) fun _ => (.join (.bind (le_ref02_At n _) fun _ => (.bind (.cond (le_ref02_At n _)) fun _ => (.bind (.cond (le_ref02_Digit n _)) fun _ => (.bif (.bind (le_ref02_digits n _) fun _ => .rfl) .rfl)))) fun _ => (.join (.bind (le_ref02_At n _) fun _ => (.bif (.join (.bind (le_ref02_At n _) fun _ => (.bif .rfl .rfl)) fun _ => (.bind (le_ref02_At n _) fun _ => (.bind (le_ref02_Digit n _) fun _ => (.bif (.bind (le_ref02_digits n _) fun _ => .rfl) .rfl)))) .rfl)) fun _ => .rfl))))
def ref02_Thousandths_c (n : Nat) (x : Str) : Option Int :=
  bindO (geti x 0) fun y1 =>
  joinK (X := Str × Int × Int) (
      bindO (geti x 0) fun y2 =>
      bif bif (y2.toNat : Int) == 43 then true else (y1.toNat : Int) == 45 then
        some (LX.out ([], 3, 1))
      else
        some (LX.out ([], 3, 0))) fun j3 =>
  loopC n (fun (s4 : Str × Int) =>
      bindO (ref02_At_c n (x, s4.2)) fun y5 =>
      bindO (ref02_Digit_c n y5) fun y6 =>
      bif y6 then
        need (decide (0 ≤ s4.2) && (decide (s4.2 ≤ w64 (s4.2 + 1)) && decide (w64 (s4.2 + 1) ≤ (x.length : Int)))) <|
        need (decide (((s4.1.length + (List.drop s4.2.toNat (List.take (w64 (s4.2 + 1)).toNat x)).length : Nat) : Int) ≤ 9223372036854775807)) <|
        some (LO.again (s4.1 ++ List.drop s4.2.toNat (List.take (w64 (s4.2 + 1)).toNat x), w64 (s4.2 + 1)))
      else
        some (LO.out (s4.1, s4.2)) : Str × Int → Option (LO (Str × Int) (Str × Int) _)) (j3.1, j3.2.2) fun o7 =>
  joinK (X := Str × Int × Int) (
      bindO (ref02_At_c n (x, o7.2)) fun y8 =>
      bif y8 == 46 then
        loopC n (fun (s9 : Str × Int × Int) =>
            bindO (ref02_At_c n (x, s9.2.2)) fun y10 =>
            bindO (ref02_Digit_c n y10) fun y11 =>
            bif y11 then
              need (decide (0 ≤ s9.2.2) && (decide (s9.2.2 ≤ w64 (s9.2.2 + 1)) && decide (w64 (s9.2.2 + 1) ≤ (x.length : Int)))) <|
              need (decide (((s9.1.length + (List.drop s9.2.2.toNat (List.take (w64 (s9.2.2 + 1)).toNat x)).length : Nat) : Int) ≤ 9223372036854775807)) <|
              some (LO.again (s9.1 ++ List.drop s9.2.2.toNat (List.take (w64 (s9.2.2 + 1)).toNat x), w64 (s9.2.1 - 1), w64 (s9.2.2 + 1)))
            else
              some (LO.out (s9.1, s9.2.1, s9.2.2)) : Str × Int × Int → Option (LO (Str × Int × Int) (Str × Int × Int) _)) (o7.1, j3.2.1, w64 (o7.2 + 1)) fun o12 =>
        some (LX.out (o12.1, o12.2.1, o12.2.2))
      else
        some (LX.out (o7.1, j3.2.1, o7.2))) fun j13 =>
  joinK (X := Int) (
      bif decide (j13.2.2 < (x.length : Int)) then
        bindO (geti x (w64 (j13.2.2 + 1))) fun y14 =>
        joinK (X := Int × Int) (
            bindO (geti x (w64 (j13.2.2 + 1))) fun y15 =>
            bif bif (y15.toNat : Int) == 43 then true else (y14.toNat : Int) == 45 then
              some (LX.out (j13.2.1, w64 (w64 (j13.2.2 + 1) + 1)))
            else
              some (LX.out (j13.2.1, w64 (j13.2.2 + 1)))) fun j16 =>
        loopC n (fun (s17 : Int × Int) =>
            bif decide (s17.1 < (x.length : Int)) then
              bindO (geti x s17.1) fun y18 =>
              some (LO.again (w64 (s17.1 + 1), if w64 (w64 (10 * s17.2) + w64 (wu8 ((y18.toNat : Int) - 48))) < 10000 then w64 (w64 (10 * s17.2) + w64 (wu8 ((y18.toNat : Int) - 48))) else 10000))
            else
              some (LO.out s17.2) : Int × Int → Option (LO (Int × Int) (Int) _)) (j16.2, 0) fun o19 =>
        joinK (X := Int × Int) (
            bif (y14.toNat : Int) == 45 then
              some (LX.out (j16.1, w64 (0 - o19)))
            else
              some (LX.out (j16.1, o19))) fun j20 =>
        some (LX.out (w64 (j20.1 + j20.2)))
      else
        some (LX.out j13.2.1)) fun j21 =>
  loopC n (fun (s22 : Int × Int) =>
      bif bif decide (s22.2 < w64 ((j13.1.length : Int) + j21)) then decide (s22.2 < (j13.1.length : Int)) else false then
        bindO (geti j13.1 s22.2) fun y23 =>
        some (LO.again (if w64 (w64 (10 * s22.1) + w64 (wu8 ((y23.toNat : Int) - 48))) < 1000000000000 then w64 (w64 (10 * s22.1) + w64 (wu8 ((y23.toNat : Int) - 48))) else 1000000000000, w64 (s22.2 + 1)))
      else
        some (LO.out s22.1) : Int × Int → Option (LO (Int × Int) (Int) _)) (0, 0) fun o24 =>
  loopC n (fun (s25 : Int × Int) =>
      bif bif bif decide (s25.1 > 0) then decide (s25.2 > 0) else false then decide (s25.2 < 1000000000000) else false then
        some (LO.again (w64 (s25.1 - 1), if w64 (10 * s25.2) < 1000000000000 then w64 (10 * s25.2) else 1000000000000))
      else
        some (LO.out s25.2) : Int × Int → Option (LO (Int × Int) (Int) _)) (j21, o24) fun o26 =>
  bif (y1.toNat : Int) == 45 then
    some (w64 (0 - o26))
  else
    some o26
theorem le_ref02_Thousandths (n : Nat) (x : Str) : Le (ref02_Thousandths_c n x) (ref02_Thousandths x) := by
  unfold ref02_Thousandths_c ref02_Thousandths
  exact (.bind .rfl fun _ => (.join (.bind .rfl fun _ => (.bif .rfl .rfl)) fun _ => (.loop (fun _ => (.bind (le_ref02_At n _) fun _ => (.bind (le_ref02_Digit n _) fun _ => (.bif (.need (.need .rfl)) .rfl)))) fun _ => (.join (.bind (le_ref02_At n _) fun _ => (.bif (.loop (fun _ => (.bind (le_ref02_At n _) fun _ => (.bind (le_ref02_Digit n _) fun _ => (.bif (.need (.need .rfl)) .rfl)))) fun _ => .rfl) .rfl)) fun _ => (.join (.bif (.bind .rfl fun _ => (.join (.bind .rfl fun _ => (.bif .rfl .rfl)) fun _ => (.loop (fun _ => (.bif (.bind .rfl fun _ => .rfl) .rfl)) fun _ => (.join (.bif .rfl .rfl) fun _ => .rfl)))) .rfl) fun _ => (.loop (fun _ => (.bif (.bind .rfl fun _ => .rfl) .rfl)) fun _ => (.loop (fun _ => (.bif .rfl .rfl)) fun _ => (.bif .rfl .rfl))))))))
def ref02_numeric_c (n : Nat) (x : Str × Int) : Option (VToken × Int) :=
  bindO (ref02_NumberEnd_c n (x.1, x.2)) fun y1 =>
  need (decide (0 ≤ x.2) && (decide (x.2 ≤ y1.1) && decide (y1.1 ≤ (x.1.length : Int)))) <|
  bindO (ref02_Thousandths_c n (List.drop x.2.toNat (List.take y1.1.toNat x.1))) fun y2 =>
  joinK (X := Int × VToken × VToken) (
      bindO (ref02_NameAt_c n (x.1, y1.1)) fun y3 =>
      bif y3 then
        bindO (ref02_Named_c n (x.1, y1.1)) fun y4 =>
        some (LX.out (y4.2, (⟨0, [], 0, [], false⟩ : VToken), (⟨12, [], y2, y4.1, y1.2⟩ : VToken)))
      else
        bindO (ref02_At_c n (x.1, y1.1)) fun y5 =>
        bif y5 == 37 then
          some (LX.out (w64 (y1.1 + 1), (⟨0, [], 0, [], false⟩ : VToken), (⟨11, [], y2, [], false⟩ : VToken)))
        else
          some (LX.out (y1.1, (⟨0, [], 0, [], false⟩ : VToken), (⟨10, [], y2, [], y1.2⟩ : VToken)))) fun j6 =>
  some (j6.2.2, j6.1)
theorem le_ref02_numeric (n : Nat) (x : Str × Int) : Le (ref02_numeric_c n x) (ref02_numeric x) := by
  unfold ref02_numeric_c ref02_numeric
  exact (.bind (le_ref02_NumberEnd n _) fun _ => (.need (.bind (le_ref02_Thousandths n _) fun _ => (.join (.bind (le_ref02_NameAt n _) fun _ => (.bif (.bind (le_ref02_Named n _) fun _ => .rfl) (.bind (le_ref02_At n _) fun _ => (.bif .rfl .rfl)))) fun _ => .rfl))))
def ref02_has_c (n : Nat) (x : Str × Int × Str) : Option Bool :=
  need (decide (0 ≤ x.2.1) && (decide (x.2.1 ≤ w64 (x.2.1 + (x.2.2.length : Int))) && decide (w64 (x.2.1 + (x.2.2.length : Int)) ≤ (x.1.length : Int))) || !(decide (w64 ((x.1.length : Int) - x.2.1) ≥ (x.2.2.length : Int)))) <|
  some (bif decide (w64 ((x.1.length : Int) - x.2.1) ≥ (x.2.2.length : Int)) then List.drop x.2.1.toNat (List.take (w64 (x.2.1 + (x.2.2.length : Int))).toNat x.1) == x.2.2 else false)
theorem le_ref02_has (n : Nat) (x : Str × Int × Str) : Le (ref02_has_c n x) (ref02_has x) := by
  unfold ref02_has_c ref02_has
  exact (.need .rfl)
def ref02_bad_c (n : Nat) (x : Str × Int) : Option (VToken × Int) :=
  loopC n (fun (s1 : Int) =>
      bindO (condO (decide (s1 < (x.1.length : Int))) (geti x.1 s1) 0) fun y2 =>
      bif bif decide (s1 < (x.1.length : Int)) then (y2.toNat : Int) != 41 else false then
        bindO (ref02_Escape_c n (x.1, s1)) fun y3 =>
        bif y3 then
          bindO (ref02_Escaped_c n (x.1, s1)) fun y4 =>
          some (LO.again y4.2)
        else
          some (LO.again (w64 (s1 + 1)))
      else
        some (LO.out s1) : Int → Option (LO (Int) (Int) _)) x.2 fun o5 =>
  some ((⟨8, [], 0, [], false⟩ : VToken), if w64 (o5 + 1) < (x.1.length : Int) then w64 (o5 + 1) else (x.1.length : Int))
theorem le_ref02_bad (n : Nat) (x : Str × Int) : Le (ref02_bad_c n x) (ref02_bad x) := by
  unfold ref02_bad_c ref02_bad
  exact (.loop (fun _ => (.bind .rfl fun _ => (.bif (.bind (le_ref02_Escape n _) fun _ => (.bif (.bind (le_ref02_Escaped n _) fun _ => .rfl) .rfl)) .rfl))) fun _ => .rfl)
def ref02_Unprintable_c (n : Nat) (x : Int) : Option Bool :=
  some (bif bif bif decide (x ≤ 8) then true else x == 11 then true else bif decide (x ≥ 14) then decide (x ≤ 31) else false then true else x == 127)
theorem le_ref02_Unprintable (n : Nat) (x : Int) : Le (ref02_Unprintable_c n x) (ref02_Unprintable x) := by
  unfold ref02_Unprintable_c ref02_Unprintable
  exact .rfl
def ref02_url_c (n : Nat) (x : Str × Int) : Option (VToken × Int) :=
  bindO (ref02_spaces_c n (x.1, x.2)) fun y1 =>
  loopC n (fun (s2 : Int × VToken × VToken) =>
      bindO (condO (decide (s2.1 < (x.1.length : Int))) (geti x.1 s2.1) 0) fun y3 =>
      bif bif decide (s2.1 < (x.1.length : Int)) then (y3.toNat : Int) != 41 else false then
        bindO (geti x.1 s2.1) fun y4 =>
        bindO (ref02_Space_c n (y4.toNat : Int)) fun y5 =>
        bif y5 then
          bindO (ref02_spaces_c n (x.1, s2.1)) fun y6 =>
          bindO (condO (decide (y6 < (x.1.length : Int))) (geti x.1 y6) 0) fun y7 =>
          bif bif decide (y6 < (x.1.length : Int)) then (y7.toNat : Int) != 41 else false then
            bindO (ref02_bad_c n (x.1, y6)) fun y8 =>
            some (LO.ret (y8.1, y8.2))
          else
            some (LO.again (y6, s2.2.1, s2.2.2))
        else
          bindO (condO (!(bif bif (y4.toNat : Int) == 34 then true else (y4.toNat : Int) == 39 then true else (y4.toNat : Int) == 40)) (ref02_Unprintable_c n (y4.toNat : Int)) (default : Bool)) fun y9 =>
          bindO (condO ((y4.toNat : Int) == 92 && !(bif bif bif (y4.toNat : Int) == 34 then true else (y4.toNat : Int) == 39 then true else (y4.toNat : Int) == 40 then true else y9)) (ref02_Escape_c n (x.1, s2.1)) (default : Bool)) fun y10 =>
          bif bif bif bif bif (y4.toNat : Int) == 34 then true else (y4.toNat : Int) == 39 then true else (y4.toNat : Int) == 40 then true else y9 then true else bif (y4.toNat : Int) == 92 then !y10 else false then
            bindO (ref02_bad_c n (x.1, s2.1)) fun y11 =>
            some (LO.ret (y11.1, y11.2))
          else
            bif (y4.toNat : Int) == 92 then
              bindO (ref02_Escaped_c n (x.1, s2.1)) fun y12 =>
              need (decide (((s2.2.2.text.length + y12.1.length : Nat) : Int) ≤ 9223372036854775807)) <|
              some (LO.again (y12.2, s2.2.1, (⟨s2.2.2.kind, s2.2.2.text ++ y12.1, s2.2.2.num, s2.2.2.unit, s2.2.2.flag⟩ : VToken)))
            else
              need (decide (0 ≤ s2.1) && (decide (s2.1 ≤ w64 (s2.1 + 1)) && decide (w64 (s2.1 + 1) ≤ (x.1.length : Int)))) <|
              need (decide (((s2.2.2.text.length + (List.drop s2.1.toNat (List.take (w64 (s2.1 + 1)).toNat x.1)).length : Nat) : Int) ≤ 9223372036854775807)) <|
              some (LO.again (w64 (s2.1 + 1), s2.2.1, (⟨s2.2.2.kind, s2.2.2.text ++ List.drop s2.1.toNat (List.take (w64 (s2.1 + 1)).toNat x.1), s2.2.2.num, s2.2.2.unit, s2.2.2.flag⟩ : VToken)))
      else
        some (LO.out (s2.1, s2.2.1, s2.2.2)) : Int × VToken × VToken → Option (LO (Int × VToken × VToken) (Int × VToken × VToken) _)) (y1, (⟨0, [], 0, [], false⟩ : VToken), (⟨7, [], 0, [], false⟩ : VToken)) fun o13 =>
  some (o13.2.2, if w64 (o13.1 + 1) < (x.1.length : Int) then w64 (o13.1 + 1) else (x.1.length : Int))
theorem le_ref02_url (n : Nat) (x : Str × Int) : Le (ref02_url_c n x) (ref02_url x) := by
  unfold ref02_url_c ref02_url
  exact (.bind (le_ref02_spaces n _) fun _ => (.loop (fun _ => (.bind .rfl fun _ => (.bif (.bind .rfl fun _ => (.bind (le_ref02_Space n _) fun _ => (.bif (.bind (le_ref02_spaces n _) fun _ => (.bind .rfl fun _ => (.bif (.bind (le_ref02_bad n _) fun _ => .rfl) .rfl))) (.bind (.cond (le_ref02_Unprintable n _)) fun _ => (.bind (.cond (le_ref02_Escape n _)) fun _ => (.bif (.bind (le_ref02_bad n _) fun _ => .rfl) (.bif (.bind (le_ref02_Escaped n _) fun _ => (.need .rfl)) (.need (.need .rfl))))))))) .rfl))) fun _ => .rfl))
def ref02_word_c (n : Nat) (x : Str × Int) : Option (VToken × Int) :=
  bindO (ref02_Named_c n (x.1, x.2)) fun y1 =>
  bindO (ref02_At_c n (x.1, y1.2)) fun y2 =>
  bif y2 != 40 then
    some ((⟨1, y1.1, 0, [], false⟩ : VToken), y1.2)
  else
    joinK (X := VToken) (
        bindO (ref01_Alike_c n (y1.1, [117, 114, 108])) fun y3 =>
        bif y3 then
          bindO (ref02_spaces_c n (x.1, w64 (y1.2 + 1))) fun y4 =>
          bindO (ref02_At_c n (x.1, y4)) fun y5 =>
          bif bif y5 != 34 then y5 != 39 else false then
            bindO (ref02_url_c n (x.1, w64 (y1.2 + 1))) fun y6 =>
            some (LX.ret (y6.1, y6.2))
          else
            some (LX.out (⟨0, [], 0, [], false⟩ : VToken))
        else
          some (LX.out (⟨0, [], 0, [], false⟩ : VToken))) fun j7 =>
    some ((⟨2, y1.1, 0, [], false⟩ : VToken), w64 (y1.2 + 1))
theorem le_ref02_word (n : Nat) (x : Str × Int) : Le (ref02_word_c n x) (ref02_word x) := by
  unfold ref02_word_c ref02_word
  exact (.bind (le_ref02_Named n _) fun _ => (.bind (le_ref02_At n _) fun _ => (.bif .rfl (.join (.bind (le_ref01_Alike n _) fun _ => (.bif (.bind (le_ref02_spaces n _) fun _ => (.bind (le_ref02_At n _) fun _ => (.bif (.bind (le_ref02_url n _) fun _ => .rfl) .rfl))) .rfl)) fun _ => .rfl))))
def ref02_mark_c (n : Nat) (x : Int) : Option Int :=
  bif x == 58 then
    some 16
  else
    bif x == 59 then
      some 17
    else
      bif x == 44 then
        some 18
      else
        bif x == 91 then
          some 19
        else
          bif x == 93 then
            some 20
          else
            bif x == 40 then
              some 21
            else
              bif x == 41 then
                some 22
              else
                bif x == 123 then
                  some 23
                else
                  bif x == 125 then
                    some 24
                  else
                    some 0
theorem le_ref02_mark (n : Nat) (x : Int) : Le (ref02_mark_c n x) (ref02_mark x) := by
  unfold ref02_mark_c ref02_mark
  exact (.bif .rfl (.bif .rfl (.bif .rfl (.bif .rfl (.bif .rfl (.bif .rfl (.bif .rfl (.bif .rfl (.bif .rfl .rfl)))))))))
def ref02_One_c (n : Nat) (x : Str × Int) : Option (VToken × Int) :=
  bindO (geti x.1 x.2) fun y1 =>
  bindO (ref02_Space_c n (y1.toNat : Int)) fun y2 =>
  bif y2 then
    bindO (ref02_spaces_c n (x.1, x.2)) fun y3 =>
    some ((⟨13, [], 0, [], false⟩ : VToken), y3)
  else
    bif bif (y1.toNat : Int) == 34 then true else (y1.toNat : Int) == 39 then
      bindO (ref02_quoted_c n (x.1, x.2)) fun y4 =>
      some (y4.1, y4.2)
    else
      bindO (condO (decide (w64 (x.2 + 1) < (x.1.length : Int)) && (y1.toNat : Int) == 35) (geti x.1 (w64 (x.2 + 1))) 0) fun y5 =>
      bindO (condO (decide (w64 (x.2 + 1) < (x.1.length : Int)) && (y1.toNat : Int) == 35) (ref02_Letter_c n (y5.toNat : Int)) (default : Bool)) fun y6 =>
      bindO (condO (!(bif decide (w64 (x.2 + 1) < (x.1.length : Int)) then y6 else false) && (y1.toNat : Int) == 35) (ref02_Escape_c n (x.1, w64 (x.2 + 1))) (default : Bool)) fun y7 =>
      bif bif (y1.toNat : Int) == 35 then bif bif decide (w64 (x.2 + 1) < (x.1.length : Int)) then y6 else false then true else y7 else false then
        bindO (ref02_Named_c n (x.1, w64 (x.2 + 1))) fun y8 =>
        bindO (ref02_NameAt_c n (x.1, w64 (x.2 + 1))) fun y9 =>
        some ((⟨4, y8.1, 0, [], y9⟩ : VToken), y8.2)
      else
        bindO (ref02_NumberAt_c n (x.1, x.2)) fun y10 =>
        bif y10 then
          bindO (ref02_numeric_c n (x.1, x.2)) fun y11 =>
          some (y11.1, y11.2)
        else
          bindO (ref02_has_c n (x.1, x.2, [45, 45, 62])) fun y12 =>
          bif y12 then
            some ((⟨15, [], 0, [], false⟩ : VToken), w64 (x.2 + 3))
          else
            bindO (ref02_has_c n (x.1, x.2, [60, 33, 45, 45])) fun y13 =>
            bif y13 then
              some ((⟨14, [], 0, [], false⟩ : VToken), w64 (x.2 + 4))
            else
              bindO (condO ((y1.toNat : Int) == 64) (ref02_NameAt_c n (x.1, w64 (x.2 + 1))) (default : Bool)) fun y14 =>
              bif bif (y1.toNat : Int) == 64 then y14 else false then
                bindO (ref02_Named_c n (x.1, w64 (x.2 + 1))) fun y15 =>
                some ((⟨3, y15.1, 0, [], false⟩ : VToken), y15.2)
              else
                bindO (ref02_NameAt_c n (x.1, x.2)) fun y16 =>
                bif y16 then
                  bindO (ref02_word_c n (x.1, x.2)) fun y17 =>
                  some (y17.1, y17.2)
                else
                  bindO (ref02_mark_c n (y1.toNat : Int)) fun y18 =>
                  bif y18 != 0 then
                    bindO (ref02_mark_c n (y1.toNat : Int)) fun y19 =>
                    some ((⟨y19, [], 0, [], false⟩ : VToken), w64 (x.2 + 1))
                  else
                    need (decide (0 ≤ x.2) && (decide (x.2 ≤ w64 (x.2 + 1)) && decide (w64 (x.2 + 1) ≤ (x.1.length : Int)))) <|
                    some ((⟨9, List.drop x.2.toNat (List.take (w64 (x.2 + 1)).toNat x.1), 0, [], false⟩ : VToken), w64 (x.2 + 1))
theorem le_ref02_One (n : Nat) (x : Str × Int) : Le (ref02_One_c n x) (ref02_One x) := by
  unfold ref02_One_c ref02_One
  exact (.bind .rfl fun _ => (.bind (le_ref02_Space n _) fun _ => (.bif (.bind (le_ref02_spaces n _) fun _ => .rfl) (.bif (.bind (le_ref02_quoted n _) fun _ => .rfl) (.bind .rfl fun _ => (.bind (.cond (le_ref02_Letter n _)) fun _ => (.bind (.cond (le_ref02_Escape n _)) fun _ => (.bif (.bind (le_ref02_Named n _) fun _ => (.bind (le_ref02_NameAt n _) fun _ => .rfl)) (.bind (le_ref02_NumberAt n _) fun _ => (.bif (.bind (le_ref02_numeric n _) fun _ => .rfl) (.bind (le_ref02_has n _) fun _ => (.bif .rfl (.bind (le_ref02_has n _) fun _ => (.bif .rfl (.bind (.cond (le_ref02_NameAt n _)) fun _ => (.bif (.bind (le_ref02_Named n _) fun _ => .rfl) (.bind (le_ref02_NameAt n _) fun _ => (.bif (.bind (le_ref02_word n _) fun _ => .rfl) (.bind (le_ref02_mark n _) fun _ => (.bif (.bind (le_ref02_mark n _) fun _ => .rfl) (.need .rfl)))))))))))))))))))))
def ref03_Delim_c (n : Nat) (x : Int) : Option Bool :=
  bindO (byteO x) fun y1 =>
  bindO (ref02_One_c n ([y1, (10 : UInt8)], 0)) fun y2 =>
  some (bif bif bif bif decide (x ≥ 1) then decide (x ≤ 127) else false then x != 12 else false then x != 13 else false then y2.1.kind == 9 else false)
theorem le_ref03_Delim (n : Nat) (x : Int) : Le (ref03_Delim_c n x) (ref03_Delim x) := by
  unfold ref03_Delim_c ref03_Delim
  exact (.bind .rfl fun _ => (.bind (le_ref02_One n _) fun _ => .rfl))
end Go.Lv.VT

namespace Go.Lv.VT
set_option maxRecDepth 100000
theorem mono_ref04_Size : MonoB ref04_Size_B := by
  intro ref04_Size ref04_Size' h_ref04_Size x
  unfold ref04_Size_B
  exact (.lp (fun _ => (.bif (.bind .rfl fun _ => (.bind .rfl fun _ => (.bind .rfl fun _ => (.bind (h_ref04_Size _) fun _ => .rfl)))) .rfl)) fun _ => .rfl)
theorem mono_cond_reader_term (cond_reader_told cond_reader_told' : Vcond_reader → Option ((VCond × Bool) × Vcond_reader)) (h_cond_reader_told : ∀ z, Le (cond_reader_told z) (cond_reader_told' z)) (x : Vcond_reader) : Le (cond_reader_term cond_reader_told x) (cond_reader_term cond_reader_told' x) := by
  unfold cond_reader_term
  exact (.bind .rfl fun _ => (.bif (.bind .rfl fun _ => .rfl) (.bif (.bind .rfl fun _ => (.bind .rfl fun _ => (.bif .rfl (.bind (h_cond_reader_told _) fun _ => (.bif .rfl .rfl))))) .rfl)))
theorem mono_cond_reader_told : MonoB cond_reader_told_B := by
  intro cond_reader_told cond_reader_told' h_cond_reader_told x
  unfold cond_reader_told_B
  exact (.bind .rfl fun _ => (.bind .rfl fun _ => (.bif (.bind .rfl fun _ => (.bind (mono_cond_reader_term _ _ h_cond_reader_told _) fun _ => (.bind .rfl fun _ => .rfl))) (.bind (mono_cond_reader_term _ _ h_cond_reader_told _) fun _ => (.bif .rfl (.bind .rfl fun _ => (.bif .rfl (.lp (fun _ => (.bif (.bind .rfl fun _ => (.bif .rfl (.bind .rfl fun _ => (.bind (mono_cond_reader_term _ _ h_cond_reader_told _) fun _ => (.bif .rfl (.need (.bind .rfl fun _ => .rfl))))))) .rfl)) fun _ => .rfl))))))))
theorem mono_cond_look : MonoB cond_look_B := by
  intro cond_look cond_look' h_cond_look x
  unfold cond_look_B
  exact (.bif .rfl (.bif (.bind .rfl fun _ => (.bind .rfl fun _ => .rfl)) (.bif (.bind .rfl fun _ => .rfl) (.join (.bif .rfl (.bif .rfl .rfl)) fun _ => (.bif (.bind .rfl fun _ => (.bif .rfl (.lp (fun _ => (.bif (.bind .rfl fun _ => (.bind (h_cond_look _) fun _ => (.bif .rfl (.join (.bind .rfl fun _ => (.bif .rfl .rfl)) fun _ => .rfl)))) .rfl)) fun _ => .rfl))) .rfl)))))
theorem mono_ref10_term (ref10_told ref10_told' : List VValue → Option (VCond × Bool)) (h_ref10_told : ∀ z, Le (ref10_told z) (ref10_told' z)) (x : List VValue × Int) : Le (ref10_term ref10_told x) (ref10_term ref10_told' x) := by
  unfold ref10_term
  exact (.bind .rfl fun _ => (.bif .rfl (.bind .rfl fun _ => (.bif .rfl (.bind .rfl fun _ => (.bind .rfl fun _ => (.bif .rfl (.bind .rfl fun _ => (.bind (h_ref10_told _) fun _ => (.bif .rfl .rfl))))))))))
theorem mono_ref10_told : MonoB ref10_told_B := by
  intro ref10_told ref10_told' h_ref10_told x
  unfold ref10_told_B
  exact (.bind .rfl fun _ => (.bind .rfl fun _ => (.bif (.bind .rfl fun _ => (.bind (mono_ref10_term _ _ h_ref10_told _) fun _ => .rfl)) (.bind (mono_ref10_term _ _ h_ref10_told _) fun _ => (.bif .rfl (.join (.bind .rfl fun _ => (.bind .rfl fun _ => (.bif .rfl .rfl))) fun _ => (.lp (fun _ => (.bif (.bind .rfl fun _ => (.bind .rfl fun _ => (.bind .rfl fun _ => (.bif .rfl (.bind .rfl fun _ => (.bind (mono_ref10_term _ _ h_ref10_told _) fun _ => (.bif .rfl (.need .rfl)))))))) .rfl)) fun _ => .rfl)))))))
theorem mono_ref10_Size : MonoB ref10_Size_B := by
  intro ref10_Size ref10_Size' h_ref10_Size x
  unfold ref10_Size_B
  exact (.lp (fun _ => (.bif (.bind .rfl fun _ => (.bind (h_ref10_Size _) fun _ => .rfl)) .rfl)) fun _ => .rfl)
end Go.Lv.VT
