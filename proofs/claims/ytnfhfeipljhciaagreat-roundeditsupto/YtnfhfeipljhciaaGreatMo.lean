/- Laws for the plain texts: loops that look for something; bytes. -/
import Derived.Test.YtnfhfeipljhciaaGreatLf
import Derived.Test.YtnfhfeipljhciaaGreatLe
import Derived.Test.YtnfhfeipljhciaaGreatTx
namespace Go.Lv.VT
abbrev big : Nat := 4194304
theorem zM {i n : Nat} (h : i < n) : decide ((i : Int) < (n : Int)) = true := decide_eq_true (by omega)
theorem zF (n : Nat) : decide ((n : Int) < (n : Int)) = false := decide_eq_false (by omega)
theorem zw {i n : Nat} (h : i < n) (hn : n ≤ big) : w64 ((i : Int) + 1) = ((i + 1 : Nat) : Int) := by
 rw [w64, ZL (by omega) (by unfold big at hn; omega)]; omega
theorem zD {α : Type} (b : Bool) (v d : α) : zz b (some v) d = some (bif b then v else d) := by cases b <;> rfl
theorem ZJ {α X R : Type} {step : Int → Option (LO Int X R)} {k : X → Option R} (l : List α) (q : α → Option R) (x : X)
  (hg : ∀ (i : Nat) (h : i < l.length), step (i : Int) = some (match q l[i] with | some r => .ret r | none => .again ((i + 1 : Nat) : Int)))
  (hf : step (l.length : Int) = some (.out x)) : zN step 0 k = match l.findSome? q with | some r => some r | none => k x := by
 have key : ∀ (m : List α) (i : Nat), l.drop i = m → i ≤ l.length → ∃ n, Z8 step n (i : Int) = some (match m.findSome? q with | some r => .ret r | none => .out x) := by
  intro m
  induction m with
  | nil =>
   intro i hd hi
   have : i = l.length := by have := List.drop_eq_nil_iff.1 hd; omega
   subst this
   exact ⟨1, by simp only [Z8, hf, List.findSome?_nil]⟩
  | cons v m ih =>
   intro i hd hi
   have hlt : i < l.length := by
    rcases Nat.lt_or_ge i l.length with h | h
    ·exact h
    ·rw [List.drop_eq_nil_of_le h] at hd; cases hd
   have hv : l[i] = v := by
    have := List.drop_eq_getElem_cons hlt
    rw [hd] at this
    injection this with h1 _
    exact h1.symm
   have hs := hg i hlt
   rw [hv] at hs
   cases hq : q v with
   | some r =>
    rw [hq] at hs
    exact ⟨1, by simp only [Z8, hs, List.findSome?_cons, hq]⟩
   | none =>
    rw [hq] at hs
    obtain ⟨n, hn⟩ := ih (i + 1) (by rw [List.drop_eq_getElem_cons hlt] at hd; injection hd) (by omega)
    refine ⟨n + 1, ?_⟩
    simp only [Z8, hs, List.findSome?_cons, hq]
    exact hn
 obtain ⟨n, hn⟩ := key l 0 rfl (by omega)
 replace hn : Z8 step n 0 = _ := hn
 rw [zb3 (zbv hn)]
 cases l.findSome? q <;> rfl
theorem QV {α R : Type} (p : α → Bool) (r : R) : ∀ (l : List α), l.findSome? (fun v => bif p v then none else some r) = bif l.all p then none else some r
 | [] => rfl
 | v :: l => by
  rw [List.findSome?_cons, List.all_cons]
  cases p v with
  | false => rfl
  | true => exact QV p r l
theorem zth {α R : Type} (p : α → Bool) (r : R) : ∀ (l : List α), l.findSome? (fun v => bif p v then some r else none) = bif l.any p then some r else none
 | [] => rfl
 | v :: l => by
  rw [List.findSome?_cons, List.any_cons]
  cases p v with
  | true => rfl
  | false => exact zth p r l
def idxS {α : Type} (p : α → Bool) : List α → Int
 | [] => -1
 | v :: l => bif p v then 0 else bif decide (idxS p l < 0) then -1 else idxS p l + 1
theorem zdG {α : Type} (p : α → Bool) : ∀ (l : List α), decide (idxS p l ≥ 0) = l.any p
 | [] => rfl
 | v :: l => by
  have ih := zdG p l
  rw [List.any_cons, idxS]
  cases p v with
  | true => rfl
  | false =>
   simp only [cond_false, Bool.false_or]
   rw [← ih]
   by_cases h : idxS p l < 0
   ·rw [decide_eq_true h, cond_true]; simp only [ge_iff_le]; rw [decide_eq_false (by omega), decide_eq_false (by omega)]
   ·rw [decide_eq_false h, cond_false, decide_eq_true (by omega), decide_eq_true (by omega)]
theorem zxi {α : Type} (p : α → Bool) : ∀ (l : List α), -1 ≤ idxS p l ∧ idxS p l < l.length
 | [] => by simp [idxS]
 | v :: l => by
  have := zxi p l
  rw [idxS, List.length_cons]
  cases p v with
  | true => simp only [cond_true]; omega
  | false =>
   simp only [cond_false]
   cases decide (idxS p l < 0) <;> simp only [cond_true, cond_false] <;> omega
theorem zeL {α : Type} {step : Int → Option (LO Int Unit Int)} (l : List α) (p : α → Bool) (hn : l.length ≤ big)
  (hg : ∀ (i : Nat) (h : i < l.length), step (i : Int) = bif p l[i] then some (.ret (i : Int)) else some (.again (w64 ((i : Int) + 1))))
  (hf : step (l.length : Int) = some (.out ())) : zN step 0 (fun _ => some (-1)) = some (idxS p l) := by
 have key : ∀ (m : List α) (i : Nat), l.drop i = m → i ≤ l.length → ∃ n, Z8 step n (i : Int) = some (bif decide (idxS p m < 0) then .out () else .ret ((i : Int) + idxS p m)) := by
  intro m
  induction m with
  | nil =>
   intro i hd hi
   have : i = l.length := by have := List.drop_eq_nil_iff.1 hd; omega
   subst this
   exact ⟨1, by simp only [Z8, hf]; rfl⟩
  | cons v m ih =>
   intro i hd hi
   have hlt : i < l.length := by
    rcases Nat.lt_or_ge i l.length with h | h
    ·exact h
    ·rw [List.drop_eq_nil_of_le h] at hd; cases hd
   have hv : l[i] = v := by
    have := List.drop_eq_getElem_cons hlt
    rw [hd] at this
    injection this with h1 _
    exact h1.symm
   have hs := hg i hlt
   rw [hv] at hs
   cases hq : p v with
   | true =>
    rw [hq] at hs
    refine ⟨1, ?_⟩
    simp only [Z8, hs, cond_true, idxS, hq]
    simp
   | false =>
    rw [hq, cond_false, zw hlt hn] at hs
    obtain ⟨n, hn'⟩ := ih (i + 1) (by rw [List.drop_eq_getElem_cons hlt] at hd; injection hd) (by omega)
    refine ⟨n + 1, ?_⟩
    simp only [Z8, hs, idxS, hq, cond_false]
    rw [hn']
    have hb := zxi p m
    by_cases h0 : idxS p m < 0
    ·rw [decide_eq_true h0]; rfl
    ·rw [decide_eq_false h0, cond_false, cond_false, decide_eq_false (by omega), cond_false]
     congr 2
     omega
 obtain ⟨n, hn'⟩ := key l 0 rfl (by omega)
 replace hn' : Z8 step n 0 = _ := hn'
 rw [zb3 (zbv hn')]
 have hb := zxi p l
 by_cases h0 : idxS p l < 0
 ·rw [decide_eq_true h0]
  show some (-1) = _
  congr 1; omega
 ·rw [decide_eq_false h0]
  show some ((0 : Nat) + idxS p l) = _
  congr 1; omega
end Go.Lv.VT

namespace Go.Lv
theorem Le.lp {S X R : Type} {step step' : S → Option (LO S X R)} {s : S} {k k' : X → Option R} (h : ∀ s, Le (step s) (step' s)) (hk : ∀ x, Le (k x) (k' x)) : Le (zN step s k) (zN step' s k') := by
 intro y hy
 unfold zN at hy
 cases hl : zmC step s with
 | none => rw [hl] at hy; cases hy
 | some r =>
  rw [hl] at hy
  obtain ⟨n, hn⟩ := zsx hl
  rw [zb3 (zbv (ztt h n s r hn))]
  cases r with
  | out x => exact hk x y hy
  | ret r => exact hy
def zsR {X Y : Type} (B : (X → Option Y) → X → Option Y) : Prop := ∀ S S' : X → Option Y, (∀ x, Le (S x) (S' x)) → ∀ x, Le (B S x) (B S' x)
theorem zf2 {X Y : Type} {B : (X → Option Y) → X → Option Y} (hm : zsR B) (μ : X → Nat) (ok : X → Prop) (R : X → Y → Prop)
  (hB : ∀ (S : X → Option Y) (x : X), ok x → (∀ z, ok z → μ z < μ x → ∃ y, S z = some y ∧ R z y) → ∃ y, B S x = some y ∧ R x y) {x : X} (hx : ok x) : ∃ y, recE B x = some y ∧ R x y := by
 have step : ∀ n x, Le (zjm B n x) (zjm B (n + 1) x) := by
  intro n
  induction n with
  | zero => intro x; exact Le.none
  | succ n ih => intro x; exact hm _ _ ih x
 have up : ∀ d n x, Le (zjm B n x) (zjm B (n + d) x) := by
  intro d
  induction d with
  | zero => intro n x; exact Le.rfl
  | succ d ih => intro n x y hy; exact step _ x y (ih n x y hy)
 have key : ∀ (m : Nat) (x : X), μ x < m → ok x → ∃ y, zjm B m x = some y ∧ R x y := by
  intro m
  induction m with
  | zero => intro x h; omega
  | succ m ih =>
   intro x hm hok
   exact hB _ x hok fun z hz hlt => ih z (by omega) hz
 obtain ⟨y, h1, h2⟩ := key (μ x + 1) x (by omega) hx
 refine ⟨y, zxE (N := μ x + 1) fun n hn => ?_, h2⟩
 obtain ⟨d, rfl⟩ := Nat.le.dest hn
 exact up d _ x y h1
theorem zlt {A S X R : Type} {step : S → Option (LO S X R)} {k : X → Option R} (n : Nat) (st : Nat → A → S) (Inv : Nat → A → Prop) (Q : R → Prop) {s0 : S} {a0 : A} (h0 : s0 = st 0 a0) (hI : Inv 0 a0)
  (hg : ∀ (i : Nat) (a : A), i < n → Inv i a → (∃ a', step (st i a) = some (.again (st (i + 1) a')) ∧ Inv (i + 1) a') ∨ (∃ r, step (st i a) = some (.ret r) ∧ Q r) ∨ (∃ x, step (st i a) = some (.out x) ∧ ∃ r, k x = some r ∧ Q r))
  (hf : ∀ a, Inv n a → (∃ x, step (st n a) = some (.out x) ∧ ∃ r, k x = some r ∧ Q r) ∨ (∃ r, step (st n a) = some (.ret r) ∧ Q r)) : ∃ r, zN step s0 k = some r ∧ Q r := by
 have key : ∀ (m i : Nat) (a : A), i + m = n → Inv i a → ∃ j x, Z8 step j (st i a) = some x ∧ ∃ r, LX.go x k = some r ∧ Q r := by
  intro m
  induction m with
  | zero =>
   intro i a hi ha
   obtain rfl : i = n := by omega
   rcases hf a ha with ⟨x, h1, r, h2, h3⟩ | ⟨r, h1, h2⟩
   ·exact ⟨1, .out x, by simp only [Z8, h1], r, h2, h3⟩
   ·exact ⟨1, .ret r, by simp only [Z8, h1], r, rfl, h2⟩
  | succ m ih =>
   intro i a hi ha
   rcases hg i a (by omega) ha with ⟨a', h1, h2⟩ | ⟨r, h1, h2⟩ | ⟨x, h1, r, h2, h3⟩
   ·obtain ⟨j, x, g1, g2⟩ := ih (i + 1) a' (by omega) h2
    exact ⟨j + 1, x, by simp only [Z8, h1]; exact g1, g2⟩
   ·exact ⟨1, .ret r, by simp only [Z8, h1], r, rfl, h2⟩
   ·exact ⟨1, .out x, by simp only [Z8, h1], r, h2, h3⟩
 obtain ⟨j, x, h1, r, h2, h3⟩ := key n 0 a0 (by omega) hI
 refine ⟨r, ?_, h3⟩
 rw [h0, zb3 (zbv h1), h2]
namespace VT
def mx {α : Type} (f : α → Nat) : List α → Nat
 | [] => 0
 | v :: l => max (f v) (mx f l)
theorem zeM {α S X R : Type} {step : S → Option (LO S X R)} {k : X → Option R} (l : List α) (f : α → Nat) (st : Nat → Nat → S) (out : Nat → X) {s0 : S} {a0 : Nat} (h0 : s0 = st a0 0)
  (hg : ∀ (i a : Nat) (h : i < l.length), step (st a i) = some (.again (st (max a (f l[i])) (i + 1))))
  (hf : ∀ a : Nat, step (st a l.length) = some (.out (out a))) : zN step s0 k = k (out (max a0 (mx f l))) := by
 have key : ∀ (m : List α) (i a : Nat), l.drop i = m → i ≤ l.length → ∃ n, Z8 step n (st a i) = some (.out (out (max a (mx f m)))) := by
  intro m
  induction m with
  | nil =>
   intro i a hd hi
   have : i = l.length := by have := List.drop_eq_nil_iff.1 hd; omega
   subst this
   exact ⟨1, by simp only [Z8, hf, mx]; rw [Nat.max_zero]⟩
  | cons v m ih =>
   intro i a hd hi
   have hlt : i < l.length := by
    rcases Nat.lt_or_ge i l.length with h | h
    ·exact h
    ·rw [List.drop_eq_nil_of_le h] at hd; cases hd
   have hv : l[i] = v := by
    have := List.drop_eq_getElem_cons hlt
    rw [hd] at this
    injection this with h1 _
    exact h1.symm
   have hs := hg i a hlt
   rw [hv] at hs
   obtain ⟨n, hn⟩ := ih (i + 1) (max a (f v)) (by rw [List.drop_eq_getElem_cons hlt] at hd; injection hd) (by omega)
   refine ⟨n + 1, ?_⟩
   simp only [Z8, hs]
   rw [hn, mx, Nat.max_assoc]
 obtain ⟨n, hn⟩ := key l 0 a0 rfl (by omega)
 rw [h0, zb3 (zbv hn)]
 rfl
theorem zgV (a b : Nat) : (if (b : Int) > (a : Int) then (b : Int) else (a : Int)) = ((max a b : Nat) : Int) := by split <;> omega
end VT
end Go.Lv

namespace Go.Lv.VT
set_option maxRecDepth 100000
def zfZ (n : Nat) (x : Int) : Option Bool :=
 some (bif decide (48 ≤ x) then decide (x ≤ 57) else false)
theorem zln (n : Nat) (x : Int) : Le (zfZ n x) (zbu x) := by
 unfold zfZ zbu
 exact .rfl
def zhy (n : Nat) (x : Int) : Option Bool :=
 some (bif bif decide (97 ≤ ibOr IntKind.u8 x 32) then decide (ibOr IntKind.u8 x 32 ≤ 122) else false then decide (x < 128) else false)
theorem zrc (n : Nat) (x : Int) : Le (zhy n x) (zfk x) := by
 unfold zhy zfk
 exact .rfl
def zix (n : Nat) (x : Int) : Option Bool :=
 za (zhy n x) fun y1 =>
 za (zz (!y1) (zfZ n x) (default : Bool)) fun y2 =>
 some (bif bif bif bif y1 then true else y2 then true else x == 95 then true else x == 45 then true else decide (x ≥ 128))
theorem ztv (n : Nat) (x : Int) : Le (zix n x) (ze0 x) := by
 unfold zix ze0
 exact (.bind (zrc n _) fun _ => (.bind (.cond (zln n _)) fun _ => .rfl))
def zcZ (n : Nat) (x : Int) : Option Int :=
 bif bif decide (x ≥ 65) then decide (x ≤ 90) else false then
  some (wu8 (wu8 (x - 65) + 97))
 else
  some x
theorem zgn (n : Nat) (x : Int) : Le (zcZ n x) (Qk x) := by
 unfold zcZ Qk
 exact (.bif .rfl .rfl)
def zeS (n : Nat) (x : Str) : Option Str :=
 need (decide (x.length ≤ maxLen)) <|
 zku n (fun (s1 : Int × List UInt8) =>
   bif decide (s1.1 < (s1.2.length : Int)) then
    need (decide (0 ≤ s1.1) && decide (s1.1 < (s1.2.length : Int))) <|
    za s1.2[s1.1.toNat]? fun y2 =>
    za (zcZ n (y2.toNat : Int)) fun y3 =>
    need (decide (0 ≤ s1.1) && decide (s1.1 < (s1.2.length : Int))) <|
    za s1.2[s1.1.toNat]? fun y4 =>
    za (zbM y3) fun y5 =>
    some (LO.again (w64 (s1.1 + 1), List.set s1.2 s1.1.toNat y5))
   else
    some (LO.out s1.2) : Int × List UInt8 → Option (LO (Int × List UInt8) (List UInt8) _)) (0, x) fun o6 =>
 some o6
theorem zjV (n : Nat) (x : Str) : Le (zeS n x) (ZZ x) := by
 unfold zeS ZZ
 exact (.need (.loop (fun _ => (.bif (.need (.bind .rfl fun _ => (.bind (zgn n _) fun _ => (.need (.bind .rfl fun _ => (.bind .rfl fun _ => .rfl)))))) .rfl)) fun _ => .rfl))
def qc (n : Nat) (x : Int) : Option Bool :=
 some (bif decide (x ≥ 48) then decide (x ≤ 57) else false)
theorem qy (n : Nat) (x : Int) : Le (qc n x) (Zi x) := by
 unfold qc Zi
 exact .rfl
def zby (n : Nat) (x : Int) : Option Bool :=
 some (bif bif x == 10 then true else x == 9 then true else x == 32)
theorem zdI (n : Nat) (x : Int) : Le (zby n x) (Ql x) := by
 unfold zby Ql
 exact .rfl
def Zb (n : Nat) (x : Str × Int) : Option Int :=
 bif decide (x.2 < (x.1.length : Int)) then
  za (geti x.1 x.2) fun y1 =>
  some (y1.toNat : Int)
 else
  some 0
theorem zW (n : Nat) (x : Str × Int) : Le (Zb n x) (Za x) := by
 unfold Zb Za
 exact (.bif (.bind .rfl fun _ => .rfl) .rfl)
def zaY (n : Nat) (x : Str × Int) : Option Int :=
 zku n (fun (s1 : Int) =>
   za (Zb n (x.1, s1)) fun y2 =>
   za (zby n y2) fun y3 =>
   bif y3 then
    some (LO.again (w64 (s1 + 1)))
   else
    some (LO.out s1) : Int → Option (LO (Int) (Int) _)) x.2 fun o4 =>
 some o4
theorem zcU (n : Nat) (x : Str × Int) : Le (zaY n x) (Qa x) := by
 unfold zaY Qa
 exact (.loop (fun _ => (.bind (zW n _) fun _ => (.bind (zdI n _) fun _ => (.bif .rfl .rfl)))) fun _ => .rfl)
def zf3 (n : Nat) (x : Unit) : Option Str :=
 some [(239 : UInt8), (191 : UInt8), (189 : UInt8)]
theorem zlp (n : Nat) (x : Unit) : Le (zf3 n x) (zdu x) := by
 unfold zf3 zdu
 exact .rfl
def zfz (n : Nat) (x : Int) : Option Int :=
 za (qc n x) fun y1 =>
 bif y1 then
  some (w64 (wu8 (x - 48)))
 else
  za (zcZ n x) fun y2 =>
  bif bif decide (y2 ≥ 97) then decide (y2 ≤ 102) else false then
   some (w64 (w64 (wu8 (y2 - 97)) + 10))
  else
   some (-1)
theorem ziz (n : Nat) (x : Int) : Le (zfz n x) (zfy x) := by
 unfold zfz zfy
 exact (.bind (qy n _) fun _ => (.bif .rfl (.bind (zgn n _) fun _ => (.bif .rfl .rfl))))
def ziV (n : Nat) (x : Int) : Option Str :=
 bif bif bif x == 0 then true else bif decide (x ≥ 55296) then decide (x ≤ 57343) else false then true else decide (x > 1114111) then
  za (zf3 n ()) fun y1 =>
  some y1
 else
  bif decide (x < 128) then
   za (zbM (wu8 x)) fun y2 =>
   some [y2]
  else
   bif decide (x < 2048) then
    za (zbM (wu8 (w64 (192 + w64 (Int.tdiv x 64))))) fun y3 =>
    za (zbM (wu8 (w64 (128 + Int.tmod x 64)))) fun y4 =>
    some [y3, y4]
   else
    bif decide (x < 65536) then
     za (zbM (wu8 (w64 (224 + w64 (Int.tdiv x 4096))))) fun y5 =>
     za (zbM (wu8 (w64 (128 + Int.tmod (w64 (Int.tdiv x 64)) 64)))) fun y6 =>
     za (zbM (wu8 (w64 (128 + Int.tmod x 64)))) fun y7 =>
     some [y5, y6, y7]
    else
     za (zbM (wu8 (w64 (240 + w64 (Int.tdiv x 262144))))) fun y8 =>
     za (zbM (wu8 (w64 (128 + Int.tmod (w64 (Int.tdiv x 4096)) 64)))) fun y9 =>
     za (zbM (wu8 (w64 (128 + Int.tmod (w64 (Int.tdiv x 64)) 64)))) fun y10 =>
     za (zbM (wu8 (w64 (128 + Int.tmod x 64)))) fun y11 =>
     some [y8, y9, y10, y11]
theorem ztw (n : Nat) (x : Int) : Le (ziV n x) (zg4 x) := by
 unfold ziV zg4
 exact (.bif (.bind (zlp n _) fun _ => .rfl) (.bif (.bind .rfl fun _ => .rfl) (.bif (.bind .rfl fun _ => (.bind .rfl fun _ => .rfl)) (.bif (.bind .rfl fun _ => (.bind .rfl fun _ => (.bind .rfl fun _ => .rfl))) (.bind .rfl fun _ => (.bind .rfl fun _ => (.bind .rfl fun _ => (.bind .rfl fun _ => .rfl))))))))
def zaa (n : Nat) (x : Str × Int) : Option (Str × Int) :=
 bif decide (w64 (x.2 + 1) ≥ (x.1.length : Int)) then
  za (zf3 n ()) fun y1 =>
  some (y1, w64 (x.2 + 1))
 else
  za (geti x.1 (w64 (x.2 + 1))) fun y2 =>
  za (zfz n (y2.toNat : Int)) fun y3 =>
  bif decide (y3 < 0) then
   need (decide (0 ≤ w64 (x.2 + 1)) && (decide (w64 (x.2 + 1) ≤ w64 (w64 (x.2 + 1) + 1)) && decide (w64 (w64 (x.2 + 1) + 1) ≤ (x.1.length : Int)))) <|
   some (List.drop (w64 (x.2 + 1)).toNat (List.take (w64 (w64 (x.2 + 1) + 1)).toNat x.1), w64 (w64 (x.2 + 1) + 1))
  else
   zku n (fun (s4 : Int × Int) =>
     za (zz (bif decide (s4.2 < (x.1.length : Int)) then decide (s4.2 < w64 (w64 (x.2 + 1) + 6)) else false) (geti x.1 s4.2) 0) fun y5 =>
     za (zz (bif decide (s4.2 < (x.1.length : Int)) then decide (s4.2 < w64 (w64 (x.2 + 1) + 6)) else false) (zfz n (y5.toNat : Int)) (default : Int)) fun y6 =>
     bif bif bif decide (s4.2 < (x.1.length : Int)) then decide (s4.2 < w64 (w64 (x.2 + 1) + 6)) else false then decide (y6 ≥ 0) else false then
      za (geti x.1 s4.2) fun y7 =>
      za (zfz n (y7.toNat : Int)) fun y8 =>
      some (LO.again (w64 (w64 (16 * s4.1) + y8), w64 (s4.2 + 1)))
     else
      some (LO.out (s4.1, s4.2)) : Int × Int → Option (LO (Int × Int) (Int × Int) _)) (0, w64 (x.2 + 1)) fun o9 =>
   zZ (X := Int) (
     za (Zb n (x.1, o9.2)) fun y10 =>
     za (zby n y10) fun y11 =>
     bif y11 then
      some (LX.out (w64 (o9.2 + 1)))
     else
      some (LX.out o9.2)) fun j12 =>
   za (ziV n o9.1) fun y13 =>
   some (y13, j12)
theorem zb2 (n : Nat) (x : Str × Int) : Le (zaa n x) (qd x) := by
 unfold zaa qd
 exact (.bif (.bind (zlp n _) fun _ => .rfl) (.bind .rfl fun _ => (.bind (ziz n _) fun _ => (.bif (.need .rfl) (.loop (fun _ => (.bind .rfl fun _ => (.bind (.cond (ziz n _)) fun _ => (.bif (.bind .rfl fun _ => (.bind (ziz n _) fun _ => .rfl)) .rfl)))) fun _ => (.join (.bind (zW n _) fun _ => (.bind (zdI n _) fun _ => (.bif .rfl .rfl))) fun _ => (.bind (ztw n _) fun _ => .rfl)))))))
def zgy (n : Nat) (x : Str × Int) : Option (zm × Int) :=
 za (geti x.1 x.2) fun y1 =>
 zku n (fun (s2 : Int × zm × zm) =>
   bif decide (s2.1 < (x.1.length : Int)) then
    za (geti x.1 s2.1) fun y3 =>
    bif (y3.toNat : Int) == (y1.toNat : Int) then
     some (LO.ret (s2.2.2, w64 (s2.1 + 1)))
    else
     za (geti x.1 s2.1) fun y4 =>
     bif (y4.toNat : Int) == 10 then
      some (LO.ret ((⟨6, [], 0, [], false⟩ : zm), s2.1))
     else
      za (geti x.1 s2.1) fun y5 =>
      bif bif (y5.toNat : Int) == 92 then w64 (s2.1 + 1) == (x.1.length : Int) else false then
       some (LO.again (w64 (s2.1 + 1), s2.2.1, s2.2.2))
      else
       za (geti x.1 s2.1) fun y6 =>
       za (zz ((y6.toNat : Int) == 92) (geti x.1 (w64 (s2.1 + 1))) 0) fun y7 =>
       bif bif (y6.toNat : Int) == 92 then (y7.toNat : Int) == 10 else false then
        some (LO.again (w64 (s2.1 + 2), s2.2.1, s2.2.2))
       else
        za (geti x.1 s2.1) fun y8 =>
        bif (y8.toNat : Int) == 92 then
         za (zaa n (x.1, s2.1)) fun y9 =>
         need (decide (((s2.2.2.text.length + y9.1.length : Nat) : Int) ≤ 9223372036854775807)) <|
         some (LO.again (y9.2, s2.2.1, (⟨s2.2.2.kind, s2.2.2.text ++ y9.1, s2.2.2.num, s2.2.2.unit, s2.2.2.flag⟩ : zm)))
        else
         need (decide (0 ≤ s2.1) && (decide (s2.1 ≤ w64 (s2.1 + 1)) && decide (w64 (s2.1 + 1) ≤ (x.1.length : Int)))) <|
         need (decide (((s2.2.2.text.length + (List.drop s2.1.toNat (List.take (w64 (s2.1 + 1)).toNat x.1)).length : Nat) : Int) ≤ 9223372036854775807)) <|
         some (LO.again (w64 (s2.1 + 1), s2.2.1, (⟨s2.2.2.kind, s2.2.2.text ++ List.drop s2.1.toNat (List.take (w64 (s2.1 + 1)).toNat x.1), s2.2.2.num, s2.2.2.unit, s2.2.2.flag⟩ : zm)))
   else
    some (LO.out (s2.1, s2.2.1, s2.2.2)) : Int × zm × zm → Option (LO (Int × zm × zm) (Int × zm × zm) _)) (w64 (x.2 + 1), (⟨0, [], 0, [], false⟩ : zm), (⟨5, [], 0, [], false⟩ : zm)) fun o10 =>
 some (o10.2.2, o10.1)
theorem zpt (n : Nat) (x : Str × Int) : Le (zgy n x) (zed x) := by
 unfold zgy zed
 exact (.bind .rfl fun _ => (.loop (fun _ => (.bif (.bind .rfl fun _ => (.bif .rfl (.bind .rfl fun _ => (.bif .rfl (.bind .rfl fun _ => (.bif .rfl (.bind .rfl fun _ => (.bind .rfl fun _ => (.bif .rfl (.bind .rfl fun _ => (.bif (.bind (zb2 n _) fun _ => (.need .rfl)) (.need (.need .rfl))))))))))))) .rfl)) fun _ => .rfl))
def zbZ (n : Nat) (x : Int) : Option Bool :=
 za (zcZ n x) fun y1 =>
 some (bif bif bif decide (y1 ≥ 97) then decide (y1 ≤ 122) else false then true else x == 95 then true else decide (x ≥ 128))
theorem zfn (n : Nat) (x : Int) : Le (zbZ n x) (zau x) := by
 unfold zbZ zau
 exact (.bind (zgn n _) fun _ => .rfl)
def zdM (n : Nat) (x : Int) : Option Bool :=
 za (zbZ n x) fun y1 =>
 za (zz (!y1) (qc n x) (default : Bool)) fun y2 =>
 some (bif bif y1 then true else y2 then true else x == 45)
theorem ziA (n : Nat) (x : Int) : Le (zdM n x) (zbi x) := by
 unfold zdM zbi
 exact (.bind (zfn n _) fun _ => (.bind (.cond (qy n _)) fun _ => .rfl))
def qZ (n : Nat) (x : Str × Int) : Option Bool :=
 za (Zb n (x.1, x.2)) fun y1 =>
 za (zz (y1 == 92) (Zb n (x.1, w64 (x.2 + 1))) (default : Int)) fun y2 =>
 some (bif y1 == 92 then y2 != 10 else false)
theorem Q7 (n : Nat) (x : Str × Int) : Le (qZ n x) (ZN x) := by
 unfold qZ ZN
 exact (.bind (zW n _) fun _ => (.bind (.cond (zW n _)) fun _ => .rfl))
def zbx (n : Nat) (x : Str × Int) : Option (Str × Int) :=
 zku n (fun (s1 : Int × Str) =>
   za (zz (decide (s1.1 < (x.1.length : Int))) (geti x.1 s1.1) 0) fun y2 =>
   za (zz (decide (s1.1 < (x.1.length : Int))) (zdM n (y2.toNat : Int)) (default : Bool)) fun y3 =>
   bif bif decide (s1.1 < (x.1.length : Int)) then y3 else false then
    need (decide (0 ≤ s1.1) && (decide (s1.1 ≤ w64 (s1.1 + 1)) && decide (w64 (s1.1 + 1) ≤ (x.1.length : Int)))) <|
    need (decide (((s1.2.length + (List.drop s1.1.toNat (List.take (w64 (s1.1 + 1)).toNat x.1)).length : Nat) : Int) ≤ 9223372036854775807)) <|
    some (LO.again (w64 (s1.1 + 1), s1.2 ++ List.drop s1.1.toNat (List.take (w64 (s1.1 + 1)).toNat x.1)))
   else
    za (zz (decide (s1.1 < (x.1.length : Int))) (qZ n (x.1, s1.1)) (default : Bool)) fun y4 =>
    bif bif decide (s1.1 < (x.1.length : Int)) then y4 else false then
     za (zaa n (x.1, s1.1)) fun y5 =>
     need (decide (((s1.2.length + y5.1.length : Nat) : Int) ≤ 9223372036854775807)) <|
     some (LO.again (y5.2, s1.2 ++ y5.1))
    else
     some (LO.ret (s1.2, s1.1)) : Int × Str → Option (LO (Int × Str) (Unit) _)) (x.2, []) fun o6 =>
 none
theorem zdH (n : Nat) (x : Str × Int) : Le (zbx n x) (QQ x) := by
 unfold zbx QQ
 exact (.loop (fun _ => (.bind .rfl fun _ => (.bind (.cond (ziA n _)) fun _ => (.bif (.need (.need .rfl)) (.bind (.cond (Q7 n _)) fun _ => (.bif (.bind (zb2 n _) fun _ => (.need .rfl)) .rfl)))))) fun _ => .none)
def zaX (n : Nat) (x : Str × Int) : Option Bool :=
 za (Zb n (x.1, x.2)) fun y1 =>
 bif y1 == 45 then
  za (Zb n (x.1, w64 (x.2 + 1))) fun y2 =>
  za (zbZ n y2) fun y3 =>
  za (zz (!y3) (Zb n (x.1, w64 (x.2 + 1))) (default : Int)) fun y4 =>
  za (zz (!(bif y3 then true else y4 == 45)) (qZ n (x.1, w64 (x.2 + 1))) (default : Bool)) fun y5 =>
  some (bif bif y3 then true else y4 == 45 then true else y5)
 else
  za (Zb n (x.1, x.2)) fun y6 =>
  za (zbZ n y6) fun y7 =>
  za (zz (!y7) (qZ n (x.1, x.2)) (default : Bool)) fun y8 =>
  some (bif y7 then true else y8)
theorem zcT (n : Nat) (x : Str × Int) : Le (zaX n x) (QF x) := by
 unfold zaX QF
 exact (.bind (zW n _) fun _ => (.bif (.bind (zW n _) fun _ => (.bind (zfn n _) fun _ => (.bind (.cond (zW n _)) fun _ => (.bind (.cond (Q7 n _)) fun _ => .rfl)))) (.bind (zW n _) fun _ => (.bind (zfn n _) fun _ => (.bind (.cond (Q7 n _)) fun _ => .rfl)))))
def zer (n : Nat) (x : Str × Int) : Option Bool :=
 zZ (X := Int) (
   za (Zb n (x.1, x.2)) fun y1 =>
   bif bif y1 == 43 then true else y1 == 45 then
    some (LX.out (w64 (x.2 + 1)))
   else
    some (LX.out x.2)) fun j2 =>
 zZ (X := Int) (
   za (Zb n (x.1, j2)) fun y3 =>
   bif y3 == 46 then
    some (LX.out (w64 (j2 + 1)))
   else
    some (LX.out j2)) fun j4 =>
 za (Zb n (x.1, j4)) fun y5 =>
 za (qc n y5) fun y6 =>
 some y6
theorem zmy (n : Nat) (x : Str × Int) : Le (zer n x) (zbY x) := by
 unfold zer zbY
 exact (.join (.bind (zW n _) fun _ => (.bif .rfl .rfl)) fun _ => (.join (.bind (zW n _) fun _ => (.bif .rfl .rfl)) fun _ => (.bind (zW n _) fun _ => (.bind (qy n _) fun _ => .rfl))))
def zb0 (n : Nat) (x : Str × Int) : Option Int :=
 zku n (fun (s1 : Int) =>
   za (Zb n (x.1, s1)) fun y2 =>
   za (qc n y2) fun y3 =>
   bif y3 then
    some (LO.again (w64 (s1 + 1)))
   else
    some (LO.out s1) : Int → Option (LO (Int) (Int) _)) x.2 fun o4 =>
 some o4
theorem zfo (n : Nat) (x : Str × Int) : Le (zb0 n x) (zbk x) := by
 unfold zb0 zbk
 exact (.loop (fun _ => (.bind (zW n _) fun _ => (.bind (qy n _) fun _ => (.bif .rfl .rfl)))) fun _ => .rfl)
def zdt (n : Nat) (x : Str × Int) : Option (Int × Bool) :=
 zZ (X := Int) (
   za (Zb n (x.1, x.2)) fun y1 =>
   bif bif y1 == 43 then true else y1 == 45 then
    some (LX.out (w64 (x.2 + 1)))
   else
    some (LX.out x.2)) fun j2 =>
 za (zb0 n (x.1, j2)) fun y3 =>
 zZ (X := Int × Bool) (
   za (Zb n (x.1, y3)) fun y4 =>
   za (zz (y4 == 46) (Zb n (x.1, w64 (y3 + 1))) (default : Int)) fun y5 =>
   za (zz (y4 == 46) (qc n y5) (default : Bool)) fun y6 =>
   bif bif y4 == 46 then y6 else false then
    za (zb0 n (x.1, w64 (y3 + 1))) fun y7 =>
    some (LX.out (y7, false))
   else
    some (LX.out (y3, true))) fun j8 =>
 zZ (X := Int × Bool) (
   za (Zb n (x.1, j8.1)) fun y9 =>
   bif bif y9 == 101 then true else y9 == 69 then
    zZ (X := Int × Bool × Int) (
      za (Zb n (x.1, w64 (j8.1 + 1))) fun y10 =>
      bif bif y10 == 43 then true else y10 == 45 then
       some (LX.out (j8.1, j8.2, w64 (w64 (j8.1 + 1) + 1)))
      else
       some (LX.out (j8.1, j8.2, w64 (j8.1 + 1)))) fun j11 =>
    za (Zb n (x.1, j11.2.2)) fun y12 =>
    za (qc n y12) fun y13 =>
    bif y13 then
     za (zb0 n (x.1, j11.2.2)) fun y14 =>
     some (LX.out (y14, false))
    else
     some (LX.out (j11.1, j11.2.1))
   else
    some (LX.out (j8.1, j8.2))) fun j15 =>
 some (j15.1, j15.2)
theorem zlo (n : Nat) (x : Str × Int) : Le (zdt n x) (zbj x) := by
 unfold zdt zbj
 exact (.join (.bind (zW n _) fun _ => (.bif .rfl .rfl)) fun _ => (.bind (zfo n _) fun _ => (.join (.bind (zW n _) fun _ => (.bind (.cond (zW n _)) fun _ => (.bind (.cond (qy n _)) fun _ => (.bif (.bind (zfo n _) fun _ => .rfl) .rfl)))) fun _ => (.join (.bind (zW n _) fun _ => (.bif (.join (.bind (zW n _) fun _ => (.bif .rfl .rfl)) fun _ => (.bind (zW n _) fun _ => (.bind (qy n _) fun _ => (.bif (.bind (zfo n _) fun _ => .rfl) .rfl)))) .rfl)) fun _ => .rfl))))
def zcb (n : Nat) (x : Str) : Option Int :=
 za (geti x 0) fun y1 =>
 zZ (X := Str × Int × Int) (
   za (geti x 0) fun y2 =>
   bif bif (y2.toNat : Int) == 43 then true else (y1.toNat : Int) == 45 then
    some (LX.out ([], 3, 1))
   else
    some (LX.out ([], 3, 0))) fun j3 =>
 zku n (fun (s4 : Str × Int) =>
   za (Zb n (x, s4.2)) fun y5 =>
   za (qc n y5) fun y6 =>
   bif y6 then
    need (decide (0 ≤ s4.2) && (decide (s4.2 ≤ w64 (s4.2 + 1)) && decide (w64 (s4.2 + 1) ≤ (x.length : Int)))) <|
    need (decide (((s4.1.length + (List.drop s4.2.toNat (List.take (w64 (s4.2 + 1)).toNat x)).length : Nat) : Int) ≤ 9223372036854775807)) <|
    some (LO.again (s4.1 ++ List.drop s4.2.toNat (List.take (w64 (s4.2 + 1)).toNat x), w64 (s4.2 + 1)))
   else
    some (LO.out (s4.1, s4.2)) : Str × Int → Option (LO (Str × Int) (Str × Int) _)) (j3.1, j3.2.2) fun o7 =>
 zZ (X := Str × Int × Int) (
   za (Zb n (x, o7.2)) fun y8 =>
   bif y8 == 46 then
    zku n (fun (s9 : Str × Int × Int) =>
      za (Zb n (x, s9.2.2)) fun y10 =>
      za (qc n y10) fun y11 =>
      bif y11 then
       need (decide (0 ≤ s9.2.2) && (decide (s9.2.2 ≤ w64 (s9.2.2 + 1)) && decide (w64 (s9.2.2 + 1) ≤ (x.length : Int)))) <|
       need (decide (((s9.1.length + (List.drop s9.2.2.toNat (List.take (w64 (s9.2.2 + 1)).toNat x)).length : Nat) : Int) ≤ 9223372036854775807)) <|
       some (LO.again (s9.1 ++ List.drop s9.2.2.toNat (List.take (w64 (s9.2.2 + 1)).toNat x), w64 (s9.2.1 - 1), w64 (s9.2.2 + 1)))
      else
       some (LO.out (s9.1, s9.2.1, s9.2.2)) : Str × Int × Int → Option (LO (Str × Int × Int) (Str × Int × Int) _)) (o7.1, j3.2.1, w64 (o7.2 + 1)) fun o12 =>
    some (LX.out (o12.1, o12.2.1, o12.2.2))
   else
    some (LX.out (o7.1, j3.2.1, o7.2))) fun j13 =>
 zZ (X := Int) (
   bif decide (j13.2.2 < (x.length : Int)) then
    za (geti x (w64 (j13.2.2 + 1))) fun y14 =>
    zZ (X := Int × Int) (
      za (geti x (w64 (j13.2.2 + 1))) fun y15 =>
      bif bif (y15.toNat : Int) == 43 then true else (y14.toNat : Int) == 45 then
       some (LX.out (j13.2.1, w64 (w64 (j13.2.2 + 1) + 1)))
      else
       some (LX.out (j13.2.1, w64 (j13.2.2 + 1)))) fun j16 =>
    zku n (fun (s17 : Int × Int) =>
      bif decide (s17.1 < (x.length : Int)) then
       za (geti x s17.1) fun y18 =>
       some (LO.again (w64 (s17.1 + 1), if w64 (w64 (10 * s17.2) + w64 (wu8 ((y18.toNat : Int) - 48))) < 10000 then w64 (w64 (10 * s17.2) + w64 (wu8 ((y18.toNat : Int) - 48))) else 10000))
      else
       some (LO.out s17.2) : Int × Int → Option (LO (Int × Int) (Int) _)) (j16.2, 0) fun o19 =>
    zZ (X := Int × Int) (
      bif (y14.toNat : Int) == 45 then
       some (LX.out (j16.1, w64 (0 - o19)))
      else
       some (LX.out (j16.1, o19))) fun j20 =>
    some (LX.out (w64 (j20.1 + j20.2)))
   else
    some (LX.out j13.2.1)) fun j21 =>
 zku n (fun (s22 : Int × Int) =>
   bif bif decide (s22.2 < w64 ((j13.1.length : Int) + j21)) then decide (s22.2 < (j13.1.length : Int)) else false then
    za (geti j13.1 s22.2) fun y23 =>
    some (LO.again (if w64 (w64 (10 * s22.1) + w64 (wu8 ((y23.toNat : Int) - 48))) < 1000000000000 then w64 (w64 (10 * s22.1) + w64 (wu8 ((y23.toNat : Int) - 48))) else 1000000000000, w64 (s22.2 + 1)))
   else
    some (LO.out s22.1) : Int × Int → Option (LO (Int × Int) (Int) _)) (0, 0) fun o24 =>
 zku n (fun (s25 : Int × Int) =>
   bif bif bif decide (s25.1 > 0) then decide (s25.2 > 0) else false then decide (s25.2 < 1000000000000) else false then
    some (LO.again (w64 (s25.1 - 1), if w64 (10 * s25.2) < 1000000000000 then w64 (10 * s25.2) else 1000000000000))
   else
    some (LO.out s25.2) : Int × Int → Option (LO (Int × Int) (Int) _)) (j21, o24) fun o26 =>
 bif (y1.toNat : Int) == 45 then
  some (w64 (0 - o26))
 else
  some o26
theorem zjn (n : Nat) (x : Str) : Le (zcb n x) (zab x) := by
 unfold zcb zab
 exact (.bind .rfl fun _ => (.join (.bind .rfl fun _ => (.bif .rfl .rfl)) fun _ => (.loop (fun _ => (.bind (zW n _) fun _ => (.bind (qy n _) fun _ => (.bif (.need (.need .rfl)) .rfl)))) fun _ => (.join (.bind (zW n _) fun _ => (.bif (.loop (fun _ => (.bind (zW n _) fun _ => (.bind (qy n _) fun _ => (.bif (.need (.need .rfl)) .rfl)))) fun _ => .rfl) .rfl)) fun _ => (.join (.bif (.bind .rfl fun _ => (.join (.bind .rfl fun _ => (.bif .rfl .rfl)) fun _ => (.loop (fun _ => (.bif (.bind .rfl fun _ => .rfl) .rfl)) fun _ => (.join (.bif .rfl .rfl) fun _ => .rfl)))) .rfl) fun _ => (.loop (fun _ => (.bif (.bind .rfl fun _ => .rfl) .rfl)) fun _ => (.loop (fun _ => (.bif .rfl .rfl)) fun _ => (.bif .rfl .rfl))))))))
def zfA (n : Nat) (x : Str × Int) : Option (zm × Int) :=
 za (zdt n (x.1, x.2)) fun y1 =>
 need (decide (0 ≤ x.2) && (decide (x.2 ≤ y1.1) && decide (y1.1 ≤ (x.1.length : Int)))) <|
 za (zcb n (List.drop x.2.toNat (List.take y1.1.toNat x.1))) fun y2 =>
 zZ (X := Int × zm × zm) (
   za (zaX n (x.1, y1.1)) fun y3 =>
   bif y3 then
    za (zbx n (x.1, y1.1)) fun y4 =>
    some (LX.out (y4.2, (⟨0, [], 0, [], false⟩ : zm), (⟨12, [], y2, y4.1, y1.2⟩ : zm)))
   else
    za (Zb n (x.1, y1.1)) fun y5 =>
    bif y5 == 37 then
     some (LX.out (w64 (y1.1 + 1), (⟨0, [], 0, [], false⟩ : zm), (⟨11, [], y2, [], false⟩ : zm)))
    else
     some (LX.out (y1.1, (⟨0, [], 0, [], false⟩ : zm), (⟨10, [], y2, [], y1.2⟩ : zm)))) fun j6 =>
 some (j6.2.2, j6.1)
theorem znN (n : Nat) (x : Str × Int) : Le (zfA n x) (zc0 x) := by
 unfold zfA zc0
 exact (.bind (zlo n _) fun _ => (.need (.bind (zjn n _) fun _ => (.join (.bind (zcT n _) fun _ => (.bif (.bind (zdH n _) fun _ => .rfl) (.bind (zW n _) fun _ => (.bif .rfl .rfl)))) fun _ => .rfl))))
def zhL (n : Nat) (x : Str × Int × Str) : Option Bool :=
 need (decide (0 ≤ x.2.1) && (decide (x.2.1 ≤ w64 (x.2.1 + (x.2.2.length : Int))) && decide (w64 (x.2.1 + (x.2.2.length : Int)) ≤ (x.1.length : Int))) || !(decide (w64 ((x.1.length : Int) - x.2.1) ≥ (x.2.2.length : Int)))) <|
 some (bif decide (w64 ((x.1.length : Int) - x.2.1) ≥ (x.2.2.length : Int)) then List.drop x.2.1.toNat (List.take (w64 (x.2.1 + (x.2.2.length : Int))).toNat x.1) == x.2.2 else false)
theorem znB (n : Nat) (x : Str × Int × Str) : Le (zhL n x) (zg6 x) := by
 unfold zhL zg6
 exact (.need .rfl)
def zhJ (n : Nat) (x : Str × Str) : Option Bool :=
 za (zeS n x.1) fun y1 =>
 za (zeS n x.2) fun y2 =>
 some (y1 == y2)
theorem zrd (n : Nat) (x : Str × Str) : Le (zhJ n x) (Qj x) := by
 unfold zhJ Qj
 exact (.bind (zjV n _) fun _ => (.bind (zjV n _) fun _ => .rfl))
def zhK (n : Nat) (x : Str × Int) : Option (zm × Int) :=
 zku n (fun (s1 : Int) =>
   za (zz (decide (s1 < (x.1.length : Int))) (geti x.1 s1) 0) fun y2 =>
   bif bif decide (s1 < (x.1.length : Int)) then (y2.toNat : Int) != 41 else false then
    za (qZ n (x.1, s1)) fun y3 =>
    bif y3 then
     za (zaa n (x.1, s1)) fun y4 =>
     some (LO.again y4.2)
    else
     some (LO.again (w64 (s1 + 1)))
   else
    some (LO.out s1) : Int → Option (LO (Int) (Int) _)) x.2 fun o5 =>
 some ((⟨8, [], 0, [], false⟩ : zm), if w64 (o5 + 1) < (x.1.length : Int) then w64 (o5 + 1) else (x.1.length : Int))
theorem znA (n : Nat) (x : Str × Int) : Le (zhK n x) (zg5 x) := by
 unfold zhK zg5
 exact (.loop (fun _ => (.bind .rfl fun _ => (.bif (.bind (Q7 n _) fun _ => (.bif (.bind (zb2 n _) fun _ => .rfl) .rfl)) .rfl))) fun _ => .rfl)
def zcc (n : Nat) (x : Int) : Option Bool :=
 some (bif bif bif decide (x ≤ 8) then true else x == 11 then true else bif decide (x ≥ 14) then decide (x ≤ 31) else false then true else x == 127)
theorem zjo (n : Nat) (x : Int) : Le (zcc n x) (zac x) := by
 unfold zcc zac
 exact .rfl
def zkE (n : Nat) (x : Str × Int) : Option (zm × Int) :=
 za (zaY n (x.1, x.2)) fun y1 =>
 zku n (fun (s2 : Int × zm × zm) =>
   za (zz (decide (s2.1 < (x.1.length : Int))) (geti x.1 s2.1) 0) fun y3 =>
   bif bif decide (s2.1 < (x.1.length : Int)) then (y3.toNat : Int) != 41 else false then
    za (geti x.1 s2.1) fun y4 =>
    za (zby n (y4.toNat : Int)) fun y5 =>
    bif y5 then
     za (zaY n (x.1, s2.1)) fun y6 =>
     za (zz (decide (y6 < (x.1.length : Int))) (geti x.1 y6) 0) fun y7 =>
     bif bif decide (y6 < (x.1.length : Int)) then (y7.toNat : Int) != 41 else false then
      za (zhK n (x.1, y6)) fun y8 =>
      some (LO.ret (y8.1, y8.2))
     else
      some (LO.again (y6, s2.2.1, s2.2.2))
    else
     za (zz (!(bif bif (y4.toNat : Int) == 34 then true else (y4.toNat : Int) == 39 then true else (y4.toNat : Int) == 40)) (zcc n (y4.toNat : Int)) (default : Bool)) fun y9 =>
     za (zz ((y4.toNat : Int) == 92 && !(bif bif bif (y4.toNat : Int) == 34 then true else (y4.toNat : Int) == 39 then true else (y4.toNat : Int) == 40 then true else y9)) (qZ n (x.1, s2.1)) (default : Bool)) fun y10 =>
     bif bif bif bif bif (y4.toNat : Int) == 34 then true else (y4.toNat : Int) == 39 then true else (y4.toNat : Int) == 40 then true else y9 then true else bif (y4.toNat : Int) == 92 then !y10 else false then
      za (zhK n (x.1, s2.1)) fun y11 =>
      some (LO.ret (y11.1, y11.2))
     else
      bif (y4.toNat : Int) == 92 then
       za (zaa n (x.1, s2.1)) fun y12 =>
       need (decide (((s2.2.2.text.length + y12.1.length : Nat) : Int) ≤ 9223372036854775807)) <|
       some (LO.again (y12.2, s2.2.1, (⟨s2.2.2.kind, s2.2.2.text ++ y12.1, s2.2.2.num, s2.2.2.unit, s2.2.2.flag⟩ : zm)))
      else
       need (decide (0 ≤ s2.1) && (decide (s2.1 ≤ w64 (s2.1 + 1)) && decide (w64 (s2.1 + 1) ≤ (x.1.length : Int)))) <|
       need (decide (((s2.2.2.text.length + (List.drop s2.1.toNat (List.take (w64 (s2.1 + 1)).toNat x.1)).length : Nat) : Int) ≤ 9223372036854775807)) <|
       some (LO.again (w64 (s2.1 + 1), s2.2.1, (⟨s2.2.2.kind, s2.2.2.text ++ List.drop s2.1.toNat (List.take (w64 (s2.1 + 1)).toNat x.1), s2.2.2.num, s2.2.2.unit, s2.2.2.flag⟩ : zm)))
   else
    some (LO.out (s2.1, s2.2.1, s2.2.2)) : Int × zm × zm → Option (LO (Int × zm × zm) (Int × zm × zm) _)) (y1, (⟨0, [], 0, [], false⟩ : zm), (⟨7, [], 0, [], false⟩ : zm)) fun o13 =>
 some (o13.2.2, if w64 (o13.1 + 1) < (x.1.length : Int) then w64 (o13.1 + 1) else (x.1.length : Int))
theorem zvR (n : Nat) (x : Str × Int) : Le (zkE n x) (ziW x) := by
 unfold zkE ziW
 exact (.bind (zcU n _) fun _ => (.loop (fun _ => (.bind .rfl fun _ => (.bif (.bind .rfl fun _ => (.bind (zdI n _) fun _ => (.bif (.bind (zcU n _) fun _ => (.bind .rfl fun _ => (.bif (.bind (znA n _) fun _ => .rfl) .rfl))) (.bind (.cond (zjo n _)) fun _ => (.bind (.cond (Q7 n _)) fun _ => (.bif (.bind (znA n _) fun _ => .rfl) (.bif (.bind (zb2 n _) fun _ => (.need .rfl)) (.need (.need .rfl))))))))) .rfl))) fun _ => .rfl))
def ziX (n : Nat) (x : Str × Int) : Option (zm × Int) :=
 za (zbx n (x.1, x.2)) fun y1 =>
 za (Zb n (x.1, y1.2)) fun y2 =>
 bif y2 != 40 then
  some ((⟨1, y1.1, 0, [], false⟩ : zm), y1.2)
 else
  zZ (X := zm) (
    za (zhJ n (y1.1, [117, 114, 108])) fun y3 =>
    bif y3 then
     za (zaY n (x.1, w64 (y1.2 + 1))) fun y4 =>
     za (Zb n (x.1, y4)) fun y5 =>
     bif bif y5 != 34 then y5 != 39 else false then
      za (zkE n (x.1, w64 (y1.2 + 1))) fun y6 =>
      some (LX.ret (y6.1, y6.2))
     else
      some (LX.out (⟨0, [], 0, [], false⟩ : zm))
    else
     some (LX.out (⟨0, [], 0, [], false⟩ : zm))) fun j7 =>
  some ((⟨2, y1.1, 0, [], false⟩ : zm), w64 (y1.2 + 1))
theorem ztx (n : Nat) (x : Str × Int) : Le (ziX n x) (zg7 x) := by
 unfold ziX zg7
 exact (.bind (zdH n _) fun _ => (.bind (zW n _) fun _ => (.bif .rfl (.join (.bind (zrd n _) fun _ => (.bif (.bind (zcU n _) fun _ => (.bind (zW n _) fun _ => (.bif (.bind (zvR n _) fun _ => .rfl) .rfl))) .rfl)) fun _ => .rfl))))
def zf4 (n : Nat) (x : Int) : Option Int :=
 bif x == 58 then
  some 16
 else
  bif x == 59 then
   some 17
  else
   bif x == 44 then
    some 18
   else
    bif x == 91 then
     some 19
    else
     bif x == 93 then
      some 20
     else
      bif x == 40 then
       some 21
      else
       bif x == 41 then
        some 22
       else
        bif x == 123 then
         some 23
        else
         bif x == 125 then
          some 24
         else
          some 0
theorem zlq (n : Nat) (x : Int) : Le (zf4 n x) (ze2 x) := by
 unfold zf4 ze2
 exact (.bif .rfl (.bif .rfl (.bif .rfl (.bif .rfl (.bif .rfl (.bif .rfl (.bif .rfl (.bif .rfl (.bif .rfl .rfl)))))))))
def zkD (n : Nat) (x : Str × Int) : Option (zm × Int) :=
 za (geti x.1 x.2) fun y1 =>
 za (zby n (y1.toNat : Int)) fun y2 =>
 bif y2 then
  za (zaY n (x.1, x.2)) fun y3 =>
  some ((⟨13, [], 0, [], false⟩ : zm), y3)
 else
  bif bif (y1.toNat : Int) == 34 then true else (y1.toNat : Int) == 39 then
   za (zgy n (x.1, x.2)) fun y4 =>
   some (y4.1, y4.2)
  else
   za (zz (decide (w64 (x.2 + 1) < (x.1.length : Int)) && (y1.toNat : Int) == 35) (geti x.1 (w64 (x.2 + 1))) 0) fun y5 =>
   za (zz (decide (w64 (x.2 + 1) < (x.1.length : Int)) && (y1.toNat : Int) == 35) (zdM n (y5.toNat : Int)) (default : Bool)) fun y6 =>
   za (zz (!(bif decide (w64 (x.2 + 1) < (x.1.length : Int)) then y6 else false) && (y1.toNat : Int) == 35) (qZ n (x.1, w64 (x.2 + 1))) (default : Bool)) fun y7 =>
   bif bif (y1.toNat : Int) == 35 then bif bif decide (w64 (x.2 + 1) < (x.1.length : Int)) then y6 else false then true else y7 else false then
    za (zbx n (x.1, w64 (x.2 + 1))) fun y8 =>
    za (zaX n (x.1, w64 (x.2 + 1))) fun y9 =>
    some ((⟨4, y8.1, 0, [], y9⟩ : zm), y8.2)
   else
    za (zer n (x.1, x.2)) fun y10 =>
    bif y10 then
     za (zfA n (x.1, x.2)) fun y11 =>
     some (y11.1, y11.2)
    else
     za (zhL n (x.1, x.2, [45, 45, 62])) fun y12 =>
     bif y12 then
      some ((⟨15, [], 0, [], false⟩ : zm), w64 (x.2 + 3))
     else
      za (zhL n (x.1, x.2, [60, 33, 45, 45])) fun y13 =>
      bif y13 then
       some ((⟨14, [], 0, [], false⟩ : zm), w64 (x.2 + 4))
      else
       za (zz ((y1.toNat : Int) == 64) (zaX n (x.1, w64 (x.2 + 1))) (default : Bool)) fun y14 =>
       bif bif (y1.toNat : Int) == 64 then y14 else false then
        za (zbx n (x.1, w64 (x.2 + 1))) fun y15 =>
        some ((⟨3, y15.1, 0, [], false⟩ : zm), y15.2)
       else
        za (zaX n (x.1, x.2)) fun y16 =>
        bif y16 then
         za (ziX n (x.1, x.2)) fun y17 =>
         some (y17.1, y17.2)
        else
         za (zf4 n (y1.toNat : Int)) fun y18 =>
         bif y18 != 0 then
          za (zf4 n (y1.toNat : Int)) fun y19 =>
          some ((⟨y19, [], 0, [], false⟩ : zm), w64 (x.2 + 1))
         else
          need (decide (0 ≤ x.2) && (decide (x.2 ≤ w64 (x.2 + 1)) && decide (w64 (x.2 + 1) ≤ (x.1.length : Int)))) <|
          some ((⟨9, List.drop x.2.toNat (List.take (w64 (x.2 + 1)).toNat x.1), 0, [], false⟩ : zm), w64 (x.2 + 1))
theorem zvQ (n : Nat) (x : Str × Int) : Le (zkD n x) (ziU x) := by
 unfold zkD ziU
 exact (.bind .rfl fun _ => (.bind (zdI n _) fun _ => (.bif (.bind (zcU n _) fun _ => .rfl) (.bif (.bind (zpt n _) fun _ => .rfl) (.bind .rfl fun _ => (.bind (.cond (ziA n _)) fun _ => (.bind (.cond (Q7 n _)) fun _ => (.bif (.bind (zdH n _) fun _ => (.bind (zcT n _) fun _ => .rfl)) (.bind (zmy n _) fun _ => (.bif (.bind (znN n _) fun _ => .rfl) (.bind (znB n _) fun _ => (.bif .rfl (.bind (znB n _) fun _ => (.bif .rfl (.bind (.cond (zcT n _)) fun _ => (.bif (.bind (zdH n _) fun _ => .rfl) (.bind (zcT n _) fun _ => (.bif (.bind (ztx n _) fun _ => .rfl) (.bind (zlq n _) fun _ => (.bif (.bind (zlq n _) fun _ => .rfl) (.need .rfl)))))))))))))))))))))
def zhM (n : Nat) (x : Int) : Option Bool :=
 za (zbM x) fun y1 =>
 za (zkD n ([y1, (10 : UInt8)], 0)) fun y2 =>
 some (bif bif bif bif decide (x ≥ 1) then decide (x ≤ 127) else false then x != 12 else false then x != 13 else false then y2.1.kind == 9 else false)
theorem zre (n : Nat) (x : Int) : Le (zhM n x) (Qm x) := by
 unfold zhM Qm
 exact (.bind .rfl fun _ => (.bind (zvQ n _) fun _ => .rfl))
end Go.Lv.VT

namespace Go.Lv.VT
set_option maxRecDepth 100000
theorem zpH : zsR zcw := by
 intro Qv ref08_size' h_ref08_size x
 unfold zcw
 exact (.lp (fun _ => (.bif (.bind .rfl fun _ => (.lp (fun _ => (.bind .rfl fun _ => (.bif (.bind .rfl fun _ => (.bind .rfl fun _ => (.bind .rfl fun _ => (.bind .rfl fun _ => (.lp (fun _ => (.bif (.bind .rfl fun _ => (.bind .rfl fun _ => (.bind .rfl fun _ => (.bind (h_ref08_size _) fun _ => .rfl)))) .rfl)) fun _ => .rfl))))) .rfl))) fun _ => .rfl)) .rfl)) fun _ => .rfl)
theorem zpG : zsR zcu := by
 intro Qu ref04_Size' h_ref04_Size x
 unfold zcu
 exact (.lp (fun _ => (.bif (.bind .rfl fun _ => (.bind .rfl fun _ => (.bind .rfl fun _ => (.bind (h_ref04_Size _) fun _ => .rfl)))) .rfl)) fun _ => .rfl)
theorem zpI : zsR zcx := by
 intro qg ref10_Size' h_ref10_Size x
 unfold zcx
 exact (.lp (fun _ => (.bif (.bind .rfl fun _ => (.bind (h_ref10_Size _) fun _ => .rfl)) .rfl)) fun _ => .rfl)
theorem zpJ : zsR zcy := by
 intro Qx ref10_long' h_ref10_long x
 unfold zcy
 exact (.bind .rfl fun _ => (.bif .rfl (.lp (fun _ => (.bif (.bind .rfl fun _ => (.bind (h_ref10_long _) fun _ => (.bif .rfl .rfl))) .rfl)) fun _ => .rfl)))
theorem zly : zsR zaj := by
 intro ZW ref11_weighed' h_ref11_weighed x
 unfold zaj
 exact (.bif .rfl (.lp (fun _ => (.bif (.bind .rfl fun _ => (.bind .rfl fun _ => (.bind .rfl fun _ => (.bind .rfl fun _ => (.bind (.cond (h_ref11_weighed _)) fun _ => (.bif .rfl (.lp (fun _ => (.bif (.bind .rfl fun _ => (.bif .rfl .rfl)) .rfl)) fun _ => .rfl))))))) .rfl)) fun _ => .rfl))
theorem zpL : zsR zcB := by
 intro zam sheet_told' h_sheet_told x
 unfold zcB
 exact (.bif (.bind .rfl fun _ => .rfl) (.bif .rfl (.lp (fun _ => (.bif (.bind .rfl fun _ => (.bind (h_sheet_told _) fun _ => (.join (.bif .rfl .rfl) fun _ => .rfl))) .rfl)) fun _ => .rfl)))
theorem zrf : zsR zdj := by
 intro Q5 cond_look' h_cond_look x
 unfold zdj
 exact (.bif .rfl (.bif (.bind .rfl fun _ => (.bind .rfl fun _ => .rfl)) (.bif (.bind .rfl fun _ => .rfl) (.join (.bif .rfl (.bif .rfl .rfl)) fun _ => (.bif (.bind .rfl fun _ => (.bif .rfl (.lp (fun _ => (.bif (.bind .rfl fun _ => (.bind (h_cond_look _) fun _ => (.bif .rfl (.join (.bind .rfl fun _ => (.bif .rfl .rfl)) fun _ => .rfl)))) .rfl)) fun _ => .rfl))) .rfl)))))
theorem zpK : zsR zcA := by
 intro zal sheet_look' h_sheet_look x
 unfold zcA
 exact (.lp (fun _ => (.bif (.bind .rfl fun _ => (.bind (h_sheet_look _) fun _ => (.bind .rfl fun _ => (.join (.bif (.bind .rfl fun _ => (.bind .rfl fun _ => (.bind .rfl fun _ => (.lp (fun _ => (.bif (.bind .rfl fun _ => (.bind .rfl fun _ => (.bind .rfl fun _ => .rfl))) .rfl)) fun _ => .rfl)))) (.bif (.bind .rfl fun _ => (.bind .rfl fun _ => .rfl)) (.bif (.bind .rfl fun _ => (.bind .rfl fun _ => .rfl)) (.bif (.bind .rfl fun _ => .rfl) (.bif (.bind .rfl fun _ => .rfl) .rfl))))) fun _ => .rfl)))) .rfl)) fun _ => .rfl)
end Go.Lv.VT
