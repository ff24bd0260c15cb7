/- The reading of tokens: what the program's text and the reference's come to. -/
import Derived.Test.YtnfhfeipljhciaaGreatDoorTy
import Derived.Test.YtnfhfeipljhciaaGreatDoorMo
import Derived.Test.YtnfhfeipljhciaaGreatDoorTx
namespace Go.Lv.VT
def atS (l : Str) (n : Nat) : UInt8 := l.getD n 0
def digB (b : UInt8) : Bool := decide (48 ≤ b.toNat) && decide (b.toNat ≤ 57)
def spB (b : UInt8) : Bool := b == 10 || b == 9 || b == 32
def alB (b : UInt8) : Bool := decide (65 ≤ b.toNat) && decide (b.toNat ≤ 90) || decide (97 ≤ b.toNat) && decide (b.toNat ≤ 122)
def fstB (b : UInt8) : Bool := alB b || b == 95 || decide (128 ≤ b.toNat)
def letB (b : UInt8) : Bool := fstB b || digB b || b == 45
def hexN (b : UInt8) : Nat :=
 if digB b then b.toNat - 48 else if 97 ≤ b.toNat ∧ b.toNat ≤ 102 then b.toNat - 87 else if 65 ≤ b.toNat ∧ b.toNat ≤ 70 then b.toNat - 55 else 16
def zaj (b : UInt8) : Bool := decide (hexN b < 16)
def escS (l : Str) : Bool := atS l 0 == 92 && !(atS l 1 == 10)
def nmS (l : Str) : Bool := if atS l 0 == 45 then fstB (atS l 1) || atS l 1 == 45 || escS (l.drop 1) else fstB (atS l 0) || escS l
def zr1 (b : UInt8) : Bool := b == 43 || b == 45
def unsign (l : Str) : Str := if zr1 (atS l 0) then l.drop 1 else l
def undot (l : Str) : Str := if atS l 0 == 46 then l.drop 1 else l
def nbS (l : Str) : Bool := digB (atS (undot (unsign l)) 0)
def zo3 : Str := [239, 191, 189]
def zhx (n : Nat) : Str :=
 if n = 0 ∨ (55296 ≤ n ∧ n ≤ 57343) ∨ 1114111 < n then zo3
 else if n < 128 then [UInt8.ofNat n]
 else if n < 2048 then [UInt8.ofNat (192 + n / 64), UInt8.ofNat (128 + n % 64)]
 else if n < 65536 then [UInt8.ofNat (224 + n / 4096), UInt8.ofNat (128 + n / 64 % 64), UInt8.ofNat (128 + n % 64)]
 else [UInt8.ofNat (240 + n / 262144), UInt8.ofNat (128 + n / 4096 % 64), UInt8.ofNat (128 + n / 64 % 64), UInt8.ofNat (128 + n % 64)]
def hexes : Nat → Nat → Str → Nat × Str
 | 0, n, l => (n, l)
 | _ + 1, n, [] => (n, [])
 | k + 1, n, c :: r => if zaj c then hexes k (16 * n + hexN c) r else (n, c :: r)
def unsp : Str → Str
 | [] => []
 | c :: r => if spB c then r else c :: r
def Zw : Str → Str × Str
 | [] => (zo3, [])
 | c :: r => if zaj c then (zhx (hexes 6 0 (c :: r)).1, unsp (hexes 6 0 (c :: r)).2) else ([c], r)
theorem zgO : ∀ (k n : Nat) (l : Str), (hexes k n l).2 <:+ l
 | 0, n, l => List.suffix_refl l
 | k + 1, n, [] => List.suffix_refl _
 | k + 1, n, c :: r => by
  unfold hexes
  split
  ·exact (zgO k _ r).trans (List.suffix_cons c r)
  ·exact List.suffix_refl _
theorem zqS (l : Str) : unsp l <:+ l := by
 cases l with
 | nil => exact List.suffix_refl _
 | cons c r =>
  show (if spB c then r else c :: r) <:+ c :: r
  split
  ·exact List.suffix_cons c r
  ·exact List.suffix_refl _
theorem zeh (l : Str) : (Zw l).2 <:+ l := by
 cases l with
 | nil => exact List.suffix_refl _
 | cons c r =>
  show (if zaj c then (zhx (hexes 6 0 (c :: r)).1, unsp (hexes 6 0 (c :: r)).2) else ([c], r)).2 <:+ c :: r
  split
  ·exact (zqS _).trans (zgO 6 0 _)
  ·exact List.suffix_cons c r
theorem zcw (l : Str) : (Zw l).2.length ≤ l.length := (zeh l).length_le
def Zn : Str → Str × Str
 | [] => ([], [])
 | c :: r =>
  if letB c then ((c :: (Zn r).1), (Zn r).2)
  else if escS (c :: r) then ((Zw r).1 ++ (Zn (Zw r).2).1, (Zn (Zw r).2).2)
  else ([], c :: r)
termination_by l => l.length
decreasing_by
 all_goals first | (have := zcw r; simp only [List.length_cons]; omega) | (simp only [List.length_cons]; omega)
end Go.Lv.VT

namespace Go.Lv.VT
set_option maxRecDepth 100000
abbrev sc (s : Str) (k : Nat) : za := ⟨s, (k : Int)⟩
def pk (l : Str) (n : Nat) : Int := match l[n]? with | some b => (b.toNat : Int) | none => -1
def beh (s r : Str) : Nat := s.length - r.length
theorem zea {n : Int} (h1 : -9223372036854775808 ≤ n) (h2 : n ≤ 9223372036854775807) : w64 n = n := zhA h1 h2
theorem zi0 {s r : Str} (h : r <:+ s) : s.drop (beh s r) = r := by
 obtain ⟨t, rfl⟩ := h
 unfold beh
 rw [List.length_append, show t.length + r.length - r.length = t.length by omega, List.drop_left]
theorem zmq (s r : Str) : beh s r ≤ s.length := by unfold beh; omega
theorem zjs {s : Str} {k n : Nat} (hs : s.length ≤ big) (hk : k ≤ s.length) (hn : n ≤ 8) : ze ((n : Int), sc s k) = some (pk (s.drop k) n) := by
 have hb : big = 4194304 := rfl
 have e : w64 ((k : Int) + (n : Int)) = ((k + n : Nat) : Int) := by rw [zea (by omega) (by omega)]; omega
 unfold ze pk
 simp only [e]
 rw [List.getElem?_drop]
 by_cases h : k + n < s.length
 ·rw [decide_eq_true (by omega), cond_true]
  have hg : geti s ((k + n : Nat) : Int) = some s[k + n] := zoE h
  have hlt := UInt8.toNat_lt s[k + n]
  simp only [zb, hg, Option.bind_some, List.getElem?_eq_getElem h]
  rw [zea (by omega) (by omega)]
 ·rw [decide_eq_false (by omega), cond_false, List.getElem?_eq_none (by omega)]
theorem zrS {s : Str} {k : Nat} (hs : s.length ≤ big) (hk : k ≤ s.length) : ze (0, sc s k) = some (pk (s.drop k) 0) := zjs (n := 0) hs hk (by omega)
theorem zrT {s : Str} {k : Nat} (hs : s.length ≤ big) (hk : k ≤ s.length) : ze (1, sc s k) = some (pk (s.drop k) 1) := zjs (n := 1) hs hk (by omega)
theorem zta {s : Str} {k : Nat} (hs : s.length ≤ big) (hk : k ≤ s.length) : ze (2, sc s k) = some (pk (s.drop k) 2) := zjs (n := 2) hs hk (by omega)
theorem zpc {β : Type} {f : Int → Option β} {p : UInt8 → β} (h : ∀ b : UInt8, f (b.toNat : Int) = some (p b)) (h0 : f (-1) = some (p 0)) (l : Str) (n : Nat) : f (pk l n) = some (p (atS l n)) := by
 unfold pk atS
 rw [List.getD_eq_getElem?_getD]
 cases l[n]? with
 | none => exact h0
 | some b => exact h b
theorem ziy {β : Type} {f g : Int → Option β} {p : UInt8 → β} (hf : ∀ x, Le (g x) (f x)) (h : ∀ n : Nat, n < 256 → g (n : Int) = some (p (UInt8.ofNat n))) (b : UInt8) : f (b.toNat : Int) = some (p b) := by
 have := hf _ _ (h b.toNat (UInt8.toNat_lt b))
 rwa [UInt8.ofNat_toNat] at this
theorem zpF (l : Str) (n : Nat) : Zr (pk l n) = some (spB (atS l n)) := zpc (ziy (qz 1) (by decide +kernel)) (qz 1 _ _ (by decide +kernel)) l n
theorem zjD (l : Str) (n : Nat) : Zc (pk l n) = some (digB (atS l n)) := zpc (ziy (ZV 1) (by decide +kernel)) (ZV 1 _ _ (by decide +kernel)) l n
theorem zr3 (l : Str) (n : Nat) : Qa (pk l n) = some (fstB (atS l n)) := zpc (ziy (QS 1) (by decide +kernel)) (QS 1 _ _ (by decide +kernel)) l n
theorem zqO (l : Str) (n : Nat) : qR (pk l n) = some (letB (atS l n)) := zpc (ziy (zaw 1) (by decide +kernel)) (zaw 1 _ _ (by decide +kernel)) l n
def hexI (b : UInt8) : Int := if zaj b then (hexN b : Int) else -1
theorem zsP (l : Str) (n : Nat) : QY (pk l n) = some (hexI (atS l n)) := zpc (ziy (zae 1) (by decide +kernel)) (zae 1 _ _ (by decide +kernel)) l n
theorem zhV (l : Str) (n : Nat) (c : UInt8) (h : c ≠ 0) : (pk l n == (c.toNat : Int)) = (atS l n == c) := by
 unfold pk atS
 rw [List.getD_eq_getElem?_getD]
 cases l[n]? with
 | none =>
  have h1 : ((-1 : Int) == (c.toNat : Int)) = false := beq_eq_false_iff_ne.2 (by omega)
  have h2 : ((none : Option UInt8).getD 0 == c) = false := beq_eq_false_iff_ne.2 (fun e => h e.symm)
  rw [h2]; exact h1
 | some b =>
  show ((b.toNat : Int) == (c.toNat : Int)) = (b == c)
  by_cases e : b = c
  ·subst e; rw [beq_self_eq_true, beq_self_eq_true]
  ·have : b.toNat ≠ c.toNat := fun h => e (UInt8.toNat_inj.1 h)
   rw [beq_eq_false_iff_ne.2 e, beq_eq_false_iff_ne.2 (by omega)]
theorem ztb (l : Str) (n : Nat) : (pk l n == 10) = (atS l n == 10) := zhV l n 10 (by decide)
theorem ztc (l : Str) (n : Nat) : (pk l n == 34) = (atS l n == 34) := zhV l n 34 (by decide)
theorem ztd (l : Str) (n : Nat) : (pk l n == 35) = (atS l n == 35) := zhV l n 35 (by decide)
theorem zte (l : Str) (n : Nat) : (pk l n == 39) = (atS l n == 39) := zhV l n 39 (by decide)
theorem ztf (l : Str) (n : Nat) : (pk l n == 40) = (atS l n == 40) := zhV l n 40 (by decide)
theorem ztg (l : Str) (n : Nat) : (pk l n == 43) = (atS l n == 43) := zhV l n 43 (by decide)
theorem zrU (l : Str) (n : Nat) : (pk l n == 45) = (atS l n == 45) := zhV l n 45 (by decide)
theorem zsF (l : Str) (n : Nat) : (pk l n == 46) = (atS l n == 46) := zhV l n 46 (by decide)
theorem zth (l : Str) (n : Nat) : (pk l n == 64) = (atS l n == 64) := zhV l n 64 (by decide)
theorem zti (l : Str) (n : Nat) : (pk l n == 92) = (atS l n == 92) := zhV l n 92 (by decide)
theorem zq8 (l : Str) : (pk l 0 == -1) = l.isEmpty := by
 cases l with
 | nil => rfl
 | cons b r =>
  show ((b.toNat : Int) == -1) = false
  exact beq_eq_false_iff_ne.2 (by omega)
theorem zan (l : Str) (k n : Nat) : atS (l.drop k) n = atS l (k + n) := by
 unfold atS
 rw [List.getD_eq_getElem?_getD, List.getD_eq_getElem?_getD, List.getElem?_drop]
theorem number_eq {s : Str} {k : Nat} (hs : s.length ≤ big) (hk : k ≤ s.length) : zS (sc s k) = some (nbS (s.drop k)) := by
 unfold zS nbS unsign undot zr1
 simp only [zb, zrS hs hk, Option.bind_some, ztg, zrU]
 have key : ∀ (b : Bool), (zO (X := Int) (bif b then some (LX.out 1) else some (LX.out 0)) fun j2 =>
   zO (X := Int) ((ze (j2, sc s k)).bind fun y3 => bif y3 == 46 then some (LX.out (w64 (j2 + 1))) else some (LX.out j2)) fun j4 =>
   (ze (j4, sc s k)).bind fun y5 => (Zc y5).bind fun y6 => some y6) = some (digB (atS (if atS (if b then (s.drop k).drop 1 else s.drop k) 0 == 46 then (if b then (s.drop k).drop 1 else s.drop k).drop 1 else (if b then (s.drop k).drop 1 else s.drop k)) 0)) := by
  intro b
  cases b with
  | false =>
   simp only [cond_false, qG, zrS hs hk, Option.bind_some, zsF, Bool.false_eq_true, if_false]
   cases h : atS (s.drop k) 0 == 46 with
   | false => simp only [cond_false, qG, zrS hs hk, Option.bind_some, zjD, Bool.false_eq_true, if_false]
   | true =>
    simp only [cond_true, qG, if_true]
    rw [show w64 (0 + 1) = 1 from rfl, zrT hs hk]
    simp only [Option.bind_some, zjD]
    rw [zan (s.drop k) 1 0]
  | true =>
   simp only [cond_true, qG, zrT hs hk, Option.bind_some, zsF, if_true]
   rw [zan (s.drop k) 1 0]
   cases h : atS (s.drop k) (1 + 0) == 46 with
   | false =>
    simp only [Nat.add_zero] at h
    simp only [h, cond_false, qG, zrT hs hk, Option.bind_some, zjD, Bool.false_eq_true, if_false]
    rw [zan (s.drop k) 1 0]
   | true =>
    simp only [Nat.add_zero] at h
    simp only [h, cond_true, qG, if_true]
    rw [show w64 (1 + 1) = 2 from rfl, zta hs hk]
    simp only [Option.bind_some, zjD]
    rw [List.drop_drop, zan (s.drop k) (1 + 1) 0]
 have := key (atS (s.drop k) 0 == 43 || atS (s.drop k) 0 == 45)
 rw [show (bif atS (s.drop k) 0 == 43 then true else atS (s.drop k) 0 == 45) = (atS (s.drop k) 0 == 43 || atS (s.drop k) 0 == 45) from by cases (atS (s.drop k) 0 == 43) <;> rfl]
 exact this
end Go.Lv.VT

namespace Go.Lv.VT
set_option maxRecDepth 100000
abbrev sr (s r : Str) : za := sc s (beh s r)
theorem sr_0 (s : Str) : (⟨s, 0⟩ : za) = sr s s := by
 show sc s 0 = sc s (beh s s)
 unfold beh
 rw [Nat.sub_self]
theorem zpo {s r : Str} {n : Nat} (hs : s.length ≤ big) (hr : r <:+ s) (hn : n ≤ 8) : ze ((n : Int), sr s r) = some (pk r n) := by
 rw [zjs hs (zmq s r) hn, zi0 hr]
theorem ziA {s r : Str} (hs : s.length ≤ big) (hr : r <:+ s) : ze (0, sr s r) = some (pk r 0) := zpo (n := 0) hs hr (by omega)
theorem zrN {s r : Str} (hs : s.length ≤ big) (hr : r <:+ s) : zS (sr s r) = some (nbS r) := by
 rw [number_eq hs (zmq s r), zi0 hr]
theorem zsj {l : Str} {n : Nat} (h : atS l n ≠ 0) : n < l.length := by
 rcases Nat.lt_or_ge n l.length with h' | h'
 ·exact h'
 ·exact absurd (by unfold atS; rw [List.getD_eq_getElem?_getD, List.getElem?_eq_none h']; rfl) h
theorem zs9 (a b : Bool) : (bif a then true else b) = (a || b) := by cases a <;> rfl
theorem zse (a b : Bool) : (bif a then b else false) = (a && b) := by cases a <;> rfl
end Go.Lv.VT

namespace Go.Lv.VT
set_option maxRecDepth 100000
end Go.Lv.VT

namespace Go.Lv.VT
theorem zsB (i : Nat) : decide ((0 : Int) ≤ (i : Int)) = true := decide_eq_true (by omega)
def zf1 (l : Str) : Bool := l.all fun b => !(b == 0)
theorem zoN (c : UInt8) : ∀ l : Str, decide (Lib.indexByte l c ≥ 0) = l.any fun b => b == c
 | [] => rfl
 | b :: l => by
  have ih := zoN c l
  have hg := Lib.indexByte_ge l c
  rw [List.any_cons, Lib.indexByte]
  cases hb : (b == c) with
  | true => rfl
  | false =>
   rw [Bool.false_or, ← ih, if_neg (by simp)]
   by_cases h : Lib.indexByte l c = -1
   ·rw [if_pos (by rw [h]; rfl), h]
   ·rw [if_neg (by simpa using h)]
    rw [decide_eq_true (by omega), decide_eq_true (by omega)]
theorem zrM (l : Str) : (l.any fun b => b == 0) = !zf1 l := by
 unfold zf1
 induction l with
 | nil => rfl
 | cons b l ih => rw [List.any_cons, List.all_cons, ih]; cases (b == 0) <;> simp
theorem zkA (l : Str) (n : Int) : strings_IndexByte (l, n) = some (Lib.indexByte l n.toNat.toUInt8) := rfl
theorem zrA (l : Str) : decide (Lib.indexByte l (0 : Int).toNat.toUInt8 ≥ 0) = !zf1 l := (zoN 0 l).trans (zrM l)
theorem zq5 (n m : Nat) : decide ((n : Int) ≤ (m : Int)) = decide (n ≤ m) := by
 by_cases h : n ≤ m
 ·rw [decide_eq_true h, decide_eq_true (by omega)]
 ·rw [decide_eq_false h, decide_eq_false (by omega)]
theorem zc9 (l m : Str) : strings_HasPrefix (l, m) = some (m.isPrefixOf l) := by
 have key : ∀ m l : Str, m.isPrefixOf l = (decide (m.length ≤ l.length) && l.take m.length == m) := by
  intro m l
  rw [Bool.eq_iff_iff]
  simp only [List.isPrefixOf_iff_prefix, Bool.and_eq_true, decide_eq_true_eq, beq_iff_eq]
  constructor
  ·rintro ⟨t, rfl⟩
   exact ⟨by simp, by simp⟩
  ·rintro ⟨h1, h2⟩
   exact ⟨l.drop m.length, by rw [← h2, List.length_take, Nat.min_eq_left h1, List.take_append_drop]⟩
 unfold strings_HasPrefix stringslite_HasPrefix
 have e1 : decide ((l.length : Int) ≥ (m.length : Int)) = decide (m.length ≤ l.length) := zq5 _ _
 have e2 : decide ((m.length : Int) ≤ (l.length : Int)) = decide (m.length ≤ l.length) := zq5 _ _
 simp only [e1, e2, zsB, Bool.true_and, key]
 cases decide (m.length ≤ l.length) <;> rfl
end Go.Lv.VT

namespace Go.Lv.VT
def digN (n : Nat) : Bool := decide (48 ≤ n) && decide (n ≤ 57)
theorem zku : ∀ n : Nat, n < 256 → qP 1 (n : Int) = some (digN n) := by decide +kernel
theorem zi6 (b : UInt8) : Zy (b.toNat : Int) = some (digN b.toNat) := QD 1 _ _ (zku _ (UInt8.toNat_lt b))
def namN (n : Nat) : Bool := digN n || (decide (65 ≤ n) && decide (n ≤ 90)) || (decide (97 ≤ n) && decide (n ≤ 122)) || n == 95 || n == 45 || decide (128 ≤ n)
theorem zkv : ∀ n : Nat, n < 256 → zac 1 (n : Int) = some (namN n) := by decide +kernel
theorem zi7 (b : UInt8) : qE (b.toNat : Int) = some (namN b.toNat) := zbm 1 _ _ (zkv _ (UInt8.toNat_lt b))
end Go.Lv.VT

namespace Go.Lv.VT
end Go.Lv.VT

namespace Go.Lv.VT
set_option maxRecDepth 100000
end Go.Lv.VT
