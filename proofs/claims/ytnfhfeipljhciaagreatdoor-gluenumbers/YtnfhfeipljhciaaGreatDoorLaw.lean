/- The reading of tokens: what the program's text and the reference's come to. -/
import Derived.Test.YtnfhfeipljhciaaGreatDoorTy
import Derived.Test.YtnfhfeipljhciaaGreatDoorMo
import Derived.Test.YtnfhfeipljhciaaGreatDoorTx
namespace Go.Lv.VT
def atS (l : Str) (n : Nat) : UInt8 := l.getD n 0
def digB (b : UInt8) : Bool := decide (48 ≤ b.toNat) && decide (b.toNat ≤ 57)
def zms (b : UInt8) : Bool := b == 43 || b == 45
def unsign (l : Str) : Str := if zms (atS l 0) then l.drop 1 else l
def undot (l : Str) : Str := if atS l 0 == 46 then l.drop 1 else l
def nbS (l : Str) : Bool := digB (atS (undot (unsign l)) 0)
def past (p : UInt8 → Bool) : Str → Str
 | [] => []
 | c :: r => if p c then past p r else c :: r
theorem zm2 (p : UInt8 → Bool) : ∀ l : Str, past p l <:+ l
 | [] => List.suffix_refl _
 | c :: r => by
  unfold past
  split
  ·exact (zm2 p r).trans (List.suffix_cons c r)
  ·exact List.suffix_refl _
def zdy (l : Str) : Str × Bool :=
 if atS l 0 == 46 && digB (atS l 1) then (past digB (l.drop 1), false) else (l, true)
def expS (l : Str) : Option Str :=
 if atS l 0 == 101 || atS l 0 == 69 then (if digB (atS (unsign (l.drop 1)) 0) then some (past digB (unsign (l.drop 1))) else none) else none
def zhm (l : Str) : Str × Bool :=
 let x := zdy (past digB (unsign l))
 match expS x.1 with
 | some r => (r, false)
 | none => x
def decN (n : Nat) (b : UInt8) : Nat := 10 * n + (b.toNat - 48)
end Go.Lv.VT

namespace Go.Lv.VT
set_option maxRecDepth 100000
abbrev sc (s : Str) (k : Nat) : za := ⟨s, (k : Int)⟩
def pk (l : Str) (n : Nat) : Int := match l[n]? with | some b => (b.toNat : Int) | none => -1
def beh (s r : Str) : Nat := s.length - r.length
theorem QE {n : Int} (h1 : -9223372036854775808 ≤ n) (h2 : n ≤ 9223372036854775807) : w64 n = n := zp2 h1 h2
theorem zjm {s r : Str} (h : r <:+ s) : s.drop (beh s r) = r := by
 obtain ⟨t, rfl⟩ := h
 unfold beh
 rw [List.length_append, show t.length + r.length - r.length = t.length by omega, List.drop_left]
theorem zmB (s r : Str) : beh s r ≤ s.length := by unfold beh; omega
theorem zqc {s : Str} {k : Nat} (h : k ≤ s.length) : beh s (s.drop k) = k := by unfold beh; rw [List.length_drop]; omega
theorem zjM {s : Str} {k n : Nat} (hs : s.length ≤ big) (hk : k ≤ s.length) (hn : n ≤ 8) : ze ((n : Int), sc s k) = some (pk (s.drop k) n) := by
 have hb : big = 4194304 := rfl
 have e : w64 ((k : Int) + (n : Int)) = ((k + n : Nat) : Int) := by rw [QE (by omega) (by omega)]; omega
 unfold ze pk
 simp only [e]
 rw [List.getElem?_drop]
 by_cases h : k + n < s.length
 ·rw [decide_eq_true (by omega), cond_true]
  have hg : geti s ((k + n : Nat) : Int) = some s[k + n] := zjq h
  have hlt := UInt8.toNat_lt s[k + n]
  simp only [zb, hg, Option.bind_some, List.getElem?_eq_getElem h]
  rw [QE (by omega) (by omega)]
 ·rw [decide_eq_false (by omega), cond_false, List.getElem?_eq_none (by omega)]
theorem zqS {s : Str} {k : Nat} (hs : s.length ≤ big) (hk : k ≤ s.length) : ze (0, sc s k) = some (pk (s.drop k) 0) := zjM (n := 0) hs hk (by omega)
theorem zr0 {s : Str} {k : Nat} (hs : s.length ≤ big) (hk : k ≤ s.length) : ze (1, sc s k) = some (pk (s.drop k) 1) := zjM (n := 1) hs hk (by omega)
theorem zs3 {s : Str} {k : Nat} (hs : s.length ≤ big) (hk : k ≤ s.length) : ze (2, sc s k) = some (pk (s.drop k) 2) := zjM (n := 2) hs hk (by omega)
theorem zs1 {β : Type} {f : Int → Option β} {p : UInt8 → β} (h : ∀ b : UInt8, f (b.toNat : Int) = some (p b)) (h0 : f (-1) = some (p 0)) (l : Str) (n : Nat) : f (pk l n) = some (p (atS l n)) := by
 unfold pk atS
 rw [List.getD_eq_getElem?_getD]
 cases l[n]? with
 | none => exact h0
 | some b => exact h b
theorem zsE {β : Type} {f g : Int → Option β} {p : UInt8 → β} (hf : ∀ x, Le (g x) (f x)) (h : ∀ n : Nat, n < 256 → g (n : Int) = some (p (UInt8.ofNat n))) (b : UInt8) : f (b.toNat : Int) = some (p b) := by
 have := hf _ _ (h b.toNat (UInt8.toNat_lt b))
 rwa [UInt8.ofNat_toNat] at this
theorem zdu (l : Str) (n : Nat) : zU (pk l n) = some (digB (atS l n)) := zs1 (zsE (ZU 1) (by decide +kernel)) (ZU 1 _ _ (by decide +kernel)) l n
theorem zpx (l : Str) (n : Nat) (c : UInt8) (h : c ≠ 0) : (pk l n == (c.toNat : Int)) = (atS l n == c) := by
 unfold pk atS
 rw [List.getD_eq_getElem?_getD]
 cases l[n]? with
 | none =>
  have h1 : ((-1 : Int) == (c.toNat : Int)) = false := beq_eq_false_iff_ne.2 (by omega)
  have h2 : ((none : Option UInt8).getD 0 == c) = false := beq_eq_false_iff_ne.2 (fun e => h e.symm)
  rw [h2]; exact h1
 | some b =>
  show ((b.toNat : Int) == (c.toNat : Int)) = (b == c)
  by_cases e : b = c
  ·subst e; rw [beq_self_eq_true, beq_self_eq_true]
  ·have : b.toNat ≠ c.toNat := fun h => e (UInt8.toNat_inj.1 h)
   rw [beq_eq_false_iff_ne.2 e, beq_eq_false_iff_ne.2 (by omega)]
theorem zr2 (l : Str) (n : Nat) : (pk l n == 43) = (atS l n == 43) := zpx l n 43 (by decide)
theorem zr3 (l : Str) (n : Nat) : (pk l n == 45) = (atS l n == 45) := zpx l n 45 (by decide)
theorem zr4 (l : Str) (n : Nat) : (pk l n == 46) = (atS l n == 46) := zpx l n 46 (by decide)
theorem zs4 (l : Str) (n : Nat) : (pk l n == 69) = (atS l n == 69) := zpx l n 69 (by decide)
theorem zsI (l : Str) (n : Nat) : (pk l n == 101) = (atS l n == 101) := zpx l n 101 (by decide)
theorem zdB (l : Str) (k n : Nat) : atS (l.drop k) n = atS l (k + n) := by
 unfold atS
 rw [List.getD_eq_getElem?_getD, List.getD_eq_getElem?_getD, List.getElem?_drop]
theorem zqZ {R : Type} {step : za → Option (LO za za R)} {s : Str} (p : UInt8 → Bool) (h0 : p 0 = false)
  (h : ∀ k, k ≤ s.length → step (sc s k) = some (bif p (atS (s.drop k) 0) then .again (sc s (k + 1)) else .out (sc s k))) {k : Nat} (hk : k ≤ s.length) :
  zfC step (sc s k) = some (.out (sc s (beh s (past p (s.drop k))))) := by
 refine zeW (fun z => ∃ j, z = sc s j ∧ j ≤ s.length ∧ past p (s.drop j) = past p (s.drop k)) (fun z => s.length - z.at_.toNat) _ ?_ ⟨k, rfl, hk, rfl⟩
 rintro _ ⟨j, rfl, hj, he⟩
 rw [h j hj]
 cases hd : s.drop j with
 | nil =>
  rw [show atS ([] : Str) 0 = 0 from rfl, h0, cond_false]
  refine .inr (.inl ⟨_, rfl, ?_⟩)
  rw [← he, hd]
  have : j = s.length := by have := List.drop_eq_nil_iff.1 hd; omega
  subst this
  show LX.out (sc s (beh s [])) = _
  unfold beh
  rw [List.length_nil, Nat.sub_zero]
 | cons c r =>
  have hlt : j < s.length := by
   rcases Nat.lt_or_ge j s.length with h' | h'
   ·exact h'
   ·rw [List.drop_eq_nil_of_le h'] at hd; cases hd
  have hr : s.drop (j + 1) = r := by
   have := List.drop_eq_getElem_cons hlt
   rw [hd] at this
   injection this with _ h2
   exact h2.symm
  rw [show atS (c :: r) 0 = c from rfl]
  cases hp : p c with
  | true =>
   refine .inl ⟨_, rfl, ⟨j + 1, rfl, by omega, ?_⟩, by simp only [Int.toNat_natCast]; omega⟩
   rw [hr, ← he, hd, past, hp]; rfl
  | false =>
   refine .inr (.inl ⟨_, rfl, ?_⟩)
   rw [← he, hd, past, hp, if_neg (by decide), ← hd, zqc hj]
theorem zr7 {s : Str} {k : Nat} (hs : s.length ≤ big) (hk : k ≤ s.length) : w64 ((k : Int) + 1) = ((k + 1 : Nat) : Int) := by
 have hb : big = 4194304 := rfl
 rw [QE (by omega) (by omega)]; omega
theorem zpZ {s : Str} {k : Nat} (hs : s.length ≤ big) (hk : k ≤ s.length) : zu (sc s k) = some (sc s (beh s (past digB (s.drop k)))) := by
 unfold zu
 rw [zeX (zqZ digB rfl (fun j hj => ?_) hk)]
 simp only [zb, zqS hs hj, Option.bind_some, zdu, zr7 hs hj]
 cases digB (atS (s.drop j) 0) <;> rfl
theorem number_eq {s : Str} {k : Nat} (hs : s.length ≤ big) (hk : k ≤ s.length) : zD (sc s k) = some (nbS (s.drop k)) := by
 unfold zD nbS unsign undot zms
 simp only [zb, zqS hs hk, Option.bind_some, zr2, zr3]
 have key : ∀ (b : Bool), (zJ (X := Int) (bif b then some (LX.out 1) else some (LX.out 0)) fun j2 =>
   zJ (X := Int) ((ze (j2, sc s k)).bind fun y3 => bif y3 == 46 then some (LX.out (w64 (j2 + 1))) else some (LX.out j2)) fun j4 =>
   (ze (j4, sc s k)).bind fun y5 => (zU y5).bind fun y6 => some y6) = some (digB (atS (if atS (if b then (s.drop k).drop 1 else s.drop k) 0 == 46 then (if b then (s.drop k).drop 1 else s.drop k).drop 1 else (if b then (s.drop k).drop 1 else s.drop k)) 0)) := by
  intro b
  cases b with
  | false =>
   simp only [cond_false, zB, zqS hs hk, Option.bind_some, zr4, Bool.false_eq_true, if_false]
   cases h : atS (s.drop k) 0 == 46 with
   | false => simp only [cond_false, zB, zqS hs hk, Option.bind_some, zdu, Bool.false_eq_true, if_false]
   | true =>
    simp only [cond_true, zB, if_true]
    rw [show w64 (0 + 1) = 1 from rfl, zr0 hs hk]
    simp only [Option.bind_some, zdu]
    rw [zdB (s.drop k) 1 0]
  | true =>
   simp only [cond_true, zB, zr0 hs hk, Option.bind_some, zr4, if_true]
   rw [zdB (s.drop k) 1 0]
   cases h : atS (s.drop k) (1 + 0) == 46 with
   | false =>
    simp only [Nat.add_zero] at h
    simp only [h, cond_false, zB, zr0 hs hk, Option.bind_some, zdu, Bool.false_eq_true, if_false]
    rw [zdB (s.drop k) 1 0]
   | true =>
    simp only [Nat.add_zero] at h
    simp only [h, cond_true, zB, if_true]
    rw [show w64 (1 + 1) = 2 from rfl, zs3 hs hk]
    simp only [Option.bind_some, zdu]
    rw [List.drop_drop, zdB (s.drop k) (1 + 1) 0]
 have := key (atS (s.drop k) 0 == 43 || atS (s.drop k) 0 == 45)
 rw [show (bif atS (s.drop k) 0 == 43 then true else atS (s.drop k) 0 == 45) = (atS (s.drop k) 0 == 43 || atS (s.drop k) 0 == 45) from by cases (atS (s.drop k) 0 == 43) <;> rfl]
 exact this
end Go.Lv.VT

namespace Go.Lv.VT
set_option maxRecDepth 100000
abbrev sr (s r : Str) : za := sc s (beh s r)
theorem sr_0 (s : Str) : (⟨s, 0⟩ : za) = sr s s := by
 show sc s 0 = sc s (beh s s)
 unfold beh
 rw [Nat.sub_self]
theorem zr1 {s r : Str} {n : Nat} (hs : s.length ≤ big) (hr : r <:+ s) (hn : n ≤ 8) : ze ((n : Int), sr s r) = some (pk r n) := by
 rw [zjM hs (zmB s r) hn, zjm hr]
theorem zpu {s r : Str} (hs : s.length ≤ big) (hr : r <:+ s) : ze (0, sr s r) = some (pk r 0) := zr1 (n := 0) hs hr (by omega)
theorem zpv {s r : Str} (hs : s.length ≤ big) (hr : r <:+ s) : ze (1, sr s r) = some (pk r 1) := zr1 (n := 1) hs hr (by omega)
theorem zsH {s r : Str} (hs : s.length ≤ big) (hr : r <:+ s) : ze (2, sr s r) = some (pk r 2) := zr1 (n := 2) hs hr (by omega)
theorem zka {s r : Str} (hs : s.length ≤ big) (hr : r <:+ s) : zu (sr s r) = some (sr s (past digB r)) := by
 rw [zpZ hs (zmB s r), zjm hr]
theorem zrV {s r : Str} (hs : s.length ≤ big) (hr : r <:+ s) : zD (sr s r) = some (nbS r) := by
 rw [number_eq hs (zmB s r), zjm hr]
theorem zrx {s r : Str} {n : Nat} (hr : r <:+ s) (hn : n ≤ r.length) : beh s r + n = beh s (r.drop n) := by
 have := hr.length_le
 unfold beh
 rw [List.length_drop]; omega
theorem zsD {s r : Str} {n : Nat} (hs : s.length ≤ big) (hr : r <:+ s) (hn : n ≤ r.length) : (⟨s, w64 ((beh s r : Int) + (n : Int))⟩ : za) = sr s (r.drop n) := by
 have hb : big = 4194304 := rfl
 have := zmB s r
 have h2 := hr.length_le
 rw [QE (by omega) (by omega), show (beh s r : Int) + (n : Int) = ((beh s r + n : Nat) : Int) by omega, zrx hr hn]
theorem zso {l : Str} {n : Nat} (h : atS l n ≠ 0) : n < l.length := by
 rcases Nat.lt_or_ge n l.length with h' | h'
 ·exact h'
 ·exact absurd (by unfold atS; rw [List.getD_eq_getElem?_getD, List.getElem?_eq_none h']; rfl) h
theorem zrT {s r : Str} (hs : s.length ≤ big) (hr : r <:+ s) (h : atS r 0 ≠ 0) : (⟨s, w64 ((beh s r : Int) + 1)⟩ : za) = sr s (r.drop 1) := zsD (n := 1) hs hr (zso h)
theorem zfa {s r : Str} (hr : r <:+ s) (n : Nat) : r.drop n <:+ s := (List.drop_suffix n r).trans hr
theorem zm7 {s r : Str} (p : UInt8 → Bool) (hr : r <:+ s) : past p r <:+ s := (zm2 p r).trans hr
theorem zn5 {s r : Str} (hr : r <:+ s) : unsign r <:+ s := by
 unfold unsign
 split
 ·exact zfa hr 1
 ·exact hr
theorem zpI {b : UInt8} (h : zms b = true) : b ≠ 0 := by rintro rfl; revert h; decide
theorem zqP (a b : Bool) : (bif a then true else b) = (a || b) := by cases a <;> rfl
theorem zsl (a b : Bool) : (bif a then b else false) = (a && b) := by cases a <;> rfl
theorem zp0 {s r : Str} (hr : r <:+ s) : (zdy r).1 <:+ s := by
 unfold zdy
 split
 ·exact zm7 _ (zfa hr 1)
 ·exact hr
theorem zqs {s l : Str} (hs : s.length ≤ big) (hl : l <:+ s) : zI (sr s l) = some ((zhm l).2, sr s (zhm l).1) := by
 unfold zI
 simp only [zb, zpu hs hl, Option.bind_some, zr2, zr3, zqP]
 have e1 : (bif (atS l 0 == 43 || atS l 0 == 45) then some (LX.out (⟨s, w64 ((beh s l : Int) + 1)⟩ : za)) else some (LX.out (sr s l))) = (some (LX.out (sr s (unsign l))) : Option (LX za (Bool × za))) := by
  unfold unsign
  cases h : zms (atS l 0) with
  | true =>
   have h' : (atS l 0 == 43 || atS l 0 == 45) = true := h
   rw [h', cond_true, if_pos rfl, zrT hs hl (zpI h)]
  | false =>
   have h' : (atS l 0 == 43 || atS l 0 == 45) = false := h
   rw [h', cond_false, if_neg (by decide)]
 rw [e1, zB]
 have hu := zn5 hl
 rw [zka hs hu]
 simp only [Option.bind_some]
 have hp := zm7 digB hu
 unfold zhm
 generalize past digB (unsign l) = q at hp ⊢
 have e2 : zJ (X := Bool × za) (R := Bool × za) ((ze (0, sr s q)).bind fun y4 =>
   (zy (y4 == 46) (ze (1, sr s q)) (default : Int)).bind fun y5 =>
   (zy (y4 == 46) (zU y5) (default : Bool)).bind fun y6 =>
   bif bif y4 == 46 then y6 else false then (zu (⟨s, w64 ((beh s q : Int) + 1)⟩ : za)).bind fun y7 => some (LX.out (false, y7)) else some (LX.out (true, sr s q))) = zJ (some (LX.out ((zdy q).2, sr s (zdy q).1))) := by
  congr 1
  unfold zdy
  simp only [zpu hs hp, zpv hs hp, Option.bind_some, zr4]
  cases h : atS q 0 == 46 with
  | false => simp only [zlU, Option.bind_some, cond_false, Bool.false_and, Bool.false_eq_true, if_false]
  | true =>
   simp only [zfs, Option.bind_some, cond_true, zdu, Bool.true_and]
   cases h2 : digB (atS q 1) with
   | false => simp only [cond_false, Bool.false_eq_true, if_false]
   | true =>
    rw [cond_true, if_pos rfl, zrT hs hp (by rw [beq_iff_eq.1 h]; decide), zka hs (zfa hp 1)]
    rfl
 rw [e2, zB]
 have hw := zp0 hp
 generalize zdy q = W at hw ⊢
 obtain ⟨w, i⟩ := W
 simp only at hw ⊢
 have e3 : ((ze (0, sr s w)).bind fun y9 =>
   (zy (!(y9 == 101)) (ze (0, sr s w)) (default : Int)).bind fun y10 =>
   bif bif y9 == 101 then true else y10 == 69 then
    zJ (X := (Bool × Int) × za) ((ze (1, sr s w)).bind fun y11 => bif bif y11 == 43 then true else y11 == 45 then some (LX.out ((i, 2), sr s w)) else some (LX.out ((i, 1), sr s w))) fun j12 =>
    (ze (j12.1.2, j12.2)).bind fun y13 => (zU y13).bind fun y14 =>
    bif y14 then (zu (⟨j12.2.s, w64 (j12.2.at_ + j12.1.2)⟩ : za)).bind fun y15 => some (LX.out (false, y15)) else some (LX.out (j12.1.1, j12.2))
   else some (LX.out (i, sr s w))) = (some (LX.out (match expS w with | some r => (false, sr s r) | none => (i, sr s w))) : Option (LX (Bool × za) (Bool × za))) := by
  simp only [zpu hs hw, Option.bind_some, zsI]
  have e4 : ((zy (!(atS w 0 == 101)) (some (pk w 0)) (default : Int)).bind fun y10 => (some (bif atS w 0 == 101 then true else y10 == 69) : Option Bool)) = some (atS w 0 == 101 || atS w 0 == 69) := by
   cases h : atS w 0 == 101 with
   | true => rfl
   | false => simp only [Bool.not_false, zfs, Option.bind_some, cond_false, zs4, Bool.false_or]
  have e5 : ∀ (f : Bool → Option (LX (Bool × za) (Bool × za))), ((zy (!(atS w 0 == 101)) (some (pk w 0)) (default : Int)).bind fun y10 => f (bif atS w 0 == 101 then true else y10 == 69)) = f (atS w 0 == 101 || atS w 0 == 69) := by
   intro f
   have := congrArg (fun o => Option.bind o f) e4
   simpa [Option.bind_assoc] using this
  refine (e5 (fun b => bif b then _ else _)).trans ?_
  unfold expS
  cases h : (atS w 0 == 101 || atS w 0 == 69) with
  | false => rfl
  | true =>
   have hne : atS w 0 ≠ 0 := by
    intro e; rw [e] at h; revert h; decide
   simp only [cond_true, if_true, zpv hs hw, Option.bind_some, zr2, zr3, zqP]
   unfold unsign
   have hd : atS (w.drop 1) 0 = atS w 1 := by rw [zdB w 1 0]
   rw [hd]
   cases hg : (atS w 1 == 43 || atS w 1 == 45) with
   | true =>
    have hg' : zms (atS w 1) = true := hg
    have hl2 := zso (zpI hg')
    simp only [cond_true, zB, zsH hs hw, Option.bind_some, zdu, hg', if_true, List.drop_drop]
    rw [show atS (w.drop (1 + 1)) 0 = atS w 2 by rw [zdB w 2 0]]
    cases hq : digB (atS w 2) with
    | false => rfl
    | true =>
     rw [cond_true, if_pos rfl, show (2 : Int) = ((2 : Nat) : Int) from rfl, zsD hs hw (by omega), zka hs (zfa hw 2)]
     rfl
   | false =>
    have hg' : zms (atS w 1) = false := hg
    simp only [cond_false, zB, zpv hs hw, Option.bind_some, zdu, hg', Bool.false_eq_true, if_false]
    rw [hd]
    cases hq : digB (atS w 1) with
    | false => rfl
    | true =>
     rw [cond_true, if_pos rfl, zrT hs hw hne, zka hs (zfa hw 1)]
     rfl
 refine (congrArg (fun o => zJ o _) e3).trans ?_
 rw [zB]
 cases expS w <;> rfl
end Go.Lv.VT

namespace Go.Lv.VT
set_option maxRecDepth 100000
def valG (n : Nat) (l : Str) : Nat := l.foldl decN n
theorem zgv (n : Nat) (a b : Str) : valG n (a ++ b) = valG (valG n a) b := List.foldl_append
theorem zmM {k : Nat} (h : k < 10) : digB (UInt8.ofNat (48 + k)) = true ∧ (UInt8.ofNat (48 + k)).toNat = 48 + k := by
 have : (UInt8.ofNat (48 + k)).toNat = 48 + k := by rw [UInt8.toNat_ofNat']; omega
 refine ⟨?_, this⟩
 unfold digB
 rw [this, decide_eq_true (by omega), decide_eq_true (by omega)]; rfl
theorem zfv : ∀ (u : Nat), (Lib.decDigits u).all digB = true ∧ valG 0 (Lib.decDigits u) = u ∧ Lib.decDigits u ≠ [] := by
 intro u
 induction u using Nat.strongRecOn with
 | _ u ih =>
  rw [Lib.decDigits]
  by_cases h : u < 10
  ·rw [dif_pos h]
   obtain ⟨h1, h2⟩ := zmM h
   refine ⟨by rw [List.all_cons, h1]; rfl, ?_, by simp⟩
   show decN 0 _ = u
   unfold decN; rw [h2]; omega
  ·rw [dif_neg h]
   obtain ⟨a, b, c⟩ := ih (u / 10) (by omega)
   obtain ⟨h1, h2⟩ := zmM (k := u % 10) (by omega)
   refine ⟨by rw [List.all_append, a, List.all_cons, h1]; rfl, ?_, by simp⟩
   rw [zgv, b]
   show decN _ _ = u
   unfold decN; rw [h2]; omega
theorem zjL : ∀ (q t : Str), q.all digB = true → past digB (q ++ t) = past digB t
 | [], t, _ => rfl
 | c :: q, t, h => by
  rw [List.all_cons, Bool.and_eq_true] at h
  rw [List.cons_append, past, if_pos h.1, zjL q t h.2]
def d48 (k : Nat) : UInt8 := UInt8.ofNat (48 + k)
def zcR (r : Nat) : Str := Lib.trimRightB [d48 (r / 100), d48 (r / 10 % 10), d48 (r % 10)] 48
theorem zqm {r : Nat} (h : r < 1000) : Lib.decDigits (1000 + r) = 49 :: [d48 (r / 100), d48 (r / 10 % 10), d48 (r % 10)] := by
 rw [Lib.decDigits, dif_neg (by omega), Lib.decDigits, dif_neg (by omega), Lib.decDigits, dif_neg (by omega), Lib.decDigits, dif_pos (by omega)]
 rw [show (1000 + r) / 10 / 10 / 10 = 1 by omega, show (1000 + r) / 10 / 10 % 10 = r / 100 by omega, show (1000 + r) / 10 % 10 = r / 10 % 10 by omega, show (1000 + r) % 10 = r % 10 by omega]
 rfl
def zkJ (r : Nat) : Bool := (zcR r).all digB && decide ((zcR r).length ≤ 3) && decide (valG 0 (zcR r) * 10 ^ (3 - (zcR r).length) = r) && ((zcR r).isEmpty == (r == 0)) && !((zcR r).getLast? == some 48)
theorem zgj : ∀ r, r < 1000 → zkJ r = true := by decide +kernel
def zib (r : Nat) (p : Bool) : Str := bif (zcR r).isEmpty then (bif p then [46, 48] else []) else 46 :: zcR r
def QV (m : Nat) (p : Bool) : Str := Lib.decDigits (m / 1000) ++ zib (m % 1000) p
def numT (n : Int) (p : Bool) : Str := (if n < 0 then [45] else []) ++ QV n.natAbs p
theorem zgT {u : Nat} (h : u < 18446744073709551616) : (Lib.decDigits u).length ≤ 20 := by
 rw [Lib.decDigits_length]
 by_cases h1 : u = 0
 ·subst h1; rw [Lib.nDigits_small (by omega)]; omega
 ·have := Lib.numDigits_eq u (by omega) h; split at this <;> omega
theorem zq5 {r : Nat} (h : r < 1000) (p : Bool) : (zib r p).length ≤ 4 := by
 have := zgj r h
 simp only [zkJ, Bool.and_eq_true, decide_eq_true_eq] at this
 unfold zib
 cases (zcR r).isEmpty with
 | true => cases p <;> simp
 | false => simp only [cond_false, List.length_cons]; omega
theorem zmC {m : Nat} (h : m ≤ 1000000000000) (p : Bool) : (QV m p).length ≤ 24 := by
 unfold QV
 rw [List.length_append]
 have := zgT (u := m / 1000) (by omega)
 have := zq5 (r := m % 1000) (by omega) p
 omega
theorem zp7 {n m b : Nat} (h : n + m ≤ 100000) (hb : b ≤ 100) : zx n m b = true := by
 unfold zx
 refine decide_eq_true ?_
 have := Nat.mul_le_mul h hb
 omega
theorem zod (l : Str) : (l == []) = l.isEmpty := by cases l <;> rfl
theorem zhn {m : Nat} (hm : m ≤ 1000000000000) (p : Bool) (b : Str) (hb : b.length ≤ 1) :
  ((zal ((w64 (Int.tdiv (m : Int) 1000), 10), b)).bind fun y2 => (zbH (w64 (1000 + Int.tmod (m : Int) 1000), 10)).bind fun y3 => need (decide (1 ≤ (y3.length : Int))) <|
   (zcP (List.drop 1 y3, [48])).bind fun y4 => zJ (X := List UInt8) (R := List UInt8) (bif !(y4 == []) then need (zx y2.length 1 1) <| need (zx (y2 ++ [(46 : UInt8)]).length y4.length 1) <| some (LX.out (y2 ++ [(46 : UInt8)] ++ y4)) else bif p then need (zx y2.length ([46, 48] : Str).length 1) <| some (LX.out (y2 ++ ([46, 48] : Str))) else some (LX.out y2)) fun j5 => some j5) = some (b ++ QV m p) := by
 have e1 : w64 (Int.tdiv (m : Int) 1000) = ((m / 1000 : Nat) : Int) := by
  rw [show Int.tdiv (m : Int) 1000 = ((m / 1000 : Nat) : Int) from rfl, QE (by omega) (by omega)]
 have e2 : w64 (1000 + Int.tmod (m : Int) 1000) = ((1000 + m % 1000 : Nat) : Int) := by
  rw [show Int.tmod (m : Int) 1000 = ((m % 1000 : Nat) : Int) from rfl, QE (by omega) (by omega)]; omega
 have hr : m % 1000 < 1000 := by omega
 rw [e1, e2]
 have hsh : short b = true := decide_eq_true (by omega)
 have f1 : zal ((((m / 1000 : Nat) : Int), 10), b) = some (b ++ Lib.decDigits (m / 1000)) := by
  unfold zal
  simp only [hsh, Bool.and_true, Int.toNat_natCast, decide_true, Bool.true_and]
  rw [decide_eq_true (by omega), decide_eq_true (by omega)]
  rfl
 have f2 : zbH (((1000 + m % 1000 : Nat) : Int), 10) = some (49 :: [d48 (m % 1000 / 100), d48 (m % 1000 / 10 % 10), d48 (m % 1000 % 10)]) := by
  unfold zbH i64B
  simp only [decide_true, Bool.true_and]
  rw [decide_eq_true (by omega), decide_eq_true (by omega)]
  rw [← zqm hr]
  show some (Lib.itoa _) = _
  unfold Lib.itoa
  rw [if_neg (by omega), Int.toNat_natCast]
 have hlen := zgT (u := m / 1000) (by omega)
 rw [f1, Option.bind_some, f2, Option.bind_some, zaR (decide_eq_true (by simp))]
 have f3 : zcP (List.drop 1 (49 :: [d48 (m % 1000 / 100), d48 (m % 1000 / 10 % 10), d48 (m % 1000 % 10)]), [48]) = some (zcR (m % 1000)) := rfl
 rw [f3, Option.bind_some, zod]
 have hf := zgj _ hr
 simp only [zkJ, Bool.and_eq_true, decide_eq_true_eq] at hf
 unfold QV zib
 cases (zcR (m % 1000)).isEmpty with
 | true =>
  simp only [Bool.not_true, cond_false, cond_true]
  cases p with
  | true => rw [cond_true, zaR (zp7 (by rw [List.length_append]; show _ + 2 ≤ _; omega) (by omega)), zB, List.append_assoc]; rfl
  | false => rw [cond_false, zB, cond_false, List.append_nil]
 | false =>
  simp only [Bool.not_false, cond_false, cond_true]
  rw [zaR (zp7 (by rw [List.length_append]; omega) (by omega)), zaR (zp7 (by rw [List.length_append, List.length_append, List.length_singleton]; omega) (by omega)), zB, List.append_assoc, List.append_assoc]
  rfl
theorem ziQ {n : Int} (h1 : -1000000000000 ≤ n) (h2 : n ≤ 1000000000000) (p : Bool) : qN (n, p) = some (numT n p) := by
 unfold qN numT
 simp only [zb]
 by_cases hn : n < 0
 ·obtain ⟨m, rfl⟩ : ∃ m : Nat, n = -(m : Int) := ⟨n.natAbs, by omega⟩
  rw [decide_eq_true hn, cond_true, zaR (by decide), zB, if_pos hn]
  simp only
  have e0 : w64 (0 - -(m : Int)) = (m : Int) := by rw [show (0 - -(m : Int)) = (m : Int) by omega, QE (by omega) (by omega)]
  rw [e0, Int.natAbs_neg, Int.natAbs_natCast]
  exact zhn (by omega) p [45] (by simp)
 ·obtain ⟨m, rfl⟩ : ∃ m : Nat, n = (m : Int) := ⟨n.toNat, by omega⟩
  rw [decide_eq_false hn, cond_false, zB, if_neg hn]
  simp only
  rw [Int.natAbs_natCast]
  exact zhn (by omega) p [] (by simp)
end Go.Lv.VT

namespace Go.Lv.VT
theorem zrj (i : Nat) : decide ((0 : Int) ≤ (i : Int)) = true := decide_eq_true (by omega)
def zbr (l : Str) : Bool := l.all fun b => !(b == 0)
theorem zl6 (c : UInt8) : ∀ l : Str, decide (Lib.indexByte l c ≥ 0) = l.any fun b => b == c
 | [] => rfl
 | b :: l => by
  have ih := zl6 c l
  have hg := Lib.indexByte_ge l c
  rw [List.any_cons, Lib.indexByte]
  cases hb : (b == c) with
  | true => rfl
  | false =>
   rw [Bool.false_or, ← ih, if_neg (by simp)]
   by_cases h : Lib.indexByte l c = -1
   ·rw [if_pos (by rw [h]; rfl), h]
   ·rw [if_neg (by simpa using h)]
    rw [decide_eq_true (by omega), decide_eq_true (by omega)]
theorem zrU (l : Str) : (l.any fun b => b == 0) = !zbr l := by
 unfold zbr
 induction l with
 | nil => rfl
 | cons b l ih => rw [List.any_cons, List.all_cons, ih]; cases (b == 0) <;> simp
theorem zkS (l : Str) (n : Int) : strings_IndexByte (l, n) = some (Lib.indexByte l n.toNat.toUInt8) := rfl
theorem zrK (l : Str) : decide (Lib.indexByte l (0 : Int).toNat.toUInt8 ≥ 0) = !zbr l := (zl6 0 l).trans (zrU l)
theorem zri (n m : Nat) : decide ((n : Int) ≤ (m : Int)) = decide (n ≤ m) := by
 by_cases h : n ≤ m
 ·rw [decide_eq_true h, decide_eq_true (by omega)]
 ·rw [decide_eq_false h, decide_eq_false (by omega)]
theorem zf4 (l m : Str) : strings_HasPrefix (l, m) = some (m.isPrefixOf l) := by
 have key : ∀ m l : Str, m.isPrefixOf l = (decide (m.length ≤ l.length) && l.take m.length == m) := by
  intro m l
  rw [Bool.eq_iff_iff]
  simp only [List.isPrefixOf_iff_prefix, Bool.and_eq_true, decide_eq_true_eq, beq_iff_eq]
  constructor
  ·rintro ⟨t, rfl⟩
   exact ⟨by simp, by simp⟩
  ·rintro ⟨h1, h2⟩
   exact ⟨l.drop m.length, by rw [← h2, List.length_take, Nat.min_eq_left h1, List.take_append_drop]⟩
 unfold strings_HasPrefix stringslite_HasPrefix
 have e1 : decide ((l.length : Int) ≥ (m.length : Int)) = decide (m.length ≤ l.length) := zri _ _
 have e2 : decide ((m.length : Int) ≤ (l.length : Int)) = decide (m.length ≤ l.length) := zri _ _
 simp only [e1, e2, zrj, Bool.true_and, key]
 cases decide (m.length ≤ l.length) <;> rfl
theorem zj5 (l m : Str) : strings_TrimPrefix (l, m) = some (bif m.isPrefixOf l then l.drop m.length else l) := by
 have h : stringslite_HasPrefix (l, m) = some (m.isPrefixOf l) := by
  have := zf4 l m
  unfold strings_HasPrefix at this
  cases hh : stringslite_HasPrefix (l, m) with
  | none => simp only [hh] at this; cases this
  | some b => simp only [hh] at this; exact this
 unfold strings_TrimPrefix stringslite_TrimPrefix
 simp only [h, zb, Option.bind_some]
 cases hp : m.isPrefixOf l with
 | false => rfl
 | true =>
  have hl := (List.isPrefixOf_iff_prefix.1 hp).length_le
  simp only [cond_true, zrj, Bool.true_and]
  rw [zaR (decide_eq_true (by omega))]
  rfl
end Go.Lv.VT

namespace Go.Lv.VT
def zmL (n : Nat) : Bool :=
 !(n == 0 || n == 9 || n == 10 || n == 12 || n == 13 || n == 32 || n == 34 || n == 39 || n == 40 || n == 41 || n == 44 || n == 58 || n == 59 || n == 91 || n == 93 || n == 95 || n == 123 || n == 125) &&
  (decide (n < 128) && !((decide (48 ≤ n) && decide (n ≤ 57)) || (decide (65 ≤ n) && decide (n ≤ 90)) || (decide (97 ≤ n) && decide (n ≤ 122))))
def digN (n : Nat) : Bool := decide (48 ≤ n) && decide (n ≤ 57)
theorem zkN : ∀ n : Nat, n < 256 → qH 1 (n : Int) = some (digN n) := by decide +kernel
theorem zjs (b : UInt8) : Zy (b.toNat : Int) = some (digN b.toNat) := Qy 1 _ _ (zkN _ (UInt8.toNat_lt b))
def namN (n : Nat) : Bool := digN n || (decide (65 ≤ n) && decide (n ≤ 90)) || (decide (97 ≤ n) && decide (n ≤ 122)) || n == 95 || n == 45 || decide (128 ≤ n)
theorem zkO : ∀ n : Nat, n < 256 → zab 1 (n : Int) = some (namN n) := by decide +kernel
theorem zjt (b : UInt8) : Qb (b.toNat : Int) = some (namN b.toNat) := zbn 1 _ _ (zkO _ (UInt8.toNat_lt b))
def zqb : Str → Bool
 | [] => false
 | b :: r => digN b.toNat || (b == 45 && (r == [] || digN (r.headD 0).toNat))
theorem zol (b c : UInt8) : ((b.toNat : Int) == (c.toNat : Int)) = (b == c) := by
 by_cases h : b = c
 ·subst h; simp
 ·have h2 : b.toNat ≠ c.toNat := fun e => h (UInt8.toNat_inj.1 e)
  rw [beq_eq_false_iff_ne.2 h, beq_eq_false_iff_ne.2 (by omega)]
def numS : Str → Bool
 | [] => false
 | b :: r => bif b == 45 then !(r == []) && digN (r.headD 0).toNat else digN b.toNat
theorem zgZ (l : Str) : ZE l = some (numS l) := by
 unfold ZE
 simp only [zj5, zb, Option.bind_some]
 have key : ∀ m : Str, ((zy (!(m == [])) (geti m 0) 0).bind fun y2 => (zy (!(m == [])) (Zy (y2.toNat : Int)) (default : Bool)).bind fun y3 => some (bif !(m == []) then y3 else false)) = some (!(m == []) && digN (m.headD 0).toNat) := by
  intro m
  cases m with
  | nil => rfl
  | cons b r =>
   have h0 : geti (b :: r) 0 = some b := rfl
   have hn : (b :: r == ([] : Str)) = false := rfl
   simp only [hn, Bool.not_false, zfs, h0, Option.bind_some, zjs, cond_true, List.headD_cons, Bool.true_and]
 rw [key]
 cases l with
 | nil => rfl
 | cons b r =>
  have e : List.isPrefixOf [45] (b :: r) = (b == 45) := by
   show ((45 == b) && true) = _
   rw [Bool.and_true]
   cases hb : (b == 45) with
   | true => rw [beq_iff_eq] at hb; subst hb; rfl
   | false => rw [beq_eq_false_iff_ne] at hb; exact beq_eq_false_iff_ne.2 (Ne.symm hb)
  rw [e]
  show _ = some (bif b == 45 then !(r == []) && digN (r.headD 0).toNat else digN b.toNat)
  cases b == 45 <;> rfl
theorem zqN (l : Str) : ((numS l && !(List.isPrefixOf [45, 45] l)) || l == [45]) = zqb l := by
 cases l with
 | nil => rfl
 | cons b r =>
  cases hb : (b == 45) with
  | false =>
   have e1 : List.isPrefixOf [45, 45] (b :: r) = false := by
    show ((45 == b) && _) = _
    rw [beq_eq_false_iff_ne] at hb
    rw [beq_eq_false_iff_ne.2 (Ne.symm hb)]; rfl
   have e2 : ((b :: r : Str) == [45]) = false := by
    show ((b == 45) && _) = _
    rw [hb]; rfl
   rw [e1, e2]
   unfold numS zqb
   simp [hb]
  | true =>
   rw [beq_iff_eq] at hb
   subst hb
   cases r with
   | nil => rfl
   | cons d r =>
    have e2 : ((45 :: d :: r : Str) == [45]) = false := rfl
    rw [e2]
    unfold numS zqb
    have e1 : List.isPrefixOf [45, 45] (45 :: d :: r) = (45 == d) := by
     show ((45 == (45 : UInt8)) && ((45 == d) && true)) = _
     rw [Bool.and_true]; rfl
    rw [e1]
    simp only [List.headD_cons]
    have hd : digN 45 = false := by decide
    cases h : (45 == d) with
    | false => simp [hd]
    | true => rw [beq_iff_eq] at h; subst h; rfl
end Go.Lv.VT

namespace Go.Lv.VT
def delS (l : Str) : Bool := match l with
 | [b] => zmL b.toNat
 | _ => false
def rngS (x : zh) : Bool := decide (-1000000000000 ≤ x.num) && (decide (x.num ≤ 1000000000000) && (!x.flag || Int.tmod x.num 1000 == 0))
def znx (x : zh) : Bool :=
 bif x.kind == 1 || x.kind == 2 || x.kind == 3 then !(x.text == []) && (zbr x.text && (x.num == 0 && (x.unit == [] && !x.flag)))
 else bif x.kind == 4 then !(x.text == []) && (zbr x.text && ((x.flag || zqb x.text) && (x.num == 0 && x.unit == [])))
 else bif x.kind == 5 || x.kind == 7 then zbr x.text && (x.num == 0 && (x.unit == [] && !x.flag))
 else bif x.kind == 9 then delS x.text && (x.num == 0 && (x.unit == [] && !x.flag))
 else bif x.kind == 10 || x.kind == 11 || x.kind == 12 then rngS x && ((!(x.unit == []) == (x.kind == 12)) && (zbr x.unit && ((!(x.kind == 11) || !x.flag) && x.text == [])))
 else (decide (13 ≤ x.kind) && decide (x.kind ≤ 24)) && (x.text == [] && (x.num == 0 && (x.unit == [] && !x.flag)))
abbrev ziN : Str := [32, 9, 10, 12, 13, 34, 39, 58, 59, 44, 91, 93, 40, 41, 123, 125]
theorem zfy : ∀ (m : Str) (c : UInt8), Lib.index m [c] = Lib.indexByte m c
 | [], c => rfl
 | b :: l, c => by
  have h : List.isPrefixOf [c] (b :: l) = (b == c) := by
   show (c == b && List.isPrefixOf [] l) = _
   rw [List.isPrefixOf, Bool.and_true]
   by_cases e : b = c
   ·subst e; rfl
   ·rw [beq_eq_false_iff_ne.2 e, beq_eq_false_iff_ne.2 (fun h => e h.symm)]
  rw [Lib.index, Lib.indexByte, h, zfy l c]
theorem contains_one (m : Str) (c : UInt8) (hm : short m = true := by decide) : strings_Contains (m, [c]) = some (m.any fun b => b == c) := by
 unfold strings_Contains
 simp only [zeR, hm, zk9, zb, Option.bind_some, zfy, zl6]
theorem zhR (c : UInt8) : strings_Contains ([32, 9, 10, 12, 13, 34, 39, 58, 59, 44, 91, 93, 40, 41, 123, 125], [c]) = some (ziN.any fun b => b == c) := contains_one ziN c
theorem znt : ∀ n : Nat, n < 256 → ((bif bif !(UInt8.ofNat n == 0) then !namN n else false then true else UInt8.ofNat n == 45) && (!(ziN.any fun b => b == UInt8.ofNat n))) = zmL n := by decide +kernel
theorem zqn (b : UInt8) : ((bif bif !(b == 0) then !namN b.toNat else false then true else b == 45) && (!(ziN.any fun c => c == b))) = zmL b.toNat := by
 have := znt b.toNat (UInt8.toNat_lt b)
 rwa [UInt8.ofNat_toNat] at this
theorem zlc (a b : Str) : zbr (a ++ b) = (zbr a && zbr b) := by
 unfold zbr; rw [List.all_append]
theorem zrS (n : Int) : decide (n < 0) = !decide (n ≥ 0) := by
 by_cases h : n < 0
 ·rw [decide_eq_true h, decide_eq_false (by omega)]; rfl
 ·rw [decide_eq_false h, decide_eq_true (by omega)]; rfl
end Go.Lv.VT

namespace Go.Lv.VT
set_option maxRecDepth 100000
theorem zj7 : ∀ (l : Str) (n : Nat), valG n l = n * 10 ^ l.length + valG 0 l
 | [], n => by simp [valG]
 | c :: l, n => by
  show valG (decN n c) l = n * 10 ^ (l.length + 1) + valG (decN 0 c) l
  rw [zj7 l (decN n c), zj7 l (decN 0 c), Nat.pow_succ]
  unfold decN
  rw [Nat.add_mul, Nat.mul_zero, Nat.zero_add, Nat.mul_comm 10 n, Nat.mul_assoc, Nat.mul_comm 10 (10 ^ l.length)]
  omega
theorem zpX (l : Str) (i : Nat) : valG 0 (l.take i) ≤ valG 0 l := by
 have h : valG 0 l = valG (valG 0 (l.take i)) (l.drop i) := by rw [← zgv, List.take_append_drop]
 rw [h, zj7 (l.drop i)]
 have := Nat.le_mul_of_pos_right (valG 0 (l.take i)) (Nat.pow_pos (n := (l.drop i).length) (show 0 < 10 by omega))
 omega
theorem zeK {b : UInt8} (h : digB b = true) : 48 ≤ b.toNat ∧ b.toNat ≤ 57 := by
 unfold digB at h
 simpa using h
theorem zq4 {R : Type} {step : Int × Int → Option (LO (Int × Int) Int R)} {l : Str} (hl : l.all digB = true) (hn : l.length ≤ 100000) (hv : valG 0 l ≤ 1000000000000)
  (h1 : ∀ (v : Int) (i : Nat) (hi : i < l.length), step (v, (i : Int)) = some (.again (if 1000000000000 < w64 (w64 (10 * v) + w64 (wu8 ((l[i].toNat : Int) - 48))) then 1000000000000 else w64 (w64 (10 * v) + w64 (wu8 ((l[i].toNat : Int) - 48))), w64 ((i : Int) + 1))))
  (h2 : ∀ v : Int, step (v, (l.length : Int)) = some (.out v)) : zfC step (0, 0) = some (.out ((valG 0 l : Nat) : Int)) := by
 refine zeW (fun s => ∃ i : Nat, i ≤ l.length ∧ s = (((valG 0 (l.take i) : Nat) : Int), (i : Int))) (fun s => l.length - s.2.toNat) _ ?_ ⟨0, by omega, rfl⟩
 rintro _ ⟨i, hi, rfl⟩
 rcases Nat.lt_or_ge i l.length with h | h
 ·refine .inl ⟨_, h1 _ i h, ⟨i + 1, by omega, ?_⟩, by simp only; rw [QE (by omega) (by omega)]; omega⟩
  have hd := zeK (List.all_eq_true.1 hl _ (List.getElem_mem h))
  have ht : valG 0 (l.take (i + 1)) = decN (valG 0 (l.take i)) l[i] := by
   rw [List.take_succ_eq_append_getElem h, zgv]; rfl
  have hb := zpX l (i + 1)
  have hu : wu8 ((l[i].toNat : Int) - 48) = ((l[i].toNat - 48 : Nat) : Int) := by
   show IntKind.u8.wrap _ = _
   rw [IntKind.wrap_u8]; omega
  unfold decN at ht
  rw [hu, QE (n := 10 * _) (by omega) (by omega), QE (n := ((l[i].toNat - 48 : Nat) : Int)) (by omega) (by omega), QE (n := (i : Int) + 1) (by omega) (by omega), QE (by omega) (by omega), if_neg (by omega)]
  refine Prod.ext ?_ ?_
  ·show (10 * ((valG 0 (l.take i) : Nat) : Int) + ((l[i].toNat - 48 : Nat) : Int)) = _
   omega
  ·show (i : Int) + 1 = ((i + 1 : Nat) : Int)
   omega
 ·have : i = l.length := by omega
  subst this
  refine .inr (.inl ⟨_, h2 _, ?_⟩)
  rw [List.take_length]
theorem zn1 {R : Type} {step : Int × Int → Option (LO (Int × Int) Int R)} {v p : Nat} (hp : p ≤ 100) (hv : v * 10 ^ p ≤ 1000000000000)
  (h : ∀ (a b : Int), step (a, b) = bif bif bif decide (a > 0) then decide (b > 0) else false then decide (b < 1000000000000) else false then some (.again (w64 (a - 1), if 1000000000000 < w64 (10 * b) then 1000000000000 else w64 (10 * b))) else some (.out b)) :
  zfC step ((p : Int), (v : Int)) = some (.out ((v * 10 ^ p : Nat) : Int)) := by
 refine zeW (fun s => ∃ a b : Nat, s = ((a : Int), (b : Int)) ∧ a ≤ 100 ∧ b * 10 ^ a = v * 10 ^ p) (fun s => s.1.toNat) _ ?_ ⟨p, v, rfl, hp, rfl⟩
 rintro _ ⟨a, b, rfl, ha, he⟩
 rw [h]
 cases a with
 | zero =>
  refine .inr (.inl ⟨(b : Int), rfl, ?_⟩)
  rw [← he, Nat.pow_zero, Nat.mul_one]
 | succ a =>
  rw [decide_eq_true (show ((a + 1 : Nat) : Int) > 0 by omega), cond_true]
  rw [Nat.pow_succ, ← Nat.mul_assoc] at he
  have hpos : 0 < 10 ^ a := Nat.pow_pos (by omega)
  cases Nat.eq_zero_or_pos b with
  | inl h0 =>
   subst h0
   refine .inr (.inl ⟨0, rfl, ?_⟩)
   rw [← he]; simp
  | inr h0 =>
   rw [decide_eq_true (show ((b : Nat) : Int) > 0 by omega), cond_true]
   have hle : b ≤ b * 10 ^ a := Nat.le_mul_of_pos_right b hpos
   rw [decide_eq_true (show ((b : Nat) : Int) < 1000000000000 by omega), cond_true]
   refine .inl ⟨_, rfl, ⟨a, 10 * b, ?_, by omega, ?_⟩, by simp only; rw [QE (by omega) (by omega)]; omega⟩
   ·rw [QE (by omega) (by omega), QE (by omega) (by omega), if_neg (by omega)]
    refine Prod.ext ?_ ?_
    ·show ((a + 1 : Nat) : Int) - 1 = (a : Int); omega
    ·show 10 * (b : Int) = ((10 * b : Nat) : Int); omega
   ·rw [← he, Nat.mul_comm 10 b, Nat.mul_assoc, Nat.mul_assoc, Nat.mul_comm 10 (10 ^ a)]
theorem zoZ : ∀ (q : Str), q.all digB = true → Lib.indexByte q 46 = -1
 | [], _ => rfl
 | c :: q, h => by
  rw [List.all_cons, Bool.and_eq_true] at h
  have hd := zeK h.1
  have hc : (c == 46) = false := by
   refine beq_eq_false_iff_ne.2 (fun e => ?_)
   subst e
   revert hd; decide
  rw [Lib.indexByte, hc, zoZ q h.2]
  rfl
theorem zoY : ∀ (q g : Str), q.all digB = true → Lib.indexByte (q ++ 46 :: g) 46 = (q.length : Int)
 | [], g, _ => by rw [List.nil_append, Lib.indexByte]; rfl
 | c :: q, g, h => by
  rw [List.all_cons, Bool.and_eq_true] at h
  have hd := zeK h.1
  have hc : (c == 46) = false := by
   refine beq_eq_false_iff_ne.2 (fun e => ?_)
   subst e
   revert hd; decide
  rw [List.cons_append, Lib.indexByte, hc, zoY q g h.2]
  have : ((q.length : Int) == -1) = false := beq_eq_false_iff_ne.2 (by omega)
  rw [this, List.length_cons]
  simp
theorem zoc : ∀ (l : Str), (l.all fun b => digB b || b == 46) = true → Lib.indexAny l [101, 69] = -1
 | [], _ => rfl
 | c :: l, h => by
  rw [List.all_cons, Bool.and_eq_true] at h
  have hc : List.contains [101, 69] c = false := by
   have : ∀ n : Nat, n < 256 → (digB (UInt8.ofNat n) || UInt8.ofNat n == 46) = true → List.contains [101, 69] (UInt8.ofNat n) = false := by decide +kernel
   have := this c.toNat (UInt8.toNat_lt c)
   rw [UInt8.ofNat_toNat] at this
   exact this h.1
  rw [Lib.indexAny, hc, zoc l h.2]
  rfl
end Go.Lv.VT
