/- The writing of names. -/
import Derived.Test.YtnfhfeipljhciaaGreatDoorNam
namespace Go.Lv.VT
set_option maxRecDepth 100000
def escC (c : UInt8) : Str := bif decide (32 < c.toNat) && decide (c.toNat < 127) && !digB c && !alB c then [92, c] else 92 :: (hexS c.toNat ++ [32])
def pcW (dash : Bool) (k : Nat) (c : UInt8) : Str := bif letB c && (k == 0 || !digB c) && !dash then [c] else escC c
def encW (dash : Bool) : Nat → Str → Str
 | _, [] => []
 | k, c :: r => pcW dash k c ++ encW dash (k - 1) r
theorem zqt (c : UInt8) : namN c.toNat = letB c := by
 have : ∀ n : Nat, n < 256 → namN (UInt8.ofNat n).toNat = letB (UInt8.ofNat n) := by decide +kernel
 have h := this c.toNat (UInt8.toNat_lt c)
 rwa [UInt8.ofNat_toNat] at h
theorem zrv (c : UInt8) : qE (c.toNat : Int) = some (letB c) := by rw [zi7, zqt]
theorem zoD (c : UInt8) : Zy (c.toNat : Int) = some (digB c) := zi6 c
theorem zqh (c : UInt8) : Qs (c.toNat : Int) = some (alB c) := ziy (zb1 1) (by decide +kernel) c
theorem zpW (c : UInt8) : wu64 (c.toNat : Int) = (c.toNat : Int) := by
 have := UInt8.toNat_lt c
 show IntKind.u64.wrap _ = _
 have h : ∀ n : Int, IntKind.u64.wrap n = n % 18446744073709551616 := fun n => by simp [IntKind.wrap, IntKind.bits, IntKind.signed]
 rw [h]; omega
theorem zn5 (c : UInt8) : zW ((c.toNat : Nat) : Int) = some c := by rw [Qj (UInt8.toNat_lt c), UInt8.ofNat_toNat]
theorem zmH (n : Nat) : (hexS n).length ≤ 2 := by unfold hexS; split <;> simp
theorem zkj (c : UInt8) {acc : Str} (ha : acc.length ≤ 1000000000) : zZ ((c.toNat : Int), acc) = some (acc ++ escC c) := by
 have hc := UInt8.toNat_lt c
 unfold zZ escC
 simp only [zb, zoD, zqh]
 have e1 : decide ((c.toNat : Int) > 32) = decide (32 < c.toNat) := by rw [decide_eq_decide]; omega
 have e2 : decide ((c.toNat : Int) < 127) = decide (c.toNat < 127) := by rw [decide_eq_decide]; omega
 rw [e1, e2]
 have hsh : short (acc ++ [(92 : UInt8)]) = true := decide_eq_true (by rw [List.length_append, List.length_singleton]; omega)
 have hu : zbf ((wu64 (c.toNat : Int), 16), acc ++ [(92 : UInt8)]) = some (acc ++ [(92 : UInt8)] ++ hexS c.toNat) := by
  unfold zbf
  simp only [zpW, hsh]
  rw [QL (by simp; omega)]
  rfl
 have hx := zmH c.toNat
 have hfin : need (zB acc.length 1 1) (zb (zbf ((wu64 (c.toNat : Int), 16), acc ++ [(92 : UInt8)])) fun y4 => need (zB y4.length 1 1) (some (y4 ++ [(32 : UInt8)]))) = some (acc ++ 92 :: (hexS c.toNat ++ [32])) := by
  rw [QL (zdU (by omega)), hu]
  simp only [zb, Option.bind_some]
  rw [QL (zdU (by rw [List.length_append, List.length_append, List.length_singleton]; omega))]
  simp
 simp only [zb] at hfin
 rw [hfin]
 cases decide (32 < c.toNat) with
 | false => rfl
 | true =>
  cases decide (c.toNat < 127) with
  | false => rfl
  | true =>
   cases digB c with
   | true => rfl
   | false =>
    cases alB c with
    | true => rfl
    | false =>
     simp only [zy, cond_true, Bool.not_false, Bool.and_self, Option.bind_some, zn5]
     rw [QL (zdU (by omega))]
theorem zqc (c : UInt8) : (escC c).length ≤ 4 := by
 have := zmH c.toNat
 unfold escC
 cases decide (32 < c.toNat) && decide (c.toNat < 127) && !digB c && !alB c with
 | true => show 2 ≤ 4; omega
 | false => rw [cond_false, List.length_cons, List.length_append, List.length_singleton]; omega
theorem zpn (dash : Bool) (k : Nat) (c : UInt8) : (pcW dash k c).length ≤ 4 := by
 have := zqc c
 unfold pcW
 cases letB c && (k == 0 || !digB c) && !dash with
 | true => show 1 ≤ 4; omega
 | false => exact this
theorem zi1 (dash : Bool) : ∀ (k : Nat) (l : Str), (encW dash k l).length ≤ 4 * l.length
 | _, [] => by unfold encW; simp
 | k, c :: r => by
  have := zpn dash k c
  have := zi1 dash (k - 1) r
  unfold encW
  rw [List.length_append, List.length_cons]; omega
theorem zrq {dash : Bool} {k i : Nat} {l : Str} (h : i < l.length) : encW dash (k - i) (l.drop i) = pcW dash (k - i) l[i] ++ encW dash (k - (i + 1)) (l.drop (i + 1)) := by
 rw [List.drop_eq_getElem_cons h, encW, show k - i - 1 = k - (i + 1) by omega]
theorem zsb {R : Type} {step : Int × List UInt8 → Option (LO (Int × List UInt8) (List UInt8) R)} {l acc : Str} {k : Nat} {dash : Bool} (hl : l.length ≤ 100000) (ha : acc.length ≤ 100000000)
  (h1 : ∀ (i : Nat) (a : Str) (hi : i < l.length), a.length ≤ 500000000 → step ((i : Int), a) = some (.again (w64 ((i : Int) + 1), a ++ pcW dash (k - i) l[i])))
  (h2 : ∀ a, step ((l.length : Int), a) = some (.out a)) : zeQ step (0, acc) = some (.out (acc ++ encW dash k l)) := by
 refine zdf (fun z => ∃ (i : Nat) (a : Str), z = ((i : Int), a) ∧ i ≤ l.length ∧ a.length ≤ acc.length + 4 * i ∧ a ++ encW dash (k - i) (l.drop i) = acc ++ encW dash k l) (fun z => l.length - z.1.toNat) _ ?_ ⟨0, acc, rfl, by omega, by omega, rfl⟩
 rintro _ ⟨i, a, rfl, hi, hal, he⟩
 rcases Nat.lt_or_ge i l.length with h | h
 ·refine .inl ⟨_, h1 i a h (by omega), ⟨i + 1, _, by rw [zea (by omega) (by omega)]; rfl, by omega, ?_, ?_⟩, by simp only; rw [zea (by omega) (by omega)]; omega⟩
  ·have := zpn dash (k - i) l[i]
   rw [List.length_append]; omega
  ·rw [← he, zrq h, List.append_assoc]
 ·have : i = l.length := by omega
  subst this
  refine .inr (.inl ⟨_, h2 a, ?_⟩)
  rw [← he, List.drop_eq_nil_of_le (Nat.le_refl _)]
  rw [show encW dash (k - l.length) [] = [] by rw [encW], List.append_nil]
def zlK (k : Nat) (l : Str) : Bool := !(k == 0) && l == [45]
theorem zqx {l : Str} {k : Nat} (hl : l.length ≤ 100000) : Q0 (l, (k : Int)) = some (encW (zlK k l) k l) := by
 unfold Q0
 rw [zeR (zsb (dash := zlK k l) (k := k) (l := l) (acc := []) hl (by simp) (fun i a hi ha => ?_) (fun a => ?_))]
 ·rfl
 ·have d1 : decide ((i : Int) < (l.length : Int)) = true := decide_eq_true (by omega)
  have d2 : geti l (i : Int) = some l[i] := zoE hi
  have d3 : decide ((i : Int) ≥ (k : Int)) = (k - i == 0) := by
   by_cases h : k ≤ i
   ·rw [decide_eq_true (by omega), show k - i = 0 by omega]; rfl
   ·rw [decide_eq_false (by omega)]; symm; rw [beq_eq_false_iff_ne]; omega
  have d4 : ((k : Int) == 0) = (k == 0) := by
   by_cases h : k = 0
   ·subst h; rfl
   ·rw [beq_eq_false_iff_ne.2 h, beq_eq_false_iff_ne]; omega
  simp only [d1, cond_true, d2, d3, d4, zb, Option.bind_some, zrv, zoD]
  have hd : (bif k == 0 then true else !(l == [45])) = !zlK k l := by unfold zlK; cases k == 0 <;> cases l == [45] <;> rfl
  rw [hd]
  unfold pcW
  cases letB l[i] with
  | false =>
   cases k - i == 0 <;> simp only [zy, Bool.not_true, Bool.not_false, Bool.and_false, Bool.false_and, Bool.and_true, cond_true, cond_false, Option.bind_some, zkj l[i] (show a.length ≤ 1000000000 by omega), qG]
  | true =>
   cases k - i == 0 <;> cases digB l[i] <;> cases zlK k l <;> simp only [zy, Bool.not_true, Bool.not_false, Bool.and_false, Bool.false_and, Bool.and_true, Bool.or_true, Bool.or_false, Bool.true_and, Bool.false_or, Bool.true_or, cond_true, cond_false, Option.bind_some, zn5, QL (zdU (show a.length + 1 ≤ 2000000000 by omega)), zkj l[i] (show a.length ≤ 1000000000 by omega), qG]
 ·simp only
  rw [decide_eq_false (by omega), cond_false]
def zc4 (l : Str) : Nat := if [45].isPrefixOf l then 2 else 1
theorem zqg (l : Str) : ZX l = some ((zc4 l : Nat) : Int) := by
 unfold ZX zc4
 simp only [zb, zc9, Option.bind_some]
 cases List.isPrefixOf [45] l <;> rfl
def zhO (l : Str) : Str := encW (l == [45]) (zc4 l) l
theorem znX {l : Str} (hl : l.length ≤ 1000) : Qg l = some (if l.isEmpty || !zf1 l then ([], 8) else (zhO l, 0)) := by
 unfold Qg
 simp only [zb, zkA]
 cases l with
 | nil => rfl
 | cons c r =>
  rw [show ((c :: r : Str) == []) = false from rfl]
  simp only [zy, Bool.not_false, cond_true, cond_false, Option.bind_some, zrA]
  rw [show (c :: r : Str).isEmpty = false from rfl, Bool.false_or]
  cases zf1 (c :: r) with
  | false => rfl
  | true =>
   rw [Bool.not_true, cond_false, zqg]
   simp only [Option.bind_some, zqx (show (c :: r : Str).length ≤ 100000 by omega)]
   have hd : zlK (zc4 (c :: r)) (c :: r) = ((c :: r : Str) == [45]) := by
    unfold zlK zc4
    split <;> rfl
   rw [hd]
   have := zi1 ((c :: r : Str) == [45]) (zc4 (c :: r)) (c :: r)
   rw [decide_eq_false (by omega), cond_false, decide_eq_false (by omega), cond_false]
   rfl
end Go.Lv.VT

namespace Go.Lv.VT
set_option maxRecDepth 100000
theorem zgN {n : Nat} (h : n < 16) : zaj (hexD n) = true ∧ hexN (hexD n) = n ∧ (hexD n == 10) = false ∧ letB (hexD n) = true := by
 have : ∀ n : Nat, n < 16 → zaj (hexD n) = true ∧ hexN (hexD n) = n ∧ (hexD n == 10) = false ∧ letB (hexD n) = true := by decide +kernel
 exact this n h
theorem zfp {k n : Nat} {c : UInt8} {r : Str} (h : zaj c = true) : hexes (k + 1) n (c :: r) = hexes k (16 * n + hexN c) r := by
 rw [hexes, if_pos h]
theorem zrz {n : Nat} (h : n < 256) (R : Str) : hexes 6 0 (hexS n ++ 32 :: R) = (n, 32 :: R) := by
 unfold hexS
 by_cases h1 : n < 16
 ·obtain ⟨a, b, _⟩ := zgN h1
  rw [if_pos h1, List.singleton_append, zfp a, b, zlR _ _ (32 :: R) (show zaj 32 = false by decide)]
  simp
 ·obtain ⟨a, b, _⟩ := zgN (show n / 16 < 16 by omega)
  obtain ⟨a', b', _⟩ := zgN (show n % 16 < 16 by omega)
  rw [if_neg h1, List.cons_append, List.singleton_append, zfp a, zfp a', b, b', zlR _ _ (32 :: R) (show zaj 32 = false by decide)]
  rw [show 16 * (16 * 0 + n / 16) + n % 16 = n by omega]
theorem zky {n : Nat} (h : n < 256) (R : Str) : ∃ d t, hexS n ++ R = d :: t ∧ zaj d = true ∧ (d == 10) = false := by
 unfold hexS
 by_cases h1 : n < 16
 ·obtain ⟨a, _, b, _⟩ := zgN h1
  exact ⟨_, _, by rw [if_pos h1]; rfl, a, b⟩
 ·obtain ⟨a, _, b, _⟩ := zgN (show n / 16 < 16 by omega)
  exact ⟨_, _, by rw [if_neg h1]; rfl, a, b⟩
theorem zpT {c : UInt8} (h0 : c ≠ 0) (h : c.toNat < 128) : zhx c.toNat = [c] := by
 have hn : c.toNat ≠ 0 := by intro e; exact h0 (UInt8.toNat_inj.1 e)
 unfold zhx
 rw [if_neg (by omega), if_pos h, UInt8.ofNat_toNat]
theorem zkS {r : Str} (h : escS (92 :: r) = true) : Zn (92 :: r) = ((Zw r).1 ++ (Zn (Zw r).2).1, (Zn (Zw r).2).2) := by
 rw [Q4, if_neg (by decide), if_pos h]
theorem zqE {c : UInt8} (h0 : c ≠ 0) (h : c.toNat < 128) (R : Str) : Zn (escC c ++ R) = (c :: (Zn R).1, (Zn R).2) := by
 unfold escC
 cases hg : decide (32 < c.toNat) && decide (c.toNat < 127) && !digB c && !alB c with
 | true =>
  rw [cond_true]
  have hx : zaj c = false ∧ (c == 10) = false := by
   have : ∀ n : Nat, n < 256 → (decide (32 < (UInt8.ofNat n).toNat) && decide ((UInt8.ofNat n).toNat < 127) && !digB (UInt8.ofNat n) && !alB (UInt8.ofNat n)) = true → zaj (UInt8.ofNat n) = false ∧ (UInt8.ofNat n == 10) = false := by decide +kernel
   have := this c.toNat (UInt8.toNat_lt c)
   rw [UInt8.ofNat_toNat] at this
   exact this hg
  have he : Zw (c :: R) = ([c], R) := by show (if zaj c then _ else _) = _; rw [if_neg (by rw [hx.1]; decide)]
  rw [show [92, c] ++ R = 92 :: c :: R from rfl, zkS (by unfold escS; rw [show atS (92 :: c :: R) 0 = 92 from rfl, show atS (92 :: c :: R) 1 = c from rfl, hx.2]; rfl), he]
  rfl
 | false =>
  rw [cond_false, List.cons_append, List.append_assoc]
  obtain ⟨d, t, e, hd, h10⟩ := zky (n := c.toNat) (UInt8.toNat_lt c) ([32] ++ R)
  have he : Zw (hexS c.toNat ++ ([32] ++ R)) = ([c], R) := by
   have hh := zrz (n := c.toNat) (UInt8.toNat_lt c) R
   rw [show (32 :: R : Str) = [32] ++ R from rfl, e] at hh
   rw [e]
   show (if zaj d then (zhx (hexes 6 0 (d :: t)).1, unsp (hexes 6 0 (d :: t)).2) else _) = _
   rw [if_pos hd, hh, zpT h0 h]
   rfl
  rw [zkS (by rw [e]; unfold escS; rw [show atS (92 :: d :: t) 0 = 92 from rfl, show atS (92 :: d :: t) 1 = d from rfl, h10]; rfl), he]
  rfl
theorem zrG {c : UInt8} (h : ¬ c.toNat < 128) : letB c = true ∧ digB c = false := by
 have : ∀ n : Nat, n < 256 → ¬ (UInt8.ofNat n).toNat < 128 → letB (UInt8.ofNat n) = true ∧ digB (UInt8.ofNat n) = false := by decide +kernel
 have := this c.toNat (UInt8.toNat_lt c)
 rw [UInt8.ofNat_toNat] at this
 exact this h
theorem zrV {dash : Bool} {k : Nat} {c : UInt8} (h0 : c ≠ 0) (hd : dash = true → c.toNat < 128) (R : Str) : Zn (pcW dash k c ++ R) = (c :: (Zn R).1, (Zn R).2) := by
 unfold pcW
 cases hg : letB c && (k == 0 || !digB c) && !dash with
 | true =>
  rw [Bool.and_eq_true, Bool.and_eq_true] at hg
  rw [cond_true, List.singleton_append, Q4, if_pos hg.1.1]
 | false =>
  rw [cond_false]
  refine zqE h0 ?_ R
  by_cases h : c.toNat < 128
  ·exact h
  ·obtain ⟨a, b⟩ := zrG h
   rw [a, b, Bool.not_false, Bool.or_true] at hg
   exact hd (by cases dash <;> simp_all)
theorem zmW {dash : Bool} : ∀ (k : Nat) (l : Str), zf1 l = true → (dash = true → ∀ c ∈ l, c.toNat < 128) → Zn (encW dash k l) = (l, [])
 | _, [], _, _ => by rw [encW, zfx]
 | k, c :: r, h, hd => by
  unfold zf1 at h
  rw [List.all_cons, Bool.and_eq_true] at h
  rw [encW, zrV (by rintro rfl; exact absurd h.1 (by decide)) (fun e => hd e c (List.mem_cons_self ..)), zmW (k - 1) r h.2 (fun e x hx => hd e x (List.mem_cons_of_mem _ hx))]
theorem zhg {l : Str} (h : zf1 l = true) : Zn (zhO l) = (l, []) := by
 refine zmW _ _ h (fun e c hc => ?_)
 rw [beq_iff_eq.1 e, List.mem_singleton] at hc
 subst hc; decide
theorem zo8 {l m : Str} (h1 : zf1 l = true) (h2 : zf1 m = true) : (zhO l == zhO m) = (l == m) := by
 by_cases h : l = m
 ·subst h; simp
 ·rw [beq_eq_false_iff_ne.2 h, beq_eq_false_iff_ne]
  intro e
  have := zhg h1
  rw [e, zhg h2] at this
  exact h (by injection this with a _; exact a.symm)
theorem zmU {dash : Bool} {k : Nat} (hk : 0 < k) (c : UInt8) (R : Str) : ∃ d t, pcW dash k c ++ R = d :: t ∧ (d = 92 ∧ escS (d :: t) = true ∨ (d = c ∧ dash = false ∧ letB d = true ∧ digB d = false ∧ t = R)) := by
 have hk0 : (k == 0) = false := by rw [beq_eq_false_iff_ne]; omega
 unfold pcW
 rw [hk0, Bool.false_or]
 cases hg : letB c && !digB c && !dash with
 | true =>
  rw [Bool.and_eq_true, Bool.and_eq_true, Bool.not_eq_true', Bool.not_eq_true'] at hg
  exact ⟨c, R, rfl, .inr ⟨rfl, hg.2, hg.1.1, hg.1.2, rfl⟩⟩
 | false =>
  rw [cond_false]
  unfold escC
  cases hg2 : decide (32 < c.toNat) && decide (c.toNat < 127) && !digB c && !alB c with
  | true =>
   refine ⟨92, c :: R, rfl, .inl ⟨rfl, ?_⟩⟩
   have : c ≠ 10 := by rintro rfl; revert hg2; decide
   unfold escS
   rw [show atS (92 :: c :: R) 1 = c from rfl, beq_eq_false_iff_ne.2 this]; rfl
  | false =>
   obtain ⟨d, t, e, hd, h10⟩ := zky (n := c.toNat) (UInt8.toNat_lt c) ([32] ++ R)
   refine ⟨92, _, by rw [cond_false, List.cons_append, List.append_assoc], .inl ⟨rfl, ?_⟩⟩
   rw [e]; unfold escS
   rw [show atS (92 :: d :: t) 1 = d from rfl, h10]; rfl
theorem zkM {d : UInt8} (h : letB d = true) (h2 : digB d = false) : fstB d = true ∨ d = 45 := by
 unfold letB at h
 rw [h2, Bool.or_false, Bool.or_eq_true, beq_iff_eq] at h
 exact h
theorem zsA {d : UInt8} {t : Str} (hd : d = 92) (h : escS (d :: t) = true) : nmS (d :: t) = true := by
 subst hd
 unfold nmS
 rw [show atS (92 :: t) 0 = 92 from rfl, if_neg (by decide), h, Bool.or_true]
theorem zrL {l : Str} (h : l ≠ []) : nmS (zhO l) = true := by
 cases l with
 | nil => exact absurd rfl h
 | cons c r =>
  unfold zhO encW
  obtain ⟨d, t, e, hd⟩ := zmU (dash := (c :: r : Str) == [45]) (k := zc4 (c :: r)) (by unfold zc4; split <;> omega) c (encW ((c :: r : Str) == [45]) (zc4 (c :: r) - 1) r)
  rw [e]
  rcases hd with ⟨h1, h2⟩ | ⟨rfl, h2, h3, h4, h5⟩
  ·exact zsA h1 h2
  ·rcases zkM h3 h4 with h6 | rfl
   ·by_cases h45 : d = 45
    ·subst h45; exact absurd h6 (by decide)
    ·unfold nmS
     rw [show atS (d :: t) 0 = d from rfl, if_neg (by rw [beq_iff_eq]; exact h45), h6, Bool.true_or]
   ·have hr : r ≠ [] := by rintro rfl; exact absurd h2 (by decide)
    cases r with
    | nil => exact absurd rfl hr
    | cons c2 r2 =>
     have hf : zc4 (45 :: c2 :: r2) = 2 := rfl
     rw [hf] at h5
     obtain ⟨d2, t2, e2, hd2⟩ := zmU (dash := (45 :: c2 :: r2 : Str) == [45]) (k := 2 - 1) (by omega) c2 (encW ((45 :: c2 :: r2 : Str) == [45]) (2 - 1 - 1) r2)
     have ht : t = d2 :: t2 := by rw [h5, encW, e2]
     rw [ht]
     unfold nmS
     rw [show atS (45 :: d2 :: t2) 0 = 45 from rfl, if_pos (show ((45 : UInt8) == 45) = true from rfl), show atS (45 :: d2 :: t2) 1 = d2 from rfl, show (45 :: d2 :: t2 : Str).drop 1 = d2 :: t2 from rfl]
     rcases hd2 with ⟨_, h7⟩ | ⟨_, _, h8, h9, _⟩
     ·rw [h7, Bool.or_true]
     ·rcases zkM h8 h9 with h10 | rfl
      ·rw [h10]; rfl
      ·simp
end Go.Lv.VT

namespace Go.Lv.VT
set_option maxRecDepth 100000
def hdB (b : UInt8) : Bool := b == 45 || fstB b || b == 92
theorem zrK {q : Str} (h : nmS q = true) : hdB (atS q 0) = true := by
 unfold nmS at h
 unfold hdB
 cases h45 : atS q 0 == 45 with
 | true => rfl
 | false =>
  rw [h45, if_neg (by decide), Bool.or_eq_true] at h
  rcases h with h | h
  ·rw [h]; rfl
  ·unfold escS at h
   rw [Bool.and_eq_true] at h
   rw [h.1, Bool.or_true]
theorem zmF {b : UInt8} (h : hdB b = true) : spB b = false ∧ (b == 34) = false ∧ (b == 39) = false ∧ (b == 35) = false ∧ (b == 64) = false ∧ (b == 47) = false ∧ (b == 60) = false ∧ (b == 43) = false ∧ (b == 46) = false ∧ digB b = false ∧ b ≠ 0 := by
 have : ∀ n : Nat, n < 256 → hdB (UInt8.ofNat n) = true → spB (UInt8.ofNat n) = false ∧ (UInt8.ofNat n == 34) = false ∧ (UInt8.ofNat n == 39) = false ∧ (UInt8.ofNat n == 35) = false ∧ (UInt8.ofNat n == 64) = false ∧ (UInt8.ofNat n == 47) = false ∧ (UInt8.ofNat n == 60) = false ∧ (UInt8.ofNat n == 43) = false ∧ (UInt8.ofNat n == 46) = false ∧ digB (UInt8.ofNat n) = false ∧ UInt8.ofNat n ≠ 0 := by decide +kernel
 have := this b.toNat (UInt8.toNat_lt b)
 rw [UInt8.ofNat_toNat] at this
 exact this h
theorem zs4 {q : Str} (h : nmS q = true) : nbS q = false := by
 obtain ⟨_, _, _, _, _, _, _, h43, h46, hdg, _⟩ := zmF (zrK h)
 unfold nbS unsign zr1
 rw [h43, Bool.false_or]
 cases h45 : atS q 0 == 45 with
 | false =>
  rw [if_neg (by decide)]
  unfold undot
  rw [h46, if_neg (by decide), hdg]
 | true =>
  rw [if_pos rfl]
  unfold nmS at h
  rw [h45, if_pos rfl] at h
  have h1 : hdB (atS q 1) = true := by
   unfold hdB
   cases hf : fstB (atS q 1) with
   | true => simp
   | false =>
    cases h4 : atS q 1 == 45 with
    | true => rfl
    | false =>
     rw [hf, h4, Bool.false_or, Bool.false_or] at h
     unfold escS at h
     rw [Bool.and_eq_true, zan] at h
     rw [h.1]; rfl
  obtain ⟨_, _, _, _, _, _, _, _, g46, gdg, _⟩ := zmF h1
  unfold undot
  rw [zan, g46, if_neg (by decide), zan, gdg]
theorem znE {S X R : Type} {step : S → Option (LO S X R)} {s : S} {x : X} (h : step s = some (.out x)) : zeQ step s = some (.out x) :=
 zdf (fun z => z = s) (fun _ => 0) _ (by rintro _ rfl; exact .inr (.inl ⟨_, h, rfl⟩)) rfl
theorem zsi {s r : Str} : (decide ((0 : Int) ≤ (beh s r : Int)) && decide ((beh s r : Int) ≤ (s.length : Int))) = true := by
 have := zmq s r
 rw [decide_eq_true (by omega), decide_eq_true (by omega)]; rfl
theorem zq4 {s r : Str} (hr : r <:+ s) : List.drop ((beh s r : Int)).toNat s = r := by rw [Int.toNat_natCast, zi0 hr]
theorem zic {s q : Str} (hq : q <:+ s) (h : [47, 42].isPrefixOf q = false) : zJ (sr s q) = some (sr s q) := by
 unfold zJ
 rw [zeR (znE (x := sr s q) ?_)]
 rw [QL zsi]
 simp only [zb, zq4 hq, zc9, h, Option.bind_some, cond_false]
theorem zsH {a b : UInt8} {m t : Str} (h : (b == a) = false) : (a :: m).isPrefixOf (b :: t) = false := by
 rw [List.isPrefixOf]
 have : (a == b) = false := by rw [beq_eq_false_iff_ne] at h ⊢; exact fun e => h e.symm
 rw [this]; rfl
theorem zpt {a : UInt8} {m q : Str} (h0 : a ≠ 0) (h : (atS q 0 == a) = false) : (a :: m).isPrefixOf q = false := by
 cases q with
 | nil => rfl
 | cons b t => exact zsH h
theorem zsu {s q : Str} (hs : s.length ≤ big) (hq : q <:+ s) (h : (atS (Zn q).2 0 == 40) = false) : zM (sr s q) = some (⟨1, (Zn q).1, 0, [], false⟩, sr s (Zn q).2) := by
 unfold zM
 rw [zsX hs hq]
 simp only [zb, Option.bind_some, ziA hs ((zeW q).trans hq)]
 unfold bne
 rw [ztf, h]
 rfl
theorem zl3 {s q : Str} (hs : s.length ≤ big) (hq : q <:+ s) (h : nmS q = true) (h3 : [45, 45, 62].isPrefixOf q = false) : Zd (sr s q) = zM (sr s q) := by
 obtain ⟨a1, a2, a3, a4, a5, a6, a7, a8, a9, a10, a11⟩ := zmF (zrK h)
 unfold Zd
 simp only [zb, ziA hs hq, Option.bind_some]
 rw [QL zsi]
 simp only [zpF, Option.bind_some, a1, cond_false, ztc, zte, ztd, a2, a3, a4, zy, Bool.and_false, zrN hs hq, zs4 h, zq4 hq, zc9, h3, zpt (q := q) (m := [33, 45, 45]) (show (60 : UInt8) ≠ 0 by decide) a7, zth, a5]
 rw [show zw (0, sr s q) = some (nmS q) from zsy (k := 0) hs hq (by omega), h]
 simp only [Option.bind_some, cond_true]
 cases zM (sr s q) <;> rfl
theorem zmx : ∀ l : Str, (l.all fun b => decide (32 ≤ b.toNat)) = true → Proofs.Cl.cleanS l = l
 | [], _ => by rw [Proofs.Cl.cleanS]
 | c :: r, h => by
  rw [List.all_cons, Bool.and_eq_true, decide_eq_true_eq] at h
  have e := zmx r h.2
  have h0 : (c == 0) = false := by rw [beq_eq_false_iff_ne]; rintro rfl; exact absurd h.1 (by decide)
  have h12 : (c == 12) = false := by rw [beq_eq_false_iff_ne]; rintro rfl; exact absurd h.1 (by decide)
  have h13 : (c == 13) = false := by rw [beq_eq_false_iff_ne]; rintro rfl; exact absurd h.1 (by decide)
  rw [Proofs.Cl.cleanS, h0, h12, h13, e]
  ·rfl
  ·rintro t rfl; exact absurd h.1 (by decide)
theorem zrf (dash : Bool) (k : Nat) (c : UInt8) : ((pcW dash k c).all fun b => decide (32 ≤ b.toNat)) = true := by
 have : ∀ n : Nat, n < 256 → ((escC (UInt8.ofNat n)).all fun b => decide (32 ≤ b.toNat)) = true ∧ (letB (UInt8.ofNat n) = true → 32 ≤ (UInt8.ofNat n).toNat) := by decide +kernel
 have := this c.toNat (UInt8.toNat_lt c)
 rw [UInt8.ofNat_toNat] at this
 unfold pcW
 cases hg : letB c && (k == 0 || !digB c) && !dash with
 | true =>
  rw [Bool.and_eq_true, Bool.and_eq_true] at hg
  rw [cond_true, List.all_cons, decide_eq_true (this.2 hg.1.1)]; rfl
 | false => exact this.1
theorem zmn (dash : Bool) : ∀ (k : Nat) (l : Str), ((encW dash k l).all fun b => decide (32 ≤ b.toNat)) = true
 | _, [] => by rw [encW]; rfl
 | k, c :: r => by rw [encW, List.all_append, zrf, zmn dash (k - 1) r]; rfl
theorem zsf {n : Nat} (h : n ≤ 100000) : zB n 1 56 = true := by unfold zB; exact decide_eq_true (by omega)
theorem znR {w x : Str} (hl : w.length ≤ 4000) (hc : Proofs.Cl.cleanS w = w) (hw : w ≠ []) (h1 : nmS w = true) (h2 : Zn w = (x, [])) : qw w = some ([⟨1, x, 0, [], false⟩], 0) := by
 have hs : w.length ≤ big := by unfold big; omega
 have hcl : zeG w = some (w, 0) := by unfold zeG; rw [if_neg (by omega), hc]
 have hlen : 0 < w.length := List.length_pos_iff.2 hw
 have h3 : [45, 45, 62].isPrefixOf w = false := by
  cases h : [45, 45, 62].isPrefixOf w with
  | false => rfl
  | true =>
   exfalso
   obtain ⟨t, rfl⟩ := List.isPrefixOf_iff_prefix.1 h
   rw [show [45, 45, 62] ++ t = 45 :: 45 :: 62 :: t from rfl, Q4, if_pos (by decide), Q4, if_pos (by decide), Q4, if_neg (by decide), if_neg (by unfold escS; rw [show atS (62 :: t) 0 = 62 from rfl]; simp)] at h2
   injection h2 with _ h4
   cases h4
 have hsuf := List.suffix_refl w
 have hnil : ([] : Str) <:+ w := List.nil_suffix
 have hn : Zd (sr w w) = some (⟨1, x, 0, [], false⟩, sr w []) := by
  rw [zl3 hs hsuf h1 h3, zsu hs hsuf (by rw [h2]; rfl), h2]
 unfold qw zai
 rw [hcl]
 simp only [zb, Option.bind_some]
 rw [show ((0 : Int) != 0) = false from rfl, cond_false, sr_0, zic hsuf (zpt (by decide) (zmF (zrK h1)).2.2.2.2.2.1)]
 simp only [Option.bind_some]
 have hloop : ∀ {R : Type} {step : Int × List zh × za → Option (LO (Int × List zh × za) (List zh × za) R)},
   step (0, [], sr w w) = some (.again (1, [⟨1, x, 0, [], false⟩], sr w [])) → step (1, [⟨1, x, 0, [], false⟩], sr w []) = some (.out ([⟨1, x, 0, [], false⟩], sr w [])) → zeQ step (0, [], sr w w) = some (.out ([⟨1, x, 0, [], false⟩], sr w [])) := by
  intro R step e1 e2
  refine zdf (fun z => z = (0, [], sr w w) ∨ z = (1, [⟨1, x, 0, [], false⟩], sr w [])) (fun z => 1 - z.1.toNat) _ ?_ (.inl rfl)
  rintro _ (rfl | rfl)
  ·exact .inl ⟨_, e1, .inr rfl, by show 0 < 1; omega⟩
  ·exact .inr (.inl ⟨_, e2, rfl⟩)
 have hb0 : beh w w = 0 := by unfold beh; omega
 have hb1 : beh w [] = w.length := by unfold beh; rw [List.length_nil]; omega
 rw [zeR (hloop ?_ ?_)]
 ·simp only [Option.bind_some]
  rfl
 ·have hd : decide (((beh w w : Nat) : Int) < (w.length : Int)) = true := decide_eq_true (by omega)
  simp only [hd, cond_true]
  rw [show decide (w64 (0 + 1) > 1500) = false from by rw [zea (by omega) (by omega)]; rfl, cond_false, hn]
  simp only [Option.bind_some]
  unfold qg
  simp only [List.length_nil, QL (zsf (n := 0) (by omega)), Option.bind_some]
  rw [zic hnil rfl]
  simp only [Option.bind_some]
  rw [zea (by omega) (by omega)]; rfl
 ·have hd : decide (((beh w [] : Nat) : Int) < (w.length : Int)) = false := decide_eq_false (by omega)
  simp only [hd, cond_false]
theorem zjS (a b : Str) : zav (a, b) = some true := by
 unfold zav
 simp only [zb, zpY, Option.bind_some]
 cases hg : (bif decide ((a.length : Int) > 300) then true else decide ((b.length : Int) > 300)) with
 | true => rfl
 | false =>
  rw [zs9, Bool.or_eq_false_iff, decide_eq_false_iff_not, decide_eq_false_iff_not] at hg
  rw [cond_false, znX (by omega), znX (by omega)]
  simp only [Option.bind_some]
  cases ha : a.isEmpty || !zf1 a with
  | true => rfl
  | false =>
   cases hb : b.isEmpty || !zf1 b with
   | true => rfl
   | false =>
    rw [Bool.or_eq_false_iff, Bool.not_eq_false'] at ha hb
    have hne : a ≠ [] := by rintro rfl; exact absurd ha.1 (by decide)
    have hlen : (zhO a).length ≤ 1200 := by have := zi1 (a == [45]) (zc4 a) a; unfold zhO; omega
    have hr := zhg ha.2
    have hnm := zrL hne
    have hwne : zhO a ≠ [] := by intro e; rw [e] at hnm; exact absurd hnm (by decide)
    rw [if_neg (by decide), if_neg (by decide), show ((((0 : Int) != 0)) : Bool) = false from rfl]
    simp only [cond_false]
    rw [zrJ (by omega), hnm, hr, znR (by omega) (zmx (zhO a) (zmn _ _ _)) hwne hnm hr]
    simp only [Option.bind_some]
    rw [zo8 ha.2 hb.2]
    unfold Z5
    simp [zy, geti]
end Go.Lv.VT
