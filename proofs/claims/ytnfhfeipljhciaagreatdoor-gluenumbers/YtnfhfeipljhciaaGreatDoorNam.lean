/- Tokens that can be written: the program's check. -/
import Derived.Test.YtnfhfeipljhciaaGreatDoorLaw
namespace Go.Lv.VT
theorem zsC (g d : Bool) (b c : UInt8) : (bif g then namN (bif g then b else c).toNat else d) = bif g then namN b.toNat else d := by cases g <;> rfl
theorem zf2 {x : zh} (h1 : x.text.length ≤ big) (h2 : x.unit.length ≤ big) : zao x = some (znx x) := by
 unfold zao
 rw [zaR (zhF.2 (by unfold big at h1 h2; omega))]
 simp only [zb, zkS, Option.bind_some]
 have hn : decide (Lib.indexByte (x.text ++ x.unit) (0 : Int).toNat.toUInt8 < 0) = (zbr x.text && zbr x.unit) := by
  rw [zrS, zrK, zlc, Bool.not_not]
 simp only [hn, zgZ, zf4, ziv, Option.bind_some, ge_iff_le, bne]
 have hb := zqN x.text
 unfold znx rngS
 by_cases k9 : x.kind = 9
 ·simp only [k9, Int.reduceBEq, cond_true, cond_false, zB, Bool.or_false, Bool.false_or]
  cases ht : x.text with
  | nil =>
   have : zbr ([] : Str) = true := rfl
   simp only [this, Bool.true_and]
   cases zbr x.unit <;> rfl
  | cons b r =>
   cases r with
   | nil =>
    have hd := zqn b
    have e1 : ((([b] : Str).length : Int) == 1) = true := rfl
    have e2 : geti [b] 0 = some b := rfl
    have e3 : (([b] : Str) == [45]) = (b == 45) := by
     show ((b == 45) && true) = _
     rw [Bool.and_true]
    have e4 : zbr [b] = !(b == 0) := by show ((!(b == 0)) && true) = _; rw [Bool.and_true]
    have e5 : delS [b] = zmL b.toNat := rfl
    simp only [e1, e2, e3, e4, e5, zhR, zjt, ziv, Option.bind_some, zsC, ← hd]
    cases hu : x.unit with
    | nil =>
     have : zbr ([] : Str) = true := rfl
     simp only [this, Bool.and_true]
     generalize (ziN.any fun c => c == b) = a1
     cases namN b.toNat <;> cases (b == 0) <;> cases (b == 45) <;> cases a1 <;> cases (x.num == 0) <;> cases x.flag <;> rfl
    | cons c s =>
     have : ((c :: s : Str) == []) = false := rfl
     simp only [this]
     generalize zbr (c :: s) = a2
     generalize (ziN.any fun c => c == b) = a1
     cases a2 <;> cases namN b.toNat <;> cases (b == 0) <;> cases (b == 45) <;> cases a1 <;> cases (x.num == 0) <;> cases x.flag <;> rfl
   | cons c r =>
    have e1 : (((b :: c :: r : Str).length : Int) == 1) = false := beq_eq_false_iff_ne.2 (by simp only [List.length_cons]; omega)
    have e3 : ((b :: c :: r : Str) == [45]) = false := by
     show ((b == 45) && false) = _
     rw [Bool.and_false]
    have e5 : delS (b :: c :: r) = false := rfl
    simp only [e1, e3, e5]
    cases (zbr (b :: c :: r) && zbr x.unit) <;> rfl
 have b9 := beq_eq_false_iff_ne.2 k9
 have hu : (x.unit == []) = true → zbr x.unit = true := fun h => by rw [beq_iff_eq] at h; rw [h]; rfl
 have htx : (x.text == []) = true → zbr x.text = true := fun h => by rw [beq_iff_eq] at h; rw [h]; rfl
 rw [← hb]
 generalize hl45 : (x.text == [45]) = a11 at *
 generalize (List.isPrefixOf [45, 45] x.text) = a12 at *
 generalize numS x.text = a3 at *
 generalize zbr x.text = a1 at *
 generalize zbr x.unit = a2 at *
 generalize (x.text == []) = a4 at *
 generalize (x.unit == []) = a5 at *
 generalize (x.num == 0) = a6 at *
 generalize x.flag = a7 at *
 generalize decide (-1000000000000 ≤ x.num) = a8 at *
 generalize decide (x.num ≤ 1000000000000) = a9 at *
 generalize (Int.tmod x.num 1000 == 0) = a10 at *
 clear hb hn hl45
 have K : ∀ k : Int, k ∈ [1, 2, 3, 4, 5, 7, 10, 11, 12] → x.kind = k → True := fun _ _ _ => trivial
 clear K
 by_cases k1 : x.kind = 1
 ·simp only [k1, zB, cond_true, cond_false, Int.reduceBEq]
  cases a1 <;> cases a2 <;> cases a4 <;> cases a5 <;> cases a6 <;> cases a7 <;> first | rfl | (simp at hu htx; done) | simp_all
 by_cases k2 : x.kind = 2
 ·simp only [k2, zB, cond_true, cond_false, Int.reduceBEq]
  cases a1 <;> cases a2 <;> cases a4 <;> cases a5 <;> cases a6 <;> cases a7 <;> first | rfl | (simp at hu htx; done) | simp_all
 by_cases k3 : x.kind = 3
 ·simp only [k3, zB, cond_true, cond_false, Int.reduceBEq]
  cases a1 <;> cases a2 <;> cases a4 <;> cases a5 <;> cases a6 <;> cases a7 <;> first | rfl | (simp at hu htx; done) | simp_all
 by_cases k4 : x.kind = 4
 ·simp only [k4, zB, cond_true, cond_false, Int.reduceBEq]
  cases a1 <;> cases a2 <;> cases a3 <;> cases a4 <;> cases a5 <;> cases a6 <;> cases a7 <;> cases a11 <;> cases a12 <;> first | rfl | (simp at hu htx; done) | simp_all
 by_cases k5 : x.kind = 5
 ·simp only [k5, zB, cond_true, cond_false, Int.reduceBEq]
  cases a1 <;> cases a2 <;> cases a5 <;> cases a6 <;> cases a7 <;> first | rfl | (simp at hu htx; done) | simp_all
 by_cases k7 : x.kind = 7
 ·simp only [k7, zB, cond_true, cond_false, Int.reduceBEq]
  cases a1 <;> cases a2 <;> cases a5 <;> cases a6 <;> cases a7 <;> first | rfl | (simp at hu htx; done) | simp_all
 by_cases k10 : x.kind = 10
 ·simp only [k10, zB, cond_true, cond_false, Int.reduceBEq]
  cases a1 <;> cases a2 <;> cases a4 <;> cases a5 <;> cases a7 <;> cases a8 <;> cases a9 <;> cases a10 <;> first | rfl | (simp at hu htx; done) | simp_all
 by_cases k11 : x.kind = 11
 ·simp only [k11, zB, cond_true, cond_false, Int.reduceBEq]
  cases a1 <;> cases a2 <;> cases a4 <;> cases a5 <;> cases a7 <;> cases a8 <;> cases a9 <;> cases a10 <;> first | rfl | (simp at hu htx; done) | simp_all
 by_cases k12 : x.kind = 12
 ·simp only [k12, zB, cond_true, cond_false, Int.reduceBEq]
  cases a1 <;> cases a2 <;> cases a4 <;> cases a5 <;> cases a7 <;> cases a8 <;> cases a9 <;> cases a10 <;> first | rfl | (simp at hu htx; done) | simp_all
 simp only [b9, beq_eq_false_iff_ne.2 k1, beq_eq_false_iff_ne.2 k2, beq_eq_false_iff_ne.2 k3, beq_eq_false_iff_ne.2 k4, beq_eq_false_iff_ne.2 k5, beq_eq_false_iff_ne.2 k7, beq_eq_false_iff_ne.2 k10, beq_eq_false_iff_ne.2 k11, beq_eq_false_iff_ne.2 k12, zB, cond_true, cond_false, Bool.or_self]
 cases decide (13 ≤ x.kind) <;> cases decide (x.kind ≤ 24) <;> cases a4 <;> cases a5 <;> cases a6 <;> cases a7 <;> rfl
end Go.Lv.VT

namespace Go.Lv.VT
end Go.Lv.VT

namespace Go.Lv.VT
set_option maxRecDepth 100000
theorem zp6 : Q3 () = some true := zh1 60 _ _ (by decide +kernel)
abbrev tA : zh := ⟨1, [97], 0, [], false⟩
abbrev tS : zh := ⟨13, [], 0, [], false⟩
theorem w1 : zL ([45, 47, 42, 42, 47, 97], [⟨9, [45], 0, [], false⟩, tA]) = some true := zG 60 _ _ (by decide +kernel)
theorem w2 : zL ([35, 49, 47, 42, 42, 47, 97], [⟨4, [49], 0, [], false⟩, tA]) = some true := zG 60 _ _ (by decide +kernel)
theorem w3 : zL ([49, 47, 42, 42, 47, 37], [⟨10, [], 1000, [], true⟩, ⟨9, [37], 0, [], false⟩]) = some true := zG 60 _ _ (by decide +kernel)
theorem w4 : zL ([47, 47, 42, 42, 47, 42], [⟨9, [47], 0, [], false⟩, ⟨9, [42], 0, [], false⟩]) = some true := zG 60 _ _ (by decide +kernel)
theorem w5 : zL ([60, 33, 47, 42, 42, 47, 45, 45], [⟨9, [60], 0, [], false⟩, ⟨9, [33], 0, [], false⟩, ⟨1, [45, 45], 0, [], false⟩]) = some true := zG 60 _ _ (by decide +kernel)
theorem w6 : zL ([49, 101, 47, 42, 42, 47, 51], [⟨12, [], 1000, [101], true⟩, ⟨10, [], 3000, [], true⟩]) = some true := zG 60 _ _ (by decide +kernel)
theorem w7 : zL ([97, 92, 10], [tA, ⟨9, [92], 0, [], false⟩, tS]) = some true := zG 60 _ _ (by decide +kernel)
theorem w8 : zL ([117, 114, 108, 40, 32, 34, 120, 34], [⟨2, [117, 114, 108], 0, [], false⟩, tS, ⟨5, [120], 0, [], false⟩]) = some true := zG 60 _ _ (by decide +kernel)
theorem c1 : zaK [⟨9, [92], 0, [], false⟩] = some 8 := zcD 60 _ _ (by decide +kernel)
theorem c2 : zaK [⟨2, [85, 114, 108], 0, [], false⟩, tS] = some 8 := zcD 60 _ _ (by decide +kernel)
theorem n1 : zch [] = some ([], 8) := zbZ 60 _ _ (by decide +kernel)
theorem n2 : zch [97, 0] = some ([], 8) := zbZ 60 _ _ (by decide +kernel)
theorem n3 : zch (List.replicate 4001 (0 : UInt8)) = some ([], 8) := zbZ 60 _ _ (by decide +kernel)
theorem n4 : zch [45] = some ([92, 45], 0) := zbZ 60 _ _ (by decide +kernel)
end Go.Lv.VT

namespace Go.Lv.VT
set_option maxRecDepth 100000
def partT (r : Nat) (p : Bool) : Str := bif (zcR r).isEmpty then (bif p then [48] else []) else zcR r
theorem zfM {r : Nat} (h : r < 1000) (p : Bool) : (partT r p).all digB = true ∧ (partT r p).length ≤ 3 ∧ valG 0 (partT r p) * 10 ^ (3 - (partT r p).length) = r ∧ zib r p = (bif (partT r p).isEmpty then [] else 46 :: partT r p) ∧ ((partT r p).isEmpty = ((r == 0) && !p)) := by
 have hf := zgj r h
 simp only [zkJ, Bool.and_eq_true, decide_eq_true_eq, beq_iff_eq] at hf
 obtain ⟨⟨⟨⟨a, b⟩, c⟩, d⟩, e⟩ := hf
 unfold partT zib
 cases hE : (zcR r).isEmpty with
 | true =>
  have hr : r = 0 := by rw [hE] at d; exact beq_iff_eq.1 d.symm
  subst hr
  cases p <;> refine ⟨by decide, by decide, by decide, rfl, rfl⟩
 | false =>
  rw [hE] at d
  simp only [cond_false]
  exact ⟨a, b, c, by rw [hE, cond_false], by rw [hE, ← d]; rfl⟩
theorem zrv {l : Str} (h : (l.all fun b => digB b || b == 46) = true) : zfT l = true := by
 unfold zfT
 rw [List.all_eq_true] at h ⊢
 intro b hb
 have := h b hb
 refine decide_eq_true ?_
 rw [Bool.or_eq_true] at this
 rcases this with h1 | h1
 ·have := zeK h1; omega
 ·rw [beq_iff_eq.1 h1]; decide
theorem zof {m : Nat} (p : Bool) : ((QV m p).all fun b => digB b || b == 46) = true := by
 obtain ⟨h1, _, _⟩ := zfv (m / 1000)
 obtain ⟨h2, _, _, h5, _⟩ := zfM (r := m % 1000) (by omega) p
 have hw : ∀ l : Str, l.all digB = true → (l.all fun b => digB b || b == 46) = true := by
  intro l hl
  rw [List.all_eq_true] at hl ⊢
  intro b hb
  rw [hl b hb]; rfl
 unfold QV
 rw [List.all_append, hw _ h1, h5, Bool.true_and]
 cases (partT (m % 1000) p).isEmpty with
 | true => rfl
 | false => rw [cond_false, List.all_cons, hw _ h2]; rfl
theorem zmK (u : Nat) : ∃ c r, Lib.decDigits u = c :: r ∧ digB c = true := by
 obtain ⟨h1, _, h3⟩ := zfv u
 cases h : Lib.decDigits u with
 | nil => exact absurd h h3
 | cons c r => rw [h, List.all_cons, Bool.and_eq_true] at h1; exact ⟨c, r, rfl, h1.1⟩
theorem zjk {c : UInt8} (h : digB c = true) : c ≠ 45 ∧ c ≠ 43 ∧ c ≠ 46 ∧ c ≠ 0 ∧ List.contains [43, 45] c = false := by
 have : ∀ n : Nat, n < 256 → digB (UInt8.ofNat n) = true → UInt8.ofNat n ≠ 45 ∧ UInt8.ofNat n ≠ 43 ∧ UInt8.ofNat n ≠ 46 ∧ UInt8.ofNat n ≠ 0 ∧ List.contains [43, 45] (UInt8.ofNat n) = false := by decide +kernel
 have := this c.toNat (UInt8.toNat_lt c)
 rw [UInt8.ofNat_toNat] at this
 exact this h
theorem zqi {m : Nat} (p : Bool) : ∃ f, Lib.cut (QV m p) [46] = (Lib.decDigits (m / 1000), partT (m % 1000) p, f) := by
 obtain ⟨h1, _, _⟩ := zfv (m / 1000)
 obtain ⟨_, _, _, h5, _⟩ := zfM (r := m % 1000) (by omega) p
 unfold QV Lib.cut
 rw [zfy, h5]
 cases hp : (partT (m % 1000) p).isEmpty with
 | true =>
  rw [cond_true, List.append_nil, zoZ _ h1, if_neg (by decide)]
  exact ⟨false, by rw [List.isEmpty_iff.1 hp]⟩
 | false =>
  rw [cond_false, zoY _ _ h1, if_pos (by omega)]
  refine ⟨true, ?_⟩
  rw [Int.toNat_natCast, List.take_left, List.length_singleton, show (Lib.decDigits (m / 1000)).length + 1 = (Lib.decDigits (m / 1000) ++ [46]).length by simp]
  have : Lib.decDigits (m / 1000) ++ 46 :: partT (m % 1000) p = (Lib.decDigits (m / 1000) ++ [46]) ++ partT (m % 1000) p := by simp
  rw [this, List.drop_left]
theorem zic {n : Int} (h1 : -1000000000000 ≤ n) (h2 : n ≤ 1000000000000) (p : Bool) : Zb (numT n p) = some n := by
 obtain ⟨m, hm⟩ : ∃ m : Nat, n.natAbs = m := ⟨_, rfl⟩
 have hmle : m ≤ 1000000000000 := by omega
 obtain ⟨c, r, hc, hcd⟩ := zmK (m / 1000)
 obtain ⟨nc45, nc43, _, _, ncc⟩ := zjk hcd
 have hbody : QV m p = c :: (r ++ zib (m % 1000) p) := by unfold QV; rw [hc]; rfl
 have hlen := zmC hmle p
 obtain ⟨f, hcut⟩ := zqi (m := m) p
 obtain ⟨d1, d2, d3⟩ := zfv (m / 1000)
 obtain ⟨p1, p2, p3, p4, p5⟩ := zfM (r := m % 1000) (by omega) p
 have hdl := zgT (u := m / 1000) (by omega)
 have hsh : short (QV m p) = true := decide_eq_true (by omega)
 have hdrop : Lib.trimLeftS (QV m p) [43, 45] = QV m p := by
  rw [hbody]
  unfold Lib.trimLeftS
  rw [List.dropWhile_cons, ncc]
  rfl
 have hT : Lib.trimLeftS (numT n p) [43, 45] = QV m p := by
  unfold numT
  rw [hm]
  by_cases hn : n < 0
  ·rw [if_pos hn]
   show List.dropWhile _ (45 :: QV m p) = _
   rw [List.dropWhile_cons]
   exact hdrop
  ·rw [if_neg hn]; exact hdrop
 have h0 : ∃ b, geti (numT n p) 0 = some b ∧ (((b.toNat : Int) == 45) = decide (n < 0)) := by
  unfold numT
  rw [hm]
  by_cases hn : n < 0
  ·rw [if_pos hn, decide_eq_true hn]; exact ⟨45, rfl, rfl⟩
  ·rw [if_neg hn, decide_eq_false hn]
   refine ⟨c, by rw [hbody]; rfl, beq_eq_false_iff_ne.2 (fun e => nc45 ?_)⟩
   exact UInt8.toNat_inj.1 (by show c.toNat = 45; omega)
 obtain ⟨b, hb1, hb2⟩ := h0
 unfold Zb
 simp only [zb, hb1, Option.bind_some]
 have t1 : zfe (numT n p, [43, 45]) = some (QV m p) := by
  unfold zfe
  rw [zaR (show (short ([43, 45] : Str) && zfT [43, 45]) = true by decide)]
  exact congrArg some hT
 have t2 : za1 (QV m p, [101, 69]) = some (-1) := by
  unfold za1
  rw [zaR (by simp only [hsh, zrv (zof p), Bool.and_true, Bool.true_and]; decide)]
  exact congrArg some (zoc _ (zof p))
 have t3 : cutF (QV m p, [46]) = some (Lib.decDigits (m / 1000), partT (m % 1000) p, f) := by
  unfold cutF
  rw [zaR (by exact hsh)]
  exact congrArg some hcut
 simp only [t1, t2, Option.bind_some, show decide ((-1 : Int) ≥ 0) = false from rfl, cond_false, zB, t3]
 rw [zaR (zhF.2 (by omega))]
 have hw : w64 (3 - ((partT (m % 1000) p).length : Int)) = ((3 - (partT (m % 1000) p).length : Nat) : Int) := by rw [QE (by omega) (by omega)]; omega
 rw [hw, decide_eq_false (by omega), cond_false, zB]
 simp only
 have hml : maxLen = 9223372036854775807 := rfl
 rw [zaR (decide_eq_true (by rw [List.length_append, hml]; omega))]
 have hval : valG 0 (Lib.decDigits (m / 1000) ++ partT (m % 1000) p) * 10 ^ (3 - (partT (m % 1000) p).length) = m := by
  rw [zgv, d2, zj7, Nat.add_mul, p3, Nat.mul_assoc, ← Nat.pow_add, show (partT (m % 1000) p).length + (3 - (partT (m % 1000) p).length) = 3 by omega]
  omega
 have hvle : valG 0 (Lib.decDigits (m / 1000) ++ partT (m % 1000) p) ≤ 1000000000000 := by
  have := Nat.le_mul_of_pos_right (valG 0 (Lib.decDigits (m / 1000) ++ partT (m % 1000) p)) (Nat.pow_pos (n := 3 - (partT (m % 1000) p).length) (show 0 < 10 by omega))
  omega
 rw [zeX (zq4 (l := Lib.decDigits (m / 1000) ++ partT (m % 1000) p) (by rw [List.all_append, d1, p1]; rfl) (by rw [List.length_append]; omega) hvle (fun v i hi => ?_) (fun v => ?_))]
 ·rw [zeX (zn1 (by omega) (by rw [hval]; exact hmle) (fun a b => ?_)), hval]
  ·rw [hb2]
   by_cases hn : n < 0
   ·rw [decide_eq_true hn, cond_true, zB, QE (by omega) (by omega)]
    congr 1; omega
   ·rw [decide_eq_false hn, cond_false, zB]
    congr 1; omega
  ·simp only
 ·have e1 : decide ((i : Int) < ((Lib.decDigits (m / 1000) ++ partT (m % 1000) p).length : Int)) = true := decide_eq_true (by omega)
  have e0 : decide ((0 : Int) ≤ (i : Int)) = true := decide_eq_true (by omega)
  simp only [e1, e0, cond_true, Bool.and_true, zk9, Int.toNat_natCast, List.getElem?_eq_getElem hi, Option.bind_some]
 ·simp only
  rw [decide_eq_false (by omega), cond_false]
end Go.Lv.VT

namespace Go.Lv.VT
set_option maxRecDepth 100000
theorem zi2 (n : Int) (p : Bool) : (n < 0 ∧ numT n p = 45 :: QV n.natAbs p) ∨ (¬ n < 0 ∧ numT n p = QV n.natAbs p) := by
 unfold numT
 by_cases h : n < 0
 ·exact .inl ⟨h, by rw [if_pos h]; rfl⟩
 ·exact .inr ⟨h, by rw [if_neg h]; rfl⟩
theorem zgC (m : Nat) (p : Bool) : ∃ c r, QV m p = c :: r ∧ digB c = true := by
 obtain ⟨c, r, h, hd⟩ := zmK (m / 1000)
 exact ⟨c, r ++ zib (m % 1000) p, by unfold QV; rw [h]; rfl, hd⟩
theorem znc (n : Int) (p : Bool) : unsign (numT n p) = QV n.natAbs p := by
 rcases zi2 n p with ⟨_, h⟩ | ⟨_, h⟩
 ·rw [h]; rfl
 ·rw [h]
  obtain ⟨c, r, hb, hd⟩ := zgC n.natAbs p
  obtain ⟨h1, h2, _⟩ := zjk hd
  rw [hb]
  unfold unsign zms
  rw [show atS (c :: r) 0 = c from rfl, beq_eq_false_iff_ne.2 h1, beq_eq_false_iff_ne.2 h2]
  rfl
theorem nb_T (n : Int) (p : Bool) : nbS (numT n p) = true := by
 unfold nbS
 rw [znc]
 obtain ⟨c, r, hb, hd⟩ := zgC n.natAbs p
 obtain ⟨_, _, h3, _⟩ := zjk hd
 rw [hb]
 unfold undot
 rw [show atS (c :: r) 0 = c from rfl, beq_eq_false_iff_ne.2 h3]
 exact hd
theorem zqR (l : Str) (h : l.all digB = true) : past digB l = [] := by
 have := zjL l [] h
 rw [List.append_nil] at this
 rw [this]; rfl
theorem zqM (n : Int) (p : Bool) : zhm (numT n p) = ([], (partT (n.natAbs % 1000) p).isEmpty) := by
 unfold zhm
 rw [znc]
 obtain ⟨d1, _, _⟩ := zfv (n.natAbs / 1000)
 obtain ⟨p1, _, _, p4, _⟩ := zfM (r := n.natAbs % 1000) (by omega) p
 have e : past digB (QV n.natAbs p) = zib (n.natAbs % 1000) p := by
  unfold QV
  rw [zjL _ _ d1, p4]
  cases (partT (n.natAbs % 1000) p).isEmpty <;> rfl
 rw [e, p4]
 cases h : partT (n.natAbs % 1000) p with
 | nil => rfl
 | cons g r =>
  rw [h, List.all_cons, Bool.and_eq_true] at p1
  have hw : zdy (46 :: g :: r) = ([], false) := by
   unfold zdy
   rw [show atS (46 :: g :: r) 0 = 46 from rfl, show atS (46 :: g :: r) 1 = g from rfl, p1.1, if_pos (show ((46 : UInt8) == 46 && true) = true from rfl)]
   rw [show (46 :: g :: r).drop 1 = g :: r from rfl, zqR _ (by rw [List.all_cons, p1.1, p1.2]; rfl)]
  show (match expS (zdy (46 :: g :: r)).1 with | some r => (r, false) | none => zdy (46 :: g :: r)) = _
  rw [hw]
  rfl
theorem zp4 {n : Int} (h1 : -1000000000000 ≤ n) (h2 : n ≤ 1000000000000) (p : Bool) : (numT n p).length ≤ 25 ∧ 1 ≤ (numT n p).length := by
 have := zmC (m := n.natAbs) (by omega) p
 obtain ⟨c, r, hb, _⟩ := zgC n.natAbs p
 rcases zi2 n p with ⟨_, h⟩ | ⟨_, h⟩
 ·rw [h, List.length_cons]; omega
 ·rw [h]; refine ⟨by omega, ?_⟩; rw [hb, List.length_cons]; omega
theorem zp5 {n : Int} (h1 : -1000000000000 ≤ n) (h2 : n ≤ 1000000000000) (p : Bool) : zbN (numT n p) = some (n, (partT (n.natAbs % 1000) p).isEmpty, 0) := by
 obtain ⟨hl, _⟩ := zp4 h1 h2 p
 have hs : (numT n p).length ≤ big := by unfold big; omega
 unfold zbN
 rw [decide_eq_false (by omega), cond_false, sr_0]
 simp only [zb, zrV hs (List.suffix_refl _), Option.bind_some, nb_T, Bool.not_true, cond_false, zqs hs (List.suffix_refl _), zqM]
 have hb : beh (numT n p) [] = (numT n p).length := rfl
 rw [decide_eq_false (by rw [hb]; omega), cond_false, zic h1 h2 p]
 rfl
theorem zqt {n : Int} (h1 : -1000000000000 ≤ n) (h2 : n ≤ 1000000000000) (i : Bool) (hi : i = true → Int.tmod n 1000 = 0) : znx ⟨10, [], n, [], i⟩ = true := by
 have hr : rngS ⟨10, [], n, [], i⟩ = true := by
  unfold rngS
  rw [decide_eq_true h1, decide_eq_true h2]
  cases i with
  | false => rfl
  | true => simp only [hi rfl]; rfl
 unfold znx
 simp only [hr]
 rfl
theorem zqu {n : Int} (h1 : -1000000000000 ≤ n) (h2 : n ≤ 1000000000000) : znx ⟨11, [], n, [], false⟩ = true := by
 have hr : rngS ⟨11, [], n, [], false⟩ = true := by
  unfold rngS
  rw [decide_eq_true h1, decide_eq_true h2]; rfl
 unfold znx
 simp only [hr]
 rfl
theorem zrr {n : Int} (h1 : -1000000000000 ≤ n) (h2 : n ≤ 1000000000000) (i : Bool) (hi : i = true → Int.tmod n 1000 = 0) : zbX ⟨10, [], n, [], i⟩ = some (numT n (!i), 0) := by
 unfold zbX
 rw [zf2 (by show 0 ≤ _; omega) (by show 0 ≤ _; omega), zqt h1 h2 i hi]
 simp only [zb, Option.bind_some, Bool.not_true, cond_false]
 unfold zbI
 simp only [Int.reduceBEq, cond_true, cond_false, zb, ziQ h1 h2, Option.bind_some]
theorem zrs {n : Int} (h1 : -1000000000000 ≤ n) (h2 : n ≤ 1000000000000) : zbX ⟨11, [], n, [], false⟩ = some (numT n false ++ [37], 0) := by
 have := zp4 h1 h2 false
 unfold zbX
 rw [zf2 (by show 0 ≤ _; omega) (by show 0 ≤ _; omega), zqu h1 h2]
 simp only [zb, Option.bind_some, Bool.not_true, cond_false]
 unfold zbI
 simp only [Int.reduceBEq, cond_true, cond_false, zb, ziQ h1 h2, Option.bind_some]
 rw [zaR (zp7 (by omega) (by omega))]
 rfl
def dots (l : Str) : Nat := l.countP (· == 46)
theorem zjl : ∀ (l : Str), l.all digB = true → dots l = 0
 | [], _ => rfl
 | c :: l, h => by
  rw [List.all_cons, Bool.and_eq_true] at h
  unfold dots
  rw [List.countP_cons, if_neg (by rw [beq_iff_eq]; exact (zjk h.1).2.2.1)]
  exact zjl l h.2
theorem zoJ {R : Type} {step : Int × Int → Option (LO (Int × Int) Int R)} {l : Str} (hn : l.length ≤ 100000)
  (h1 : ∀ (v : Int) (i : Nat) (hi : i < l.length), step (v, (i : Int)) = some (.again (bif (l[i].toNat : Int) == 46 then w64 (v + 1) else v, w64 ((i : Int) + 1))))
  (h2 : ∀ v : Int, step (v, (l.length : Int)) = some (.out v)) : zfC step (0, 0) = some (.out ((dots l : Nat) : Int)) := by
 refine zeW (fun s => ∃ i : Nat, i ≤ l.length ∧ s = (((dots (l.take i) : Nat) : Int), (i : Int))) (fun s => l.length - s.2.toNat) _ ?_ ⟨0, by omega, rfl⟩
 rintro _ ⟨i, hi, rfl⟩
 rcases Nat.lt_or_ge i l.length with h | h
 ·refine .inl ⟨_, h1 _ i h, ⟨i + 1, by omega, ?_⟩, by simp only; rw [QE (by omega) (by omega)]; omega⟩
  have hc : dots (l.take i) ≤ i := by have := List.countP_le_length (p := (· == (46 : UInt8))) (l := l.take i); rw [List.length_take] at this; unfold dots; omega
  have ht : dots (l.take (i + 1)) = dots (l.take i) + (if (l[i] == 46) = true then 1 else 0) := by
   unfold dots
   rw [List.take_succ_eq_append_getElem h, List.countP_append, List.countP_cons, List.countP_nil, Nat.zero_add]
  rw [show ((l[i].toNat : Int) == 46) = (l[i] == 46) from zol l[i] 46, ht, QE (n := (i : Int) + 1) (by omega) (by omega)]
  cases l[i] == 46 with
  | true => rw [cond_true, if_pos rfl, QE (by omega) (by omega)]; rfl
  | false => rfl
 ·have : i = l.length := by omega
  subst this
  refine .inr (.inl ⟨_, h2 _, ?_⟩)
  rw [List.take_length]
theorem zkA (c : UInt8) (l : Str) : dots (c :: l) = dots l + (if (c == 46) = true then 1 else 0) := by unfold dots; rw [List.countP_cons]
theorem zqo (a b : Str) : dots (a ++ b) = dots a + dots b := by unfold dots; rw [List.countP_append]
theorem zsj (n : Int) (p : Bool) : dots (numT n p) = (bif (partT (n.natAbs % 1000) p).isEmpty then 0 else 1) := by
 obtain ⟨d1, _, _⟩ := zfv (n.natAbs / 1000)
 obtain ⟨p1, _, _, p4, _⟩ := zfM (r := n.natAbs % 1000) (by omega) p
 have hb : dots (QV n.natAbs p) = (bif (partT (n.natAbs % 1000) p).isEmpty then 0 else 1) := by
  unfold QV
  rw [zqo, zjl _ d1, p4, Nat.zero_add]
  cases (partT (n.natAbs % 1000) p).isEmpty with
  | true => rfl
  | false => simp only [cond_false]; rw [zkA, zjl _ p1]; rfl
 rcases zi2 n p with ⟨_, h⟩ | ⟨_, h⟩
 ·rw [h, zkA, hb]; rfl
 ·rw [h, hb]
theorem zsk (n : Int) : (∃ q : Str, numT n true = q ++ [46] ++ [48]) ∨ (∃ (q : Str) (c : UInt8), numT n true = q ++ [c] ∧ c ≠ 48) := by
 have hf := zgj (n.natAbs % 1000) (by omega)
 simp only [zkJ, Bool.and_eq_true] at hf
 obtain ⟨_, e⟩ := hf
 have hb : (∃ q : Str, QV n.natAbs true = q ++ [46] ++ [48]) ∨ (∃ (q : Str) (c : UInt8), QV n.natAbs true = q ++ [c] ∧ c ≠ 48) := by
  unfold QV zib
  cases hE : (zcR (n.natAbs % 1000)).isEmpty with
  | true => exact .inl ⟨_, by rw [List.append_assoc]; rfl⟩
  | false =>
   have hne : zcR (n.natAbs % 1000) ≠ [] := by intro h; rw [h] at hE; exact absurd hE (by decide)
   refine .inr ⟨Lib.decDigits (n.natAbs / 1000) ++ 46 :: (zcR (n.natAbs % 1000)).dropLast, (zcR (n.natAbs % 1000)).getLast hne, ?_, ?_⟩
   ·rw [cond_false, List.append_assoc, List.cons_append, List.dropLast_concat_getLast]
   ·intro h
    rw [List.getLast?_eq_some_getLast hne, h] at e
    exact absurd e (by decide)
 rcases zi2 n true with ⟨_, h⟩ | ⟨_, h⟩
 ·rcases hb with ⟨q, hq⟩ | ⟨q, c, hq, hc⟩
  ·exact .inl ⟨45 :: q, by rw [h, hq]; rfl⟩
  ·exact .inr ⟨45 :: q, c, by rw [h, hq]; rfl, hc⟩
 ·rw [h]; exact hb
theorem zeQ {l q : Str} {c : UInt8} (h : l = q ++ [c]) (hl : l.length ≤ 100000) : geti l (w64 ((l.length : Int) - 1)) = some c := by
 have hlen : l.length = q.length + 1 := by rw [h, List.length_append, List.length_singleton]
 rw [QE (by omega) (by omega), show ((l.length : Int) - 1) = ((q.length : Nat) : Int) by omega, zjq (by omega : q.length < l.length)]
 subst h
 rw [List.getElem_append_right (by omega)]
 simp
theorem znA {l q : Str} {c d : UInt8} (h : l = q ++ [c] ++ [d]) (hl : l.length ≤ 100000) : geti l (w64 ((l.length : Int) - 2)) = some c := by
 have hlen : l.length = q.length + 2 := by rw [h, List.length_append, List.length_append, List.length_singleton]; rfl
 rw [QE (by omega) (by omega), show ((l.length : Int) - 2) = ((q.length : Nat) : Int) by omega, zjq (by omega : q.length < l.length)]
 subst h
 rw [List.getElem_append_left (by simp), List.getElem_append_right (by omega)]
 simp
theorem zoP {l : Str} (h1 : 1 ≤ l.length) (hl : l.length ≤ 100000) : ∃ c, geti l (w64 ((l.length : Int) - 1)) = some c :=
 ⟨l.getLast (by intro h; rw [h] at h1; exact absurd h1 (by decide)), zeQ (List.dropLast_concat_getLast _).symm hl⟩
theorem zhO (n : Int) (i : Bool) : Qw (n, i) = some true := by
 unfold Qw
 simp only [zb, zp6, Option.bind_some]
 cases hg : (bif bif decide (n < (-1000000000000)) then true else decide (n > 1000000000000) then true else bif i then Int.tmod n 1000 != 0 else false) with
 | true => rfl
 | false =>
  rw [cond_false]
  rw [zqP, zqP, zsl, Bool.or_eq_false_iff, Bool.or_eq_false_iff, decide_eq_false_iff_not, decide_eq_false_iff_not] at hg
  obtain ⟨⟨g1, g2⟩, g3⟩ := hg
  have h1 : -1000000000000 ≤ n := by omega
  have h2 : n ≤ 1000000000000 := by omega
  have hi : i = true → Int.tmod n 1000 = 0 := by
   rintro rfl
   rw [Bool.true_and] at g3
   simpa using g3
  have hz : i = true → n.natAbs % 1000 = 0 := fun e => by
   have := hi e
   have h5 : (Int.tmod n 1000).natAbs = n.natAbs % 1000 := Int.natAbs_tmod n 1000
   rw [this] at h5
   exact h5.symm
  obtain ⟨l1, l2⟩ := zp4 h1 h2 (!i)
  obtain ⟨l3, l4⟩ := zp4 h1 h2 false
  obtain ⟨p1, p2, p3, p4, p5⟩ := zfM (r := n.natAbs % 1000) (by omega) (!i)
  have hw : (partT (n.natAbs % 1000) (!i)).isEmpty = i := by
   rw [p5, Bool.not_not]
   cases i with
   | false => rw [Bool.and_false]
   | true => rw [hz rfl]; rfl
  rw [zrr h1 h2 i hi]
  simp only [Option.bind_some]
  rw [zp5 h1 h2, zrs h1 h2]
  simp only [Option.bind_some, hw]
  have e1 : (bif bif bif bif bif bif (0 : Int) != 0 then true else (0 : Int) != 0 then true else (0 : Int) != 0 then true else n != n then true else !(i == i) then true else decide (((numT n (!i)).length : Int) < 1) then true else decide (((numT n false ++ [37]).length : Int) < 2)) = false := by
   rw [show (n != n) = false by simp, show (i == i) = true by simp, decide_eq_false (by omega), decide_eq_false (by rw [List.length_append, List.length_singleton]; omega)]
   rfl
  rw [e1, cond_false]
  rw [zeX (zoJ (l := numT n (!i)) (by omega) (fun v j hj => ?_) (fun v => ?_))]
  ·have hd := zsj n (!i)
   rw [hw] at hd
   have h37 : geti (numT n false ++ [37]) (w64 (((numT n false ++ [37]).length : Int) - 1)) = some 37 := zeQ rfl (by rw [List.length_append, List.length_singleton]; omega)
   cases i with
   | true =>
    obtain ⟨c, hc⟩ := zoP (l := numT n (!true)) l2 (by omega)
    show _ = _
    rw [hd, hc, h37]
    rfl
   | false =>
    show _ = _
    rw [hd, h37]
    rcases zsk n with ⟨q, hq⟩ | ⟨q, c, hq, hc⟩
    ·rw [zeQ (l := numT n (!false)) hq (by omega), znA (l := numT n (!false)) hq (by omega)]
     rfl
    ·rw [zeQ (l := numT n (!false)) hq (by omega)]
     have : (((c.toNat : Nat) : Int) != 48) = true := by
      have h4 : (c == 48) = false := beq_eq_false_iff_ne.2 hc
      rw [← zol c 48] at h4
      unfold bne
      rw [show ((c.toNat : Int) == 48) = false from h4]; rfl
     simp only [Option.bind_some, this]
     rfl
  ·have d1 : decide ((j : Int) < ((numT n (!i)).length : Int)) = true := decide_eq_true (by omega)
   have d2 : geti (numT n (!i)) (j : Int) = some (numT n (!i))[j] := zjq hj
   simp only [d1, cond_true, d2, Option.bind_some]
   cases (((numT n (!i))[j].toNat : Int) == 46) <;> rfl
  ·simp only
   rw [decide_eq_false (by omega), cond_false]
end Go.Lv.VT
