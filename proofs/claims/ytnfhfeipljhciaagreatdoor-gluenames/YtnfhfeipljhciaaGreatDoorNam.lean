/- The examples of GlueNames, and what all statements of the layer ask beside their own: closed calls. -/
import Derived.Test.YtnfhfeipljhciaaGreatDoorLaw
import Derived.KernelRfl
namespace Go.Lv.VT
set_option maxRecDepth 100000
theorem zph : zaO () = some true := zhO 60 _ _ (by decide +kernel)
abbrev tA : ze := ⟨1, [97], 0, [], false⟩
abbrev tC : ze := ⟨18, [], 0, [], false⟩
abbrev tS : ze := ⟨13, [], 0, [], false⟩
theorem zrG (s : Str) : Zn s = some ⟨1, s, 0, [], false⟩ := rfl
theorem del_eq (s : Str) : qd s = some ⟨9, s, 0, [], false⟩ := rfl
theorem w1 : zo ([45, 47, 42, 42, 47, 97], [⟨9, [45], 0, [], false⟩, tA]) = some true := zA 60 _ _ (by decide +kernel)
theorem w2 : zo ([35, 49, 47, 42, 42, 47, 97], [⟨4, [49], 0, [], false⟩, tA]) = some true := zA 60 _ _ (by decide +kernel)
theorem w3 : zo ([49, 47, 42, 42, 47, 37], [⟨10, [], 1000, [], true⟩, ⟨9, [37], 0, [], false⟩]) = some true := zA 60 _ _ (by decide +kernel)
theorem w4 : zo ([47, 47, 42, 42, 47, 42], [⟨9, [47], 0, [], false⟩, ⟨9, [42], 0, [], false⟩]) = some true := zA 60 _ _ (by decide +kernel)
theorem w5 : zo ([60, 33, 47, 42, 42, 47, 45, 45], [⟨9, [60], 0, [], false⟩, ⟨9, [33], 0, [], false⟩, ⟨1, [45, 45], 0, [], false⟩]) = some true := zA 60 _ _ (by decide +kernel)
theorem w6 : zo ([49, 101, 47, 42, 42, 47, 51], [⟨12, [], 1000, [101], true⟩, ⟨10, [], 3000, [], true⟩]) = some true := zA 60 _ _ (by decide +kernel)
theorem w7 : zo ([97, 92, 10], [tA, ⟨9, [92], 0, [], false⟩, tS]) = some true := zA 60 _ _ (by decide +kernel)
theorem w8 : zo ([117, 114, 108, 40, 32, 34, 120, 34], [⟨2, [117, 114, 108], 0, [], false⟩, tS, ⟨5, [120], 0, [], false⟩]) = some true := zA 60 _ _ (by decide +kernel)
theorem w9 : zo ([32, 47, 42, 42, 47, 32], [tS, tS]) = some true := zA 60 _ _ (by decide +kernel)
theorem w10 : zo ([117, 114, 108, 40, 92, 50, 48, 32, 92, 41, 41], [⟨7, [32, 41], 0, [], false⟩]) = some true := zA 60 _ _ (by decide +kernel)
theorem c1 : zX [⟨9, [92], 0, [], false⟩] = some 8 := zbl 60 _ _ (by decide +kernel)
theorem c2 : zX [⟨2, [85, 114, 108], 0, [], false⟩, tS] = some 8 := zbl 60 _ _ (by decide +kernel)
theorem n1 : Qi [] = some ([], 8) := zb1 60 _ _ (by decide +kernel)
theorem n2 : Qi [97, 0] = some ([], 8) := zb1 60 _ _ (by decide +kernel)
theorem n3 : Qi (List.replicate 4001 (0 : UInt8)) = some ([], 8) := zb1 60 _ _ (by decide +kernel)
theorem n4 : Qi [45] = some ([92, 45], 0) := zb1 60 _ _ (by decide +kernel)
theorem wn : qG [] = some ([], 0) := zeW 60 _ _ (by decide +kernel)
theorem bads : (List.all [(⟨0, [], 0, [], false⟩ : ze), (⟨25, [], 0, [], false⟩ : ze), (⟨6, [], 0, [], false⟩ : ze), (⟨8, [], 0, [], false⟩ : ze), (⟨1, [], 0, [], false⟩ : ze), (⟨3, [97, 0], 0, [], false⟩ : ze), (⟨1, [97], 0, [], true⟩ : ze), (⟨4, [97], 0, [], false⟩ : ze), (⟨4, [45, 45, 49], 0, [], false⟩ : ze), (⟨5, [], 0, [97], false⟩ : ze), (⟨9, [97], 0, [], false⟩ : ze), (⟨9, [58], 0, [], false⟩ : ze), (⟨9, [34], 0, [], false⟩ : ze), (⟨9, [95], 0, [], false⟩ : ze), (⟨9, [128], 0, [], false⟩ : ze), (⟨9, [12], 0, [], false⟩ : ze), (⟨9, [], 0, [], false⟩ : ze), (⟨10, [], 1000000000001, [], false⟩ : ze), (⟨10, [], 1, [], true⟩ : ze), (⟨11, [], 0, [], true⟩ : ze), (⟨12, [], 0, [], false⟩ : ze), (⟨16, [58], 0, [], false⟩ : ze), (⟨13, [], 1, [], false⟩ : ze)] fun t => zcM 40 t == some true) = true := by decide +kernel
end Go.Lv.VT

namespace Go.Lv.VT
set_option maxRecDepth 100000
abbrev tZ : ze := ⟨0, [], 0, [], false⟩
def part (n : Nat) (a : ze) (i : Nat) : List ze := List.replicate (min i n) a ++ List.replicate (n - i) tZ
theorem zpS (n : Nat) (a : ze) (i : Nat) : (part n a i).length = n := by
 unfold part
 rw [List.length_append, List.length_replicate, List.length_replicate]; omega
theorem zmB {n : Nat} {a : ze} {i : Nat} (h : i < n) : (part n a i)[i]? = some tZ := by
 unfold part
 rw [List.getElem?_append_right (by rw [List.length_replicate]; omega), List.length_replicate, List.getElem?_replicate, if_pos (by omega)]
theorem zjj {n : Nat} {a : ze} {i : Nat} (h : i < n) : (part n a i).set i a = part n a (i + 1) := by
 unfold part
 rw [List.set_append_right _ _ (by rw [List.length_replicate]; omega), List.length_replicate, show i - min i n = 0 by omega, show n - i = (n - (i + 1)) + 1 by omega, List.replicate_succ, List.set_cons_zero, show min (i + 1) n = min i n + 1 by omega, List.replicate_succ', List.append_assoc, List.singleton_append]
theorem zgj {n : Nat} {a : ze} {i : Nat} (h : n ≤ i) : part n a i = List.replicate n a := by
 unfold part
 rw [show min i n = n by omega, show n - i = 0 by omega, List.replicate_zero, List.append_nil]
theorem znn {R : Type} {step : Int × List ze × List ze → Option (LO (Int × List ze × List ze) (List ze × List ze) R)}
  (h1 : ∀ i : Nat, i < 1501 → step ((i : Int), part 1501 tC i, part 1500 tA i) = some (.again (((i + 1 : Nat) : Int), part 1501 tC (i + 1), part 1500 tA (i + 1))))
  (h2 : step (1501, part 1501 tC 1501, part 1500 tA 1501) = some (.out (part 1501 tC 1501, part 1500 tA 1501))) :
  zf4 step (0, List.replicate 1501 tZ, List.replicate 1500 tZ) = some (.out (List.replicate 1501 tC, List.replicate 1500 tA)) := by
 have e : ((0 : Int), List.replicate 1501 tZ, List.replicate 1500 tZ) = (((0 : Nat) : Int), part 1501 tC 0, part 1500 tA 0) := by
  unfold part; rfl
 rw [e, ← zgj (n := 1501) (a := tC) (i := 1501) (by omega), ← zgj (n := 1500) (a := tA) (i := 1501) (by omega)]
 refine zkD (fun s => ∃ i : Nat, i ≤ 1501 ∧ s = ((i : Int), part 1501 tC i, part 1500 tA i)) (fun s => 1501 - s.1.toNat) _ ?_ ⟨0, by omega, rfl⟩
 rintro _ ⟨i, hi, rfl⟩
 by_cases h : i < 1501
 ·exact .inl ⟨_, h1 i h, ⟨i + 1, by omega, rfl⟩, by simp only [Int.toNat_natCast]; omega⟩
 ·have : i = 1501 := by omega
  subst this
  exact .inr (.inl ⟨_, h2, rfl⟩)
theorem zj4 : zX (List.replicate 1501 tC) = some 4 := by
 unfold zX
 rw [List.length_replicate]
 rfl
theorem zqy : zlC tC = true := by decide +kernel
theorem zqx : zlC tA = true := by decide +kernel
theorem zrp (r : List ze) : okAt (tC :: r) = true := rfl
theorem zro (r : List ze) : okAt (tA :: r) = true := rfl
theorem zj3 {a : ze} (hf : zlC a = true) (ho : ∀ r, okAt (a :: r) = true) (h1 : a.text.length ≤ big) (h2 : a.unit.length ≤ big) : zX (List.replicate 1500 a) = some 0 := by
 rw [zi1 (fun t ht => by rw [List.eq_of_mem_replicate ht]; exact ⟨h1, h2⟩)]
 unfold gluS
 rw [List.length_replicate, show decide (1500 ≤ 1500) = true from rfl, cond_true]
 have : (List.range 1500).all (zno (List.replicate 1500 a)) = true := by
  rw [List.all_eq_true]
  intro i hi
  have hi := List.mem_range.1 hi
  unfold zno
  rw [List.drop_replicate, show 1500 - i = (1499 - i) + 1 by omega, List.replicate_succ (n := 1499 - i), ho, Bool.and_true]
  rw [List.getD_eq_getElem?_getD, List.getElem?_replicate, if_pos hi]
  exact hf
 rw [this]; rfl
def bufA : Nat → Str
 | 0 => []
 | 1 => [97]
 | k + 2 => bufA (k + 1) ++ [47, 42, 42, 47] ++ [97]
def stA (k : Nat) : List zm := (List.range k).map fun (i : Nat) => ⟨(i : Int), ((5 * i : Nat) : Int)⟩
theorem zcy : ∀ k, (bufA (k + 1)).length = 5 * k + 1
 | 0 => rfl
 | k + 1 => by rw [bufA, List.length_append, List.length_append, zcy k]; rfl
theorem zjS : ∀ k j, k ≤ j → (bufA (j + 1)).drop (5 * k) = bufA (j + 1 - k)
 | k, 0, h => by
  obtain rfl : k = 0 := by omega
  rfl
 | k, j + 1, h => by
  by_cases e : k = j + 1
  ·subst e
   rw [bufA, List.append_assoc, List.drop_append, zcy, List.drop_eq_nil_of_le (by rw [zcy]; omega), show 5 * (j + 1) - (5 * j + 1) = 4 by omega, show j + 1 + 1 - (j + 1) = 1 by omega]
   rfl
  ·rw [bufA, List.append_assoc, List.drop_append_of_le_length (by rw [zcy]; omega), zjS k j (by omega), show j + 1 + 1 - k = (j - k) + 2 by omega, show j + 1 - k = (j - k) + 1 by omega, bufA, List.append_assoc]
theorem zqS (r : List ze) : qH (tA :: r) = some 1 := rfl
theorem zrz : Q9 (tA, []) = some [97] := zd7 20 _ _ (by decide +kernel)
theorem tok0 : ZO ([97]) = some ([tA], 0) := qJ 60 _ _ (by kernel_rfl)
theorem tok1 : ZO (bufA 1 ++ [97]) = some ([⟨1, [97, 97], 0, [], false⟩], 0) := qJ 60 _ _ (by kernel_rfl)
theorem tok2 : ZO (bufA 2 ++ [97]) = some ([tA, ⟨1, [97, 97], 0, [], false⟩], 0) := qJ 60 _ _ (by kernel_rfl)
theorem tok3 : ZO (bufA 3 ++ [97]) = some ([tA, tA, ⟨1, [97, 97], 0, [], false⟩], 0) := qJ 60 _ _ (by kernel_rfl)
theorem tok4 : ZO (bufA 4 ++ [97]) = some ([tA, tA, tA, ⟨1, [97, 97], 0, [], false⟩], 0) := qJ 60 _ _ (by kernel_rfl)
theorem zra {a b : List ze} (h : a.length ≠ b.length) : Zb (a, b) = some false := by
 unfold Zb
 rw [show ((a.length : Int) != (b.length : Int)) = true by rw [bne_iff_ne]; omega]
 rfl
theorem window (k : Nat) (hk : 1 ≤ k) : ∃ l, ZO ((bufA k).drop (5 * (k - 4)) ++ [97]) = some (l, 0) ∧ l.length ≠ k + 1 - (k - 4) := by
 by_cases h : k < 5
 ·have : k = 1 ∨ k = 2 ∨ k = 3 ∨ k = 4 := by omega
  rcases this with rfl | rfl | rfl | rfl
  ·exact ⟨_, tok1, by decide⟩
  ·exact ⟨_, tok2, by decide⟩
  ·exact ⟨_, tok3, by decide⟩
  ·exact ⟨_, tok4, by decide⟩
 ·obtain ⟨j, rfl⟩ : ∃ j, k = j + 1 := ⟨k - 1, by omega⟩
  rw [zjS _ _ (by omega), show j + 1 - (j + 1 - 4) = 4 by omega]
  exact ⟨_, tok4, by simp only [List.length_cons, List.length_nil]; omega⟩
theorem zo1 (k : Nat) : (stA k).length = k := by simp [stA]
theorem zqX {k i : Nat} (h : i < k) : (stA k)[i]? = some ⟨(i : Int), ((5 * i : Nat) : Int)⟩ := by
 unfold stA
 rw [List.getElem?_map, List.getElem?_range h]
 rfl
theorem zp0 (k : Nat) : stA (k + 1) = stA k ++ [⟨(k : Int), ((5 * k : Nat) : Int)⟩] := by
 unfold stA
 rw [List.range_succ, List.map_append]
 rfl
theorem zp4 (k : Nat) (h : k < 1500) : List.drop k (List.take (k + 1) (List.replicate 1500 tA)) = [tA] := by
 rw [List.take_replicate, List.drop_replicate, show min (k + 1) 1500 - k = 1 by omega]
 rfl
theorem zle {n : Int} (h1 : -9223372036854775808 ≤ n) (h2 : n ≤ 9223372036854775807) : w64 n = n := zlf h1 h2
theorem zl9 : qG (List.replicate 1500 tA) = some ([], 28) := by
 unfold qG
 rw [zj3 zqx zro (by decide) (by decide)]
 simp only [zb, Option.bind_some]
 rw [show ((0 : Int) != 0) = false from rfl, cond_false]
 refine zow (zkD (fun s => ∃ k : Nat, k ≤ 800 ∧ s = ((k : Int), bufA k, stA k)) (fun s => 801 - s.1.toNat) (.ret ([], 28)) ?_ ⟨0, by omega, rfl⟩)
 rintro _ ⟨k, hk, rfl⟩
 have hlen : (List.replicate 1500 tA).length = 1500 := List.length_replicate
 have e1 : decide ((k : Int) < ((List.replicate 1500 tA).length : Int)) = true := by rw [hlen]; exact decide_eq_true (by omega)
 have e2 : (decide ((0 : Int) ≤ (k : Int)) && decide ((k : Int) ≤ ((List.replicate 1500 tA).length : Int))) = true := by rw [hlen, decide_eq_true (by omega), decide_eq_true (by omega)]; rfl
 have e3 : qH (List.drop k (List.replicate 1500 tA)) = some 1 := by
  rw [List.drop_replicate, show 1500 - k = (1499 - k) + 1 by omega, List.replicate_succ (n := 1499 - k)]
  exact zqS _
 have e4 : w64 ((k : Int) + 1) = ((k + 1 : Nat) : Int) := by rw [zle (by omega) (by omega)]; omega
 have e5 : (decide ((0 : Int) ≤ (k : Int)) && (decide ((k : Int) ≤ ((k + 1 : Nat) : Int)) && decide (((k + 1 : Nat) : Int) ≤ ((List.replicate 1500 tA).length : Int)))) = true := by rw [hlen, decide_eq_true (by omega), decide_eq_true (by omega), decide_eq_true (by omega)]; rfl
 have e6 : geti (List.replicate 1500 tA) (k : Int) = some tA := by
  unfold geti
  rw [decide_eq_true (by omega), cond_true, Int.toNat_natCast, List.getElem?_replicate, if_pos (by omega)]
 simp only [e1, e2, e3, e4, e5, e6, cond_true, QZ, Option.bind_some, Int.toNat_natCast, zp4 k (by omega)]
 have key : ∀ E : Option (LO (Int × List UInt8 × List zm) (List UInt8) (Str × Int)), E = some (bif decide (k < 800) then .again (((k + 1 : Nat) : Int), bufA (k + 1), stA (k + 1)) else .ret ([], 28)) →
   (∃ s', E = some (.again s') ∧ (∃ k' : Nat, k' ≤ 800 ∧ s' = ((k' : Int), bufA k', stA k')) ∧ 801 - s'.1.toNat < 801 - k) ∨ (∃ x, E = some (.out x) ∧ (LX.ret ([], 28) : LX (List UInt8) (Str × Int)) = .out x) ∨ (∃ y, E = some (.ret y) ∧ (LX.ret ([], 28) : LX (List UInt8) (Str × Int)) = .ret y) := by
  rintro E rfl
  by_cases h : k < 800
  ·rw [decide_eq_true h]
   exact .inl ⟨_, rfl, ⟨k + 1, by omega, rfl⟩, by simp only [Int.toNat_natCast]; omega⟩
  ·rw [decide_eq_false h]
   exact .inr (.inr ⟨_, rfl, rfl⟩)
 refine key _ ?_
 clear key
 have hin : zf4 (fun s4 : Int × List UInt8 => bif decide (s4.1 < (([tA] : List ze).length : Int)) then (geti [tA] s4.1).bind fun y5 => (Q9 (y5, s4.2)).bind fun y6 => some (LO.again (w64 (s4.1 + 1), y6)) else some (LO.out s4.2)) (0, []) = some (LX.out (R := LO (Int × List UInt8 × List zm) (List UInt8) (Str × Int)) [97]) := by
  refine ze0 (n := 2) ?_
  have h0 : geti [tA] (0 : Int) = some tA := rfl
  simp only [zaM, List.length_singleton, h0, Option.bind_some, zrz]
  rfl
 rw [zkE hin]
 clear hin
 rw [show (bif bif (1 : Int) == 9 then (1 : Int) == 2 else false then some (LX.out ((k : Int), bufA k, stA k, [92, 10])) else some (LX.out ((k : Int), bufA k, stA k, ([97] : Str)))) = (some (LX.out ((k : Int), bufA k, stA k, ([97] : Str))) : Option (LX _ (LO (Int × List UInt8 × List zm) (List UInt8) (Str × Int)))) from rfl, Zr]
 simp only [zo1]
 have hw4 : w64 ((k : Int) - 4) = (k : Int) - 4 := zle (by omega) (by omega)
 simp only [hw4]
 have hj : (bif decide ((k : Int) - 4 ≥ 0) then
   need (decide (0 ≤ (k : Int) - 4) && decide ((k : Int) - 4 < (k : Int))) ((stA k)[((k : Int) - 4).toNat]?.bind fun y10 => some (LX.out ((k : Int), bufA k, stA k, y10)))
   else some (LX.out ((k : Int), bufA k, stA k, (⟨0, 0⟩ : zm)))) = (some (LX.out ((k : Int), bufA k, stA k, (⟨((k - 4 : Nat) : Int), ((5 * (k - 4) : Nat) : Int)⟩ : zm))) : Option (LX _ (LO (Int × List UInt8 × List zm) (List UInt8) (Str × Int)))) := by
  by_cases h : 4 ≤ k
  ·rw [show decide ((k : Int) - 4 ≥ 0) = true from decide_eq_true (by omega), show decide ((k : Int) - 4 < (k : Int)) = true from decide_eq_true (by omega), cond_true, Bool.and_true, QZ, show ((k : Int) - 4).toNat = k - 4 by omega, zqX (by omega)]
   rfl
  ·rw [decide_eq_false (by omega), cond_false, show k - 4 = 0 by omega]
   rfl
 rw [hj, Zr]
 clear hj
 have hbl : (bufA k).length ≤ 5 * k ∧ 5 * (k - 4) ≤ (bufA k).length := by
  cases k with
  | zero => exact ⟨Nat.le_refl _, Nat.zero_le _⟩
  | succ j => rw [zcy]; omega
 have e7 : (decide ((0 : Int) ≤ ((5 * (k - 4) : Nat) : Int)) && decide (((5 * (k - 4) : Nat) : Int) ≤ ((bufA k).length : Int))) = true := by
  rw [decide_eq_true (by omega), decide_eq_true (by omega)]; rfl
 have e8 : decide (5 * (k - 4) + ((bufA k).length - 5 * (k - 4)) ≤ (bufA k).length) = true := decide_eq_true (by omega)
 have e9 : List.take ((bufA k).length - 5 * (k - 4)) (List.drop (5 * (k - 4)) (bufA k)) = List.drop (5 * (k - 4)) (bufA k) := List.take_of_length_le (by rw [List.length_drop]; omega)
 have e10 : zhW (List.drop (5 * (k - 4)) (bufA k)).length ([97] : Str).length = true := zhu.2 (by rw [List.length_drop, List.length_singleton]; omega)
 simp only [Int.toNat_natCast, e7, e8, e9, e10, QZ, e4]
 have e11 : (decide ((0 : Int) ≤ ((k - 4 : Nat) : Int)) && (decide (((k - 4 : Nat) : Int) ≤ ((k + 1 : Nat) : Int)) && decide (((k + 1 : Nat) : Int) ≤ ((List.replicate 1500 tA).length : Int)))) = true := by rw [hlen, decide_eq_true (by omega), decide_eq_true (by omega), decide_eq_true (by omega)]; rfl
 have e12 : (List.drop (k - 4) (List.take (k + 1) (List.replicate 1500 tA))).length = k + 1 - (k - 4) := by rw [List.length_drop, List.length_take, List.length_replicate]; omega
 have ap : ∀ n m b : Nat, n + m ≤ 100000 → b ≤ 100 → zw n m b = true := fun n m b h hb => by
  unfold zw
  refine decide_eq_true ?_
  have := Nat.mul_le_mul h hb
  omega
 cases k with
 | zero =>
  rw [show List.drop (5 * (0 - 4)) (bufA 0) ++ [97] = [97] from rfl, tok0]
  simp only [Option.bind_some]
  have hs : Zb ([tA], List.drop (0 - 4) (List.take (0 + 1) (List.replicate 1500 tA))) = some true := zaZ 10 _ _ (by decide +kernel)
  rw [hs]
  rfl
 | succ j =>
  obtain ⟨l, h1, h2⟩ := window (j + 1) (by omega)
  rw [h1]
  simp only [Option.bind_some]
  have h3 : (!((0 : Int) != 0)) = true := rfl
  have h4 : ((0 : Int) != 0) = false := rfl
  simp only [h4, Bool.not_false, zdI, e11, Bool.true_or, QZ, cond_false, zra (show l.length ≠ (List.drop (j + 1 - 4) (List.take (j + 1 + 1) (List.replicate 1500 tA))).length by rw [e12]; exact h2), Option.bind_some, Bool.not_true, cond_true]
  rw [zfH (ap _ _ _ (by rw [zcy]; show _ + 4 ≤ _; omega) (by omega)), Zr]
  simp only [zo1, List.length_append, zcy]
  rw [zfH (ap _ _ _ (by omega) (by omega)), zfH (ap _ _ _ (by show _ + 4 + 1 ≤ _; omega) (by omega))]
  by_cases h : j + 1 < 800
  ·rw [show decide ((((5 * j + 1 + ([47, 42, 42, 47] : Str).length + ([97] : Str).length : Nat) : Int)) > 4000) = false from decide_eq_false (by show ¬ (((5 * j + 1 + 4 + 1 : Nat) : Int) > 4000); omega), cond_false, decide_eq_true h, cond_true, zp0 (j + 1), bufA, zle (by omega) (by omega), show 5 * j + 1 + ([47, 42, 42, 47] : Str).length = 5 * (j + 1) from (by show 5 * j + 1 + 4 = _; omega)]
   rfl
  ·rw [show decide ((((5 * j + 1 + ([47, 42, 42, 47] : Str).length + ([97] : Str).length : Nat) : Int)) > 4000) = true from decide_eq_true (by show ((5 * j + 1 + 4 + 1 : Nat) : Int) > 4000; omega), cond_true, decide_eq_false h, cond_false]
theorem zjK : zbI () = some true := by
 unfold zbI
 have hb := bads
 have hloop : ∀ (l : List ze) (k : Unit → Option Bool), l.length = 23 → (l.all fun t => zcM 40 t == some true) = true →
   Qs (fun s1 : Int => bif decide (s1 < 23) then zb (geti l s1) fun y2 => zb (zcn y2) fun y3 => bif !y3 then some (LO.ret false) else some (LO.again (w64 (s1 + 1))) else some (LO.out ())) 0 k = k () := by
  intro l k hl ha
  refine (ziw (k := k) l (fun _ => (none : Option Bool)) () (fun i hi => ?_) (by rw [hl]; rfl)).trans (by rw [List.findSome?_eq_none_iff.2 (fun _ _ => rfl)])
  have hm := List.all_eq_true.1 ha l[i] (List.getElem_mem hi)
  rw [beq_iff_eq] at hm
  have hm2 := zky 40 _ _ hm
  have hg : geti l (i : Int) = some l[i] := zlD hi
  simp only [zb, hg, Option.bind_some, hm2, Bool.not_true, cond_false, show decide ((i : Int) < 23) = true from decide_eq_true (by omega), cond_true, zle (show -9223372036854775808 ≤ (i : Int) + 1 by omega) (by omega)]
  rfl
 rw [hloop _ _ rfl hb]
 simp only [zb, del_eq, zrG, Option.bind_some, w1, w2, w3, w4, w5, w6, w7, w8, w9, w10, c1, c2, zdI, cond_true]
 rw [show Int.toNat 1501 = 1501 from rfl, show Int.toNat 1500 = 1500 from rfl, show Int.toNat 4001 = 4001 from rfl]
 rw [zkE (znn (fun i hi => ?_) ?_)]
 ·have ht : List.take 1500 (List.replicate 1501 tC) = List.replicate 1500 tC := by rw [List.take_replicate]; rfl
  have hk : decide ((1500 : Int) ≤ ((List.replicate 1501 tC).length : Int)) = true := by rw [List.length_replicate]; rfl
  simp only [zj4, hk, ht, zj3 zqy zrp (by decide) (by decide), zl9, n1, n2, n3, n4, wn, zph, Option.bind_some, QZ]
  rfl
 ·rfl
 ·have d1 : decide ((i : Int) < 1501) = true := decide_eq_true (by omega)
  have d0 : decide ((0 : Int) ≤ (i : Int)) = true := decide_eq_true (by omega)
  have d2 : w64 ((i : Int) + 1) = ((i + 1 : Nat) : Int) := by rw [zle (by omega) (by omega)]; omega
  simp only [d1, d0, d2, cond_true, zpS, Int.toNat_natCast, zmB hi, Option.bind_some, Bool.true_and]
  rw [show decide ((i : Int) < ((1501 : Nat) : Int)) = true from d1, QZ]
  by_cases h : i < 1500
  ·rw [show decide ((i : Int) < 1500) = true from decide_eq_true (by omega), cond_true, show decide ((i : Int) < ((1500 : Nat) : Int)) = true from decide_eq_true (by omega), QZ, zmB h, Option.bind_some, Zr]
   simp only [zjj hi, zjj h, d2]
  ·rw [show decide ((i : Int) < 1500) = false from decide_eq_false (by omega), cond_false, Zr]
   simp only [zjj hi, d2]
   rw [zgj (n := 1500) (i := i) (by omega), zgj (n := 1500) (i := i + 1) (by omega)]
end Go.Lv.VT
