/- Tokens that can be written: the program's check. -/
import Derived.Test.YtnfhfeipljhciaaGreatDoorLaw
namespace Go.Lv.VT
end Go.Lv.VT

namespace Go.Lv.VT
end Go.Lv.VT

namespace Go.Lv.VT
set_option maxRecDepth 100000
theorem zpY : Qx () = some true := zhM 60 _ _ (by decide +kernel)
abbrev tA : zh := ⟨1, [97], 0, [], false⟩
abbrev tS : zh := ⟨13, [], 0, [], false⟩
theorem w1 : zI ([45, 47, 42, 42, 47, 97], [⟨9, [45], 0, [], false⟩, tA]) = some true := zF 60 _ _ (by decide +kernel)
theorem w2 : zI ([35, 49, 47, 42, 42, 47, 97], [⟨4, [49], 0, [], false⟩, tA]) = some true := zF 60 _ _ (by decide +kernel)
theorem w3 : zI ([49, 47, 42, 42, 47, 37], [⟨10, [], 1000, [], true⟩, ⟨9, [37], 0, [], false⟩]) = some true := zF 60 _ _ (by decide +kernel)
theorem w4 : zI ([47, 47, 42, 42, 47, 42], [⟨9, [47], 0, [], false⟩, ⟨9, [42], 0, [], false⟩]) = some true := zF 60 _ _ (by decide +kernel)
theorem w5 : zI ([60, 33, 47, 42, 42, 47, 45, 45], [⟨9, [60], 0, [], false⟩, ⟨9, [33], 0, [], false⟩, ⟨1, [45, 45], 0, [], false⟩]) = some true := zF 60 _ _ (by decide +kernel)
theorem w6 : zI ([49, 101, 47, 42, 42, 47, 51], [⟨12, [], 1000, [101], true⟩, ⟨10, [], 3000, [], true⟩]) = some true := zF 60 _ _ (by decide +kernel)
theorem w7 : zI ([97, 92, 10], [tA, ⟨9, [92], 0, [], false⟩, tS]) = some true := zF 60 _ _ (by decide +kernel)
theorem w8 : zI ([117, 114, 108, 40, 32, 34, 120, 34], [⟨2, [117, 114, 108], 0, [], false⟩, tS, ⟨5, [120], 0, [], false⟩]) = some true := zF 60 _ _ (by decide +kernel)
theorem c1 : zaQ [⟨9, [92], 0, [], false⟩] = some 8 := zcC 60 _ _ (by decide +kernel)
theorem c2 : zaQ [⟨2, [85, 114, 108], 0, [], false⟩, tS] = some 8 := zcC 60 _ _ (by decide +kernel)
theorem n1 : Qg [] = some ([], 8) := zbS 60 _ _ (by decide +kernel)
theorem n2 : Qg [97, 0] = some ([], 8) := zbS 60 _ _ (by decide +kernel)
theorem n3 : Qg (List.replicate 4001 (0 : UInt8)) = some ([], 8) := zbS 60 _ _ (by decide +kernel)
theorem n4 : Qg [45] = some ([92, 45], 0) := zbS 60 _ _ (by decide +kernel)
end Go.Lv.VT

namespace Go.Lv.VT
set_option maxRecDepth 100000
end Go.Lv.VT

namespace Go.Lv.VT
set_option maxRecDepth 100000
end Go.Lv.VT

namespace Go.Lv.VT
set_option maxRecDepth 100000
theorem Qj {n : Nat} (h : n < 256) : zW ((n : Nat) : Int) = some (UInt8.ofNat n) := by
 unfold zW
 rw [decide_eq_true (by omega : (0 : Int) ≤ (n : Int)), decide_eq_true (by omega : (n : Int) ≤ 255)]
 rfl
theorem zmf (n k : Nat) (hk : k ≤ 32) : zat .i32 (n : Int) (k : Int) = ((n / 2 ^ k : Nat) : Int) := by
 unfold zat
 rw [show (min ((k : Int).toNat) IntKind.i32.bits) = k by show min k 32 = k; omega]
 rw [Int.fdiv_eq_ediv_of_nonneg _ (Int.le_of_lt (Int.pow_pos (by decide)))]
 rw [Int.natCast_ediv, Int.natCast_pow]
 rfl
theorem shr6 (n : Nat) : zat .i32 (n : Int) 6 = ((n / 64 : Nat) : Int) := zmf n 6 (by omega)
theorem ztj (n : Nat) : zat .i32 (n : Int) 12 = ((n / 4096 : Nat) : Int) := zmf n 12 (by omega)
theorem ztk (n : Nat) : zat .i32 (n : Int) 18 = ((n / 262144 : Nat) : Int) := zmf n 18 (by omega)
theorem zsY (n : Int) : IntKind.u8.wrap n = n % 256 := by simp [IntKind.wrap, IntKind.bits, IntKind.signed]
theorem zsc (n : Int) : IntKind.u32.wrap n = n % 4294967296 := by simp [IntKind.wrap, IntKind.bits, IntKind.signed]
theorem zjN {n : Nat} (h : n < 2147483648) : w32 (n : Int) = (n : Int) := by
 show IntKind.i32.wrap _ = _
 simp only [IntKind.wrap, IntKind.bits, IntKind.signed]
 simp
 omega
theorem zqV {n : Nat} (h : n < 2147483648) : wu32 (n : Int) = (n : Int) := by
 show IntKind.u32.wrap _ = _
 rw [zsc]; omega
theorem zmk (n : Nat) : wu8 (n : Int) = ((n % 256 : Nat) : Int) := by
 show IntKind.u8.wrap (n : Int) = _
 rw [zsY]
 omega
theorem zqv (n : Nat) : ibOr .u8 128 (za4 .u8 (wu8 (n : Int)) 63) = ((128 + n % 64 : Nat) : Int) := by
 have : ∀ m : Nat, m < 256 → ibOr .u8 128 (za4 .u8 ((m : Nat) : Int) 63) = ((128 + m % 64 : Nat) : Int) := by decide +kernel
 rw [zmk, this _ (Nat.mod_lt _ (by omega)), show n % 256 % 64 = n % 64 by omega]
theorem zs7 {n : Nat} (h : n < 32) : ibOr .u8 192 (wu8 (n : Int)) = ((192 + n : Nat) : Int) := by
 have : ∀ m : Nat, m < 32 → ibOr .u8 192 (wu8 ((m : Nat) : Int)) = ((192 + m : Nat) : Int) := by decide +kernel
 exact this n h
theorem zsD {n : Nat} (h : n < 16) : ibOr .u8 224 (wu8 (n : Int)) = ((224 + n : Nat) : Int) := by
 have : ∀ m : Nat, m < 16 → ibOr .u8 224 (wu8 ((m : Nat) : Int)) = ((224 + m : Nat) : Int) := by decide +kernel
 exact this n h
theorem zs8 {n : Nat} (h : n < 8) : ibOr .u8 240 (wu8 (n : Int)) = ((240 + n : Nat) : Int) := by
 have : ∀ m : Nat, m < 8 → ibOr .u8 240 (wu8 ((m : Nat) : Int)) = ((240 + m : Nat) : Int) := by decide +kernel
 exact this n h
theorem zdU {n m : Nat} (h : n + m ≤ 2000000000) : zB n m 1 = true := by unfold zB; exact decide_eq_true (by omega)
theorem zsM {n : Nat} (h0 : n ≠ 0) (h : n < 16777216) {l : Str} (hl : l.length ≤ 1000000000) : Zb (w32 (n : Int), l) = some (l ++ zhx n) := by
 have a1 : zB l.length 1 1 = true := zdU (by omega)
 have a2 : zB l.length 2 1 = true := zdU (by omega)
 have a3 : zB l.length 3 1 = true := zdU (by omega)
 have a4 : zB l.length 4 1 = true := zdU (by omega)
 have a80 : (128 + n % 64) < 256 := by omega
 have m80 : (128 + n / 64 % 64) < 256 := by omega
 have k80 : (128 + n / 4096 % 64) < 256 := by omega
 unfold Zb zQ zhx
 simp only [zjN (show n < 2147483648 by omega), zqV (show n < 2147483648 by omega), zb, shr6, ztj, ztk, zqv, Qj a80, Qj m80, Qj k80, Option.bind_some]
 by_cases h1 : n < 128
 ·rw [decide_eq_true (by omega), cond_true, zmk, Qj (by omega), Option.bind_some, QL a1, if_neg (by omega), if_pos h1, Nat.mod_eq_of_lt (by omega)]
 ·rw [decide_eq_false (by omega), cond_false]
  by_cases h2 : n < 2048
  ·rw [decide_eq_true (by omega), cond_true, zs7 (by omega), Qj (by omega)]
   simp only [Option.bind_some]
   rw [QL a2, if_neg (by omega), if_neg (by omega), if_pos h2]
   rfl
  ·rw [decide_eq_false (by omega), cond_false]
   by_cases h3 : n < 55296
   ·rw [decide_eq_true (by omega), cond_true, qG]
    simp only [cond_true]
    rw [zsD (by omega), Qj (by omega)]
    simp only [Option.bind_some]
    rw [QL a3, if_neg (by omega), if_neg (by omega), if_neg (by omega), if_pos (by omega)]
    rfl
   ·rw [decide_eq_false (by omega), cond_false, qG]
    simp only [zse]
    by_cases h4 : 57343 < n ∧ n < 65536
    ·rw [decide_eq_true (by omega), decide_eq_true (by omega), Bool.and_true, cond_true, zsD (by omega), Qj (by omega)]
     simp only [Option.bind_some]
     rw [QL a3, if_neg (by omega), if_neg (by omega), if_neg (by omega), if_pos (by omega)]
     rfl
    ·rw [show (decide ((57343 : Int) < (n : Int)) && decide ((n : Int) ≤ 65535)) = false by rw [Bool.and_eq_false_iff]; simp only [decide_eq_false_iff_not]; omega, cond_false]
     by_cases h5 : 65535 < n ∧ n ≤ 1114111
     ·rw [decide_eq_true (by omega), decide_eq_true (by omega), Bool.and_true, cond_true, zs8 (by omega), Qj (by omega)]
      simp only [Option.bind_some]
      rw [QL a4, if_neg (by omega), if_neg (by omega), if_neg (by omega), if_neg (by omega)]
      rfl
     ·rw [show (decide ((n : Int) > 65535) && decide ((n : Int) ≤ 1114111)) = false by rw [Bool.and_eq_false_iff]; simp only [decide_eq_false_iff_not]; omega, cond_false, QL a3, if_pos (by omega)]
      rfl
theorem zle {l : Str} (hl : l.length ≤ 1000000000) : Zb (65533, l) = some (l ++ zo3) := by
 have h := zsM (n := 65533) (by omega) (by omega) hl
 rw [zjN (by omega)] at h
 exact h
end Go.Lv.VT

namespace Go.Lv.VT
set_option maxRecDepth 100000
theorem zgj {s : Str} {c : UInt8} {l : Str} (h : c :: l <:+ s) : l <:+ s := (List.suffix_cons c l).trans h
theorem zpD {s : Str} {c : UInt8} {l : Str} (hs : s.length ≤ big) (h : c :: l <:+ s) : w64 ((beh s (c :: l) : Int) + 1) = (beh s l : Int) := by
 have hb : big = 4194304 := rfl
 have h1 := h.length_le
 rw [List.length_cons] at h1
 have e : beh s (c :: l) + 1 = beh s l := by unfold beh; rw [List.length_cons]; omega
 have := zmq s l
 rw [zea (by omega) (by omega)]; omega
theorem zpq (c : UInt8) (l : Str) : pk (c :: l) 0 = (c.toNat : Int) := rfl
theorem zmr (c : UInt8) : zW (wu8 ((c.toNat : Nat) : Int)) = some c := by
 rw [zmk, Nat.mod_eq_of_lt (UInt8.toNat_lt c), Qj (UInt8.toNat_lt c), UInt8.ofNat_toNat]
theorem zlQ {b : UInt8} (h : zaj b = true) : hexN b < 16 := of_decide_eq_true h
theorem zsN {n d : Nat} (hn : n < 16777216) (hd : d < 16) : ibOr .i64 (zlS .i64 (n : Int) 4) (d : Int) = ((16 * n + d : Nat) : Int) := by
 have h1 : zlS .i64 (n : Int) 4 = ((16 * n : Nat) : Int) := by
  unfold zlS
  rw [show (2 : Int) ^ (min (4 : Int).toNat IntKind.i64.bits) = 16 from rfl]
  rw [zhA (by omega) (by omega)]; omega
 rw [h1]
 unfold ibOr
 have e : (BitVec.ofInt IntKind.i64.bits ((16 * n : Nat) : Int) ||| BitVec.ofInt IntKind.i64.bits (d : Int)).toNat = 16 * n + d := by
  rw [BitVec.toNat_or, BitVec.toNat_ofInt, BitVec.toNat_ofInt]
  rw [show ((((16 * n : Nat) : Int) % ((2 ^ IntKind.i64.bits : Nat) : Int)).toNat) = 16 * n by show (((16 * n : Nat) : Int) % 18446744073709551616).toNat = _; omega,
   show (((d : Int) % ((2 ^ IntKind.i64.bits : Nat) : Int)).toNat) = d by show ((d : Int) % 18446744073709551616).toNat = _; omega]
  have := Nat.two_pow_add_eq_or_of_lt (i := 4) (b := d) hd n
  rw [show 2 ^ 4 * n = 16 * n from rfl] at this
  exact this.symm
 rw [e, zhA (by omega) (by omega)]
theorem zmG (b : UInt8) : decide (hexI b < 0) = !zaj b := by
 unfold hexI
 cases zaj b with
 | true => simp only [if_true]; exact decide_eq_false (by omega)
 | false => rfl
theorem zlR : ∀ (k n : Nat) (l : Str), zaj (atS l 0) = false → hexes k n l = (n, l)
 | 0, _, _, _ => rfl
 | _ + 1, _, [], _ => rfl
 | k + 1, n, c :: r, h => by unfold hexes; rw [if_neg (by rw [show zaj c = false from h]; decide)]
theorem zqd {R : Type} {step : (Int × Int) × za → Option (LO ((Int × Int) × za) (Int × za) R)} {s l : Str} (hl : l <:+ s)
  (h : ∀ (n i : Nat) (q : Str), q <:+ s → n < 16777216 → i ≤ 6 → step (((n : Int), (i : Int)), sr s q) = some (bif decide (i < 6) && zaj (atS q 0) then .again ((((16 * n + hexN (atS q 0) : Nat) : Int), ((i + 1 : Nat) : Int)), sr s (q.drop 1)) else .out ((n : Int), sr s q))) :
  zeQ step ((0, 0), sr s l) = some (.out (((hexes 6 0 l).1 : Int), sr s (hexes 6 0 l).2)) := by
 refine zdf (fun z => ∃ (n i : Nat) (q : Str), z = (((n : Int), (i : Int)), sr s q) ∧ q <:+ s ∧ i ≤ 6 ∧ n < 16 ^ i ∧ hexes (6 - i) n q = hexes 6 0 l) (fun z => 6 - z.1.2.toNat) _ ?_ ⟨0, 0, l, rfl, hl, by omega, by decide, rfl⟩
 rintro _ ⟨n, i, q, rfl, hq, hi, hn, he⟩
 have hn' : n < 16777216 := Nat.lt_of_lt_of_le hn (Nat.pow_le_pow_right (by omega) hi : 16 ^ i ≤ 16 ^ 6)
 rw [h n i q hq hn' hi]
 rcases Nat.lt_or_ge i 6 with hlt | hge
 ·rw [decide_eq_true hlt, Bool.true_and]
  cases hx : zaj (atS q 0) with
  | true =>
   cases q with
   | nil => exact absurd hx (by decide)
   | cons c r =>
    have hd := zlQ hx
    refine .inl ⟨_, rfl, ⟨16 * n + hexN (atS (c :: r) 0), i + 1, r, rfl, zgj hq, by omega, ?_, ?_⟩, by simp only [Int.toNat_natCast]; omega⟩
    ·rw [Nat.pow_succ]; omega
    ·rw [← he, show 6 - i = (6 - (i + 1)) + 1 by omega]
     rw [hexes.eq_def ((6 - (i + 1)) + 1) n (c :: r)]
     simp only
     rw [if_pos (show zaj c = true from hx)]
     rfl
  | false =>
   refine .inr (.inl ⟨_, rfl, ?_⟩)
   rw [← he, zlR _ _ _ hx]
 ·rw [decide_eq_false (by omega), Bool.false_and]
  refine .inr (.inl ⟨_, rfl, ?_⟩)
  rw [← he, show 6 - i = 0 by omega]
  rfl
theorem zmI : ∀ (k n : Nat) (l : Str), (hexes k n l).1 < 16 ^ k * (n + 1)
 | 0, n, l => by unfold hexes; omega
 | k + 1, n, [] => by
  have : 0 < 16 ^ (k + 1) := Nat.pow_pos (by omega)
  unfold hexes
  exact Nat.lt_of_lt_of_le (Nat.lt_succ_self n) (Nat.le_mul_of_pos_left _ this)
 | k + 1, n, c :: r => by
  unfold hexes
  cases hx : zaj c with
  | true =>
   rw [if_pos rfl]
   have h1 := zmI k (16 * n + hexN c) r
   have := zlQ hx
   refine Nat.lt_of_lt_of_le h1 ?_
   rw [Nat.pow_succ, Nat.mul_assoc]
   exact Nat.mul_le_mul_left _ (by omega)
  | false =>
   rw [if_neg (by decide)]
   have : 0 < 16 ^ (k + 1) := Nat.pow_pos (by omega)
   exact Nat.lt_of_lt_of_le (Nat.lt_succ_self n) (Nat.le_mul_of_pos_left _ this)
theorem zoz {s l acc : Str} {c : UInt8} (hs : s.length ≤ big) (hr : c :: l <:+ s) (ha : acc.length ≤ 1000000000) :
  zu (sr s (c :: l), acc) = some (sr s (Zw l).2, acc ++ (Zw l).1) := by
 have hl := zgj hr
 unfold zu
 simp only [zpD hs hr, zb, ziA hs hl, Option.bind_some, zq8]
 cases l with
 | nil =>
  rw [show ([] : Str).isEmpty = true from rfl, cond_true, zle ha]
  rfl
 | cons d r =>
  rw [show (d :: r).isEmpty = false from rfl, cond_false, zsP]
  simp only [Option.bind_some, zmG]
  cases hx : zaj (atS (d :: r) 0) with
  | false =>
   rw [Bool.not_false, cond_true, zpq, zmr]
   simp only [Option.bind_some, zpD hs hl]
   rw [QL (zdU (by omega))]
   have : Zw (d :: r) = ([d], r) := by show (if zaj d then _ else _) = _; rw [if_neg (by rw [show zaj d = false from hx]; decide)]
   rw [this]
  | true =>
   rw [Bool.not_true, cond_false]
   have he : Zw (d :: r) = (zhx (hexes 6 0 (d :: r)).1, unsp (hexes 6 0 (d :: r)).2) := by show (if zaj d then _ else _) = _; rw [if_pos (show zaj d = true from hx)]
   rw [he]
   rw [zeR (zqd (l := d :: r) hl (fun n i q hq hn hi => ?_))]
   ·have hq : (hexes 6 0 (d :: r)).2 <:+ s := (zgO 6 0 _).trans hl
    have hlt := zmI 6 0 (d :: r)
    rw [show 16 ^ 6 * (0 + 1) = 16777216 from rfl] at hlt
    simp only [ziA hs hq, Option.bind_some, zpF]
    have hj : (bif spB (atS (hexes 6 0 (d :: r)).2 0) then some (LX.out (((hexes 6 0 (d :: r)).1 : Int), (⟨s, w64 ((beh s (hexes 6 0 (d :: r)).2 : Int) + 1)⟩ : za), acc)) else some (LX.out (((hexes 6 0 (d :: r)).1 : Int), sr s (hexes 6 0 (d :: r)).2, acc)) : Option (LX (Int × za × List UInt8) (za × List UInt8)))
      = some (LX.out (((hexes 6 0 (d :: r)).1 : Int), sr s (unsp (hexes 6 0 (d :: r)).2), acc)) := by
     cases hh : (hexes 6 0 (d :: r)).2 with
     | nil => rfl
     | cons e t =>
      rw [hh] at hq
      rw [show atS (e :: t) 0 = e from rfl, zpD hs hq]
      show _ = some (LX.out (_, sr s (if spB e then t else e :: t), acc))
      cases spB e <;> rfl
    rw [hj, qG]
    simp only
    by_cases h0 : (hexes 6 0 (d :: r)).1 = 0
    ·rw [h0, show ((((0 : Nat) : Int)) == 0) = true from rfl, cond_true, qG]
     simp only [zjN (show 65533 < 2147483648 by omega), show w32 (65533 : Int) = 65533 from zjN (n := 65533) (by omega), zle ha, Option.bind_some]
     rfl
    ·rw [show (((hexes 6 0 (d :: r)).1 : Int) == 0) = false by rw [beq_eq_false_iff_ne]; omega, cond_false, qG]
     simp only [zsM h0 hlt ha, Option.bind_some]
   ·simp only [ziA hs hq, Option.bind_some, zsP, zmG]
    have hb6 : decide ((i : Int) < 6) = decide (i < 6) := by rw [decide_eq_decide]; omega
    rw [hb6]
    cases decide (i < 6) with
    | false => rfl
    | true =>
     rw [cond_true, Bool.true_and]
     cases hx2 : zaj (atS q 0) with
     | false => rfl
     | true =>
      cases q with
      | nil => exact absurd hx2 (by decide)
      | cons e t =>
       have hI : hexI (atS (e :: t) 0) = (hexN (atS (e :: t) 0) : Int) := by unfold hexI; rw [if_pos hx2]
       rw [hI, zsN hn (zlQ hx2), zpD hs hq, zea (by omega) (by omega)]
       rfl
end Go.Lv.VT

namespace Go.Lv.VT
set_option maxRecDepth 100000
theorem zrs {s r : Str} {k : Nat} (hs : s.length ≤ big) (hr : r <:+ s) (hk : k ≤ 4) : zm ((k : Int), sr s r) = some (escS (r.drop k) && decide (k < r.length)) := by
 unfold zm
 simp only [zb, zpo hs hr (show k ≤ 8 by omega), Option.bind_some, zti]
 rw [show w64 ((k : Int) + 1) = ((k + 1 : Nat) : Int) by rw [zea (by omega) (by omega)]; omega, zpo hs hr (by omega)]
 unfold escS
 rw [zan, zan, Nat.add_zero]
 cases h : (atS r k == 92) with
 | false => simp only [zy, cond_false, Option.bind_some, Bool.false_and]
 | true =>
  have hlt : k < r.length := zsj (by rw [beq_iff_eq.1 h]; decide)
  rw [decide_eq_true hlt]
  simp only [zy, cond_true, Option.bind_some, Bool.true_and, Bool.and_true]
  unfold bne
  rw [ztb]
theorem zrr {l : Str} (h : escS l = true) : 0 < l.length := by
 unfold escS at h
 rw [Bool.and_eq_true] at h
 exact zsj (by rw [beq_iff_eq.1 h.1]; decide)
theorem zi2 {s r : Str} {k : Nat} (hs : s.length ≤ big) (hr : r <:+ s) (hk : k ≤ 4) : zm ((k : Int), sr s r) = some (escS (r.drop k)) := by
 rw [zrs hs hr hk]
 cases h : escS (r.drop k) with
 | false => rfl
 | true =>
  have := zrr h
  rw [List.length_drop] at this
  rw [decide_eq_true (by omega)]; rfl
theorem zqe {s r : Str} (hs : s.length ≤ big) (hr : r <:+ s) : zm (0, sr s r) = some (escS r) := zi2 (k := 0) hs hr (by omega)
theorem zsy {s r : Str} {k : Nat} (hs : s.length ≤ big) (hr : r <:+ s) (hk : k ≤ 2) : zw ((k : Int), sr s r) = some (nmS (r.drop k)) := by
 unfold zw
 have hk1 : w64 ((k : Int) + 1) = ((k + 1 : Nat) : Int) := by rw [zea (by omega) (by omega)]; omega
 simp only [hk1, zb, zpo hs hr (show k ≤ 8 by omega), zpo hs hr (show k + 1 ≤ 8 by omega), Option.bind_some, zr3, zi2 hs hr (show k ≤ 4 by omega), zi2 hs hr (show k + 1 ≤ 4 by omega)]
 unfold nmS
 rw [zan, zan, List.drop_drop]
 unfold bne
 rw [zrU, Nat.add_zero]
 cases atS r k == 45 with
 | true =>
  simp only [Bool.not_true, cond_false, if_true]
  cases fstB (atS r (k + 1)) with
  | true => rfl
  | false =>
   simp only [Bool.not_false, zy, cond_true, cond_false, Option.bind_some, zrU]
   cases atS r (k + 1) == 45 <;> cases escS (r.drop (k + 1)) <;> rfl
 | false =>
  simp only [Bool.not_false, cond_true]
  cases fstB (atS r k) <;> cases escS (r.drop k) <;> rfl
theorem zqU (n : Nat) : (zhx n).length ≤ 4 := by
 unfold zhx zo3
 repeat' split
 all_goals simp
theorem zoA (l : Str) : (Zw l).1.length ≤ 4 := by
 cases l with
 | nil => show zo3.length ≤ 4; decide
 | cons c r =>
  show (if zaj c then (zhx (hexes 6 0 (c :: r)).1, unsp (hexes 6 0 (c :: r)).2) else ([c], r)).1.length ≤ 4
  split
  ·exact zqU _
  ·show 1 ≤ 4; omega
theorem Q4 (c : UInt8) (r : Str) : Zn (c :: r) = if letB c then ((c :: (Zn r).1), (Zn r).2)
  else if escS (c :: r) then ((Zw r).1 ++ (Zn (Zw r).2).1, (Zn (Zw r).2).2)
  else ([], c :: r) := by rw [Zn]
theorem zfx : Zn [] = ([], []) := by rw [Zn]
theorem zsG (l : Str) : (pk l 0 != -1) = !l.isEmpty := by unfold bne; rw [zq8]
theorem zsX {s r : Str} (hs : s.length ≤ big) (hr : r <:+ s) : zx (sr s r) = some ((Zn r).1, sr s (Zn r).2) := by
 have hb : big = 4194304 := rfl
 unfold zx
 refine zo0 (r := ((Zn r).1, sr s (Zn r).2)) ?_
 refine zdf (fun z => ∃ (q acc : Str), z = (sr s q, acc) ∧ q <:+ s ∧ acc.length + 4 * q.length ≤ 4 * s.length ∧ acc ++ (Zn q).1 = (Zn r).1 ∧ (Zn q).2 = (Zn r).2) (fun z => s.length - z.1.at_.toNat) _ ?_ ⟨r, [], rfl, hr, by have := hr.length_le; rw [List.length_nil]; omega, rfl, rfl⟩
 rintro _ ⟨q, acc, rfl, hq, hl, he1, he2⟩
 simp only [zb, ziA hs hq, Option.bind_some, zqO]
 cases q with
 | nil =>
  refine .inr (.inr ⟨_, rfl, ?_⟩)
  rw [zfx] at he1 he2
  rw [← he1, ← he2, List.append_nil]
 | cons c t =>
  have hlen := hq.length_le
  rw [List.length_cons] at hlen hl
  rw [show atS (c :: t) 0 = c from rfl]
  rw [Q4] at he1 he2
  cases hlet : letB c with
  | true =>
   rw [hlet, if_pos rfl] at he1 he2
   refine .inl ⟨(sr s t, acc ++ [c]), ?_, ⟨t, acc ++ [c], rfl, zgj hq, by rw [List.length_append, List.length_singleton]; omega, by rw [← he1, List.append_assoc]; rfl, he2⟩, ?_⟩
   ·rw [cond_true, zpq, zmr]
    simp only [Option.bind_some]
    rw [QL (zdU (by omega)), zpD hs hq]
   ·show s.length - beh s t < s.length - beh s (c :: t)
    unfold beh; rw [List.length_cons]; omega
  | false =>
   rw [hlet, if_neg (by decide)] at he1 he2
   rw [cond_false, zsG, show (c :: t).isEmpty = false from rfl, zqe hs hq]
   cases hesc : escS (c :: t) with
   | true =>
    rw [hesc, if_pos rfl] at he1 he2
    have h4 := zoA t
    have h5 := zcw t
    refine .inl ⟨(sr s (Zw t).2, acc ++ (Zw t).1), ?_, ⟨_, _, rfl, (zeh t).trans (zgj hq), by rw [List.length_append]; omega, by rw [← he1, List.append_assoc], he2⟩, ?_⟩
    ·simp only [Bool.not_false, zy, cond_true, Option.bind_some, zoz hs hq (show acc.length ≤ 1000000000 by omega)]
    ·show s.length - beh s (Zw t).2 < s.length - beh s (c :: t)
     unfold beh; rw [List.length_cons]; omega
   | false =>
    rw [hesc, if_neg (by decide)] at he1 he2
    refine .inr (.inr ⟨_, rfl, ?_⟩)
    rw [← he1, ← he2, List.append_nil]
theorem zeW (l : Str) : (Zn l).2 <:+ l := by
 match l with
 | [] => rw [zfx]; exact List.suffix_refl _
 | c :: r =>
  rw [Q4]
  split
  ·exact (zeW r).trans (List.suffix_cons c r)
  ·split
   ·have := zcw r
    exact (zeW (Zw r).2).trans ((zeh r).trans (List.suffix_cons c r))
   ·exact List.suffix_refl _
termination_by l.length
decreasing_by
 all_goals first | (have := zcw r; simp only [List.length_cons]; omega) | (simp only [List.length_cons]; omega)
theorem zrJ {l : Str} (hl : l.length ≤ 4000) : zco l = some (if nmS l && (Zn l).2.isEmpty then ((Zn l).1, 0) else ([], 12)) := by
 have hs : l.length ≤ big := by unfold big; omega
 unfold zco
 rw [decide_eq_false (by omega), cond_false, sr_0]
 simp only [zb]
 rw [show zw (0, sr l l) = some (nmS l) from zsy (k := 0) hs (List.suffix_refl _) (by omega)]
 rw [zsX hs (List.suffix_refl _)]
 simp only [Option.bind_some]
 cases nmS l with
 | false => rfl
 | true =>
  rw [Bool.not_true, cond_false, Bool.true_and]
  have hsuf := (zeW l).length_le
  cases hE : (Zn l).2 with
  | nil =>
   have hd : decide (((beh l [] : Nat) : Int) < (l.length : Int)) = false := decide_eq_false (by unfold beh; rw [List.length_nil]; omega)
   rw [hd]; rfl
  | cons c t =>
   rw [hE, List.length_cons] at hsuf
   have hd : decide (((beh l (c :: t) : Nat) : Int) < (l.length : Int)) = true := decide_eq_true (by unfold beh; rw [List.length_cons]; omega)
   rw [hd]; rfl
end Go.Lv.VT
