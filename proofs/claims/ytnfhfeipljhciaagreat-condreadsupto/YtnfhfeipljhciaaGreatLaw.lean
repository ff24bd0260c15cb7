/- Small functions of bytes and texts: small letters, names; the program's and the reference's are the same. -/
import Derived.Test.YtnfhfeipljhciaaGreatTx
import Derived.Test.YtnfhfeipljhciaaGreatMo
import Derived.Test.YtnfhfeipljhciaaGreatIp
import Derived.Test.YtnfhfeipljhciaaGreatLf
namespace Go.Lv.VT
def smallN (n : Nat) : Nat := if 65 ≤ n ∧ n ≤ 90 then n + 32 else n
def smallB (b : UInt8) : UInt8 := UInt8.ofNat (smallN b.toNat)
theorem smallN_lt {n : Nat} (h : n < 256) : smallN n < 256 := by unfold smallN; split <;> omega
theorem smallB_nat (b : UInt8) : (smallB b).toNat = smallN b.toNat := by
  unfold smallB
  rw [UInt8.toNat_ofNat']
  exact Nat.mod_eq_of_lt (smallN_lt (UInt8.toNat_lt b))

theorem ref_small : ∀ n : Nat, n < 256 → ref01_Small (n : Int) = some ((smallN n : Nat) : Int) := by decide +kernel
theorem low_or : ∀ n : Nat, n < 256 → (bif decide (65 ≤ (n : Int)) then decide ((n : Int) ≤ 90) else false) = true → byteO (ibOr IntKind.u8 (n : Int) 32) = some (UInt8.ofNat (smallN n)) := by decide +kernel

def lowS (l : Str) : Str := l.map smallB

theorem set_take {α : Type} {l : List α} {i : Nat} (h : i < l.length) (f : α → α) : ((l.take i).map f ++ l.drop i).set i (f l[i]) = (l.take (i + 1)).map f ++ l.drop (i + 1) := by
  apply List.ext_getElem
  · simp; omega
  · intro j h1 h2
    rw [List.getElem_set]
    split
    · rename_i hij; subst hij
      rw [List.getElem_append_left (by simp; omega)]
      simp
    · rename_i hij
      simp only [List.getElem_append, List.length_map, List.length_take, List.getElem_map, List.getElem_take, List.getElem_drop]
      split
      · rename_i hlt
        rw [dif_pos (by omega)]
      · rename_i hlt
        rw [dif_neg (by omega)]
        congr 1; omega

theorem mid_get {α : Type} {l : List α} {i : Nat} (h : i < l.length) (f : α → α) : ((l.take i).map f ++ l.drop i)[i]? = some l[i] := by
  rw [List.getElem?_append_right (by simp; omega)]
  simp [h, Nat.min_eq_left (Nat.le_of_lt h)]
theorem mid_len {α : Type} {l : List α} {i : Nat} (h : i ≤ l.length) (f : α → α) : ((l.take i).map f ++ l.drop i).length = l.length := by
  simp; omega

theorem mid_same {α : Type} {l : List α} {i : Nat} (h : i < l.length) (f : α → α) (e : f l[i] = l[i]) : (l.take i).map f ++ l.drop i = (l.take (i + 1)).map f ++ l.drop (i + 1) := by
  rw [← set_take h f, e]
  apply List.ext_getElem?
  intro j
  rw [List.getElem?_set]
  split
  · rename_i hij
    subst hij
    rw [mid_get h, mid_len (Nat.le_of_lt h), if_pos h]
  · rfl
theorem nn_dec (i : Nat) : decide ((0 : Int) ≤ (i : Int)) = true := decide_eq_true (by omega)

theorem ref_Lower {l : Str} (h : l.length ≤ big) : ref01_Lower l = some (lowS l) := by
  unfold ref01_Lower
  rw [need_of (decide_eq_true (by unfold big at h; unfold maxLen; omega))]
  have key : ∀ (k i : Nat), i + k = l.length → ∃ n, iterF (X := List UInt8) (R := Str) (fun (s1 : Int × List UInt8) =>
      bif decide (s1.1 < (s1.2.length : Int)) then
        need (decide (0 ≤ s1.1) && decide (s1.1 < (s1.2.length : Int))) <|
        bindO s1.2[s1.1.toNat]? fun y2 =>
        bindO (ref01_Small (y2.toNat : Int)) fun y3 =>
        need (decide (0 ≤ s1.1) && decide (s1.1 < (s1.2.length : Int))) <|
        bindO s1.2[s1.1.toNat]? fun y4 =>
        bindO (byteO y3) fun y5 =>
        some (LO.again (w64 (s1.1 + 1), List.set s1.2 s1.1.toNat y5))
      else
        some (LO.out s1.2)) n ((i : Int), (l.take i).map smallB ++ l.drop i) = some (.out (lowS l)) := by
    intro k
    induction k with
    | zero =>
      intro i hi
      have hi : i = l.length := by omega
      subst hi
      refine ⟨1, ?_⟩
      simp only [iterF, mid_len (Nat.le_refl _), lt_self, cond_false]
      simp [lowS]
    | succ k ih =>
      intro i hi
      have hlt : i < l.length := by omega
      obtain ⟨n, hn⟩ := ih (i + 1) (by omega)
      refine ⟨n + 1, ?_⟩
      have hb := UInt8.toNat_lt l[i]
      simp only [iterF, mid_len (Nat.le_of_lt hlt), lt_true hlt, cond_true, nn_dec, Bool.and_true, need_true, Int.toNat_natCast, mid_get hlt, bindO, Option.bind_some, ref_small _ hb]
      rw [← smallB_nat, byteO_of, w64_succ hlt h]
      simp only [Option.bind_some, set_take hlt]
      exact hn
  obtain ⟨n, hn⟩ := key l.length 0 (by omega)
  replace hn := loopF_of hn
  simp only [List.take_zero, List.map_nil, List.nil_append, List.drop_zero] at hn
  exact (loopK_go hn).trans rfl

theorem prog_Lower {l : Str} (h : l.length ≤ big) : input_Lower l = some (lowS l) := by
  unfold input_Lower
  rw [need_of (decide_eq_true (by unfold big at h; unfold maxLen; omega))]
  have key : ∀ (k i : Nat), i + k = l.length → ∃ n, iterF (X := List UInt8) (R := Str) (fun (s1 : Int × List UInt8) =>
      bif decide (s1.1 < (l.length : Int)) then
        joinK (X := Int × List UInt8) (
            need (decide (0 ≤ s1.1) && decide (s1.1 < (s1.2.length : Int))) <|
            bindO s1.2[s1.1.toNat]? fun y2 =>
            bif bif decide (65 ≤ (y2.toNat : Int)) then decide ((y2.toNat : Int) ≤ 90) else false then
              need (decide (0 ≤ s1.1) && decide (s1.1 < (s1.2.length : Int))) <|
              bindO s1.2[s1.1.toNat]? fun y3 =>
              need (decide (0 ≤ s1.1) && decide (s1.1 < (s1.2.length : Int))) <|
              bindO s1.2[s1.1.toNat]? fun y4 =>
              bindO (byteO (ibOr IntKind.u8 (y3.toNat : Int) 32)) fun y5 =>
              some (LX.out (s1.1, List.set s1.2 s1.1.toNat y5))
            else
              some (LX.out (s1.1, s1.2))) fun j6 =>
        some (LO.again (w64 (j6.1 + 1), j6.2))
      else
        some (LO.out s1.2)) n ((i : Int), (l.take i).map smallB ++ l.drop i) = some (.out (lowS l)) := by
    intro k
    induction k with
    | zero =>
      intro i hi
      have hi : i = l.length := by omega
      subst hi
      refine ⟨1, ?_⟩
      simp only [iterF, lt_self, cond_false]
      simp [lowS]
    | succ k ih =>
      intro i hi
      have hlt : i < l.length := by omega
      obtain ⟨n, hn⟩ := ih (i + 1) (by omega)
      refine ⟨n + 1, ?_⟩
      have hb := UInt8.toNat_lt l[i]
      simp only [iterF, mid_len (Nat.le_of_lt hlt), lt_true hlt, cond_true, nn_dec, Bool.and_true, need_true, Int.toNat_natCast, mid_get hlt, bindO, Option.bind_some]
      cases hc : (bif decide (65 ≤ (l[i].toNat : Int)) then decide ((l[i].toNat : Int) ≤ 90) else false) with
      | true =>
        have e := low_or _ hb hc
        simp only [e, cond_true, Option.bind_some, joinK_out, w64_succ hlt h]
        rw [show UInt8.ofNat (smallN l[i].toNat) = smallB l[i] from rfl, set_take hlt]
        exact hn
      | false =>
        have e : smallB l[i] = l[i] := by
          unfold smallB smallN
          rw [if_neg, UInt8.ofNat_toNat]
          rintro ⟨h1, h2⟩
          rw [decide_eq_true (by omega), cond_true, decide_eq_true (by omega)] at hc
          cases hc
        simp only [cond_false, joinK_out, w64_succ hlt h]
        rw [mid_same hlt smallB e]
        exact hn
  obtain ⟨n, hn⟩ := key l.length 0 (by omega)
  replace hn := loopF_of hn
  simp only [List.take_zero, List.map_nil, List.nil_append, List.drop_zero] at hn
  exact (loopK_go hn).trans rfl

def noNul (l : Str) : Bool := l.all fun b => !(b == 0)
theorem idx_any (c : UInt8) : ∀ l : Str, decide (Lib.indexByte l c ≥ 0) = l.any fun b => b == c
  | [] => rfl
  | b :: l => by
    have ih := idx_any c l
    have hg := Lib.indexByte_ge l c
    rw [List.any_cons, Lib.indexByte]
    cases hb : (b == c) with
    | true => rfl
    | false =>
      rw [Bool.false_or, ← ih, if_neg (by simp)]
      by_cases h : Lib.indexByte l c = -1
      · rw [if_pos (by rw [h]; rfl), h]
      · rw [if_neg (by simpa using h)]
        rw [decide_eq_true (by omega), decide_eq_true (by omega)]
theorem nul_any (l : Str) : (l.any fun b => b == 0) = !noNul l := by
  unfold noNul
  induction l with
  | nil => rfl
  | cons b l ih => rw [List.any_cons, List.all_cons, ih]; cases (b == 0) <;> simp

theorem indexByte_eq (l : Str) (n : Int) : strings_IndexByte (l, n) = some (Lib.indexByte l n.toNat.toUInt8) := rfl
theorem idx_nul (l : Str) : decide (Lib.indexByte l (0 : Int).toNat.toUInt8 ≥ 0) = !noNul l := (idx_any 0 l).trans (nul_any l)

theorem gt_not (n m : Nat) : decide ((n : Int) > (m : Int)) = !decide (n ≤ m) := by
  by_cases h : n ≤ m
  · rw [decide_eq_true h, decide_eq_false (by omega)]; rfl
  · rw [decide_eq_false h, decide_eq_true (by omega)]; rfl
theorem byte_zero (b : UInt8) : ((b.toNat : Int) == 0) = (b == 0) := by
  by_cases h : b = 0
  · subst h; rfl
  · have h2 : b.toNat ≠ 0 := fun e => h (UInt8.toNat_inj.1 e)
    rw [beq_eq_false_iff_ne.2 h, beq_eq_false_iff_ne.2 (by omega)]

theorem beq_comm' (a b : Str) : (a == b) = (b == a) := by
  cases h : (a == b) with
  | true => rw [beq_iff_eq] at h; subst h; exact (beq_self_eq_true a).symm
  | false => rw [beq_eq_false_iff_ne] at h; exact (beq_eq_false_iff_ne.2 (Ne.symm h)).symm
theorem le_not (n m : Nat) : decide ((n : Int) ≤ (m : Int)) = decide (n ≤ m) := by
  by_cases h : n ≤ m
  · rw [decide_eq_true h, decide_eq_true (by omega)]
  · rw [decide_eq_false h, decide_eq_false (by omega)]
theorem fold_any {f : Option Int} {p : Bool} {i : Int} (h : f = some i) (hp : decide (i ≥ 0) = p) : (bindO f fun y => some (decide (y ≥ 0))) = some p := by
  rw [h]; exact congrArg some hp

theorem hasPrefix_eq (l m : Str) : strings_HasPrefix (l, m) = some (m.isPrefixOf l) := by
  have key : ∀ m l : Str, m.isPrefixOf l = (decide (m.length ≤ l.length) && l.take m.length == m) := by
    intro m l
    rw [Bool.eq_iff_iff]
    simp only [List.isPrefixOf_iff_prefix, Bool.and_eq_true, decide_eq_true_eq, beq_iff_eq]
    constructor
    · rintro ⟨t, rfl⟩
      exact ⟨by simp, by simp⟩
    · rintro ⟨h1, h2⟩
      exact ⟨l.drop m.length, by rw [← h2, List.length_take, Nat.min_eq_left h1, List.take_append_drop]⟩
  unfold strings_HasPrefix stringslite_HasPrefix
  have e1 : decide ((l.length : Int) ≥ (m.length : Int)) = decide (m.length ≤ l.length) := le_not _ _
  have e2 : decide ((m.length : Int) ≤ (l.length : Int)) = decide (m.length ≤ l.length) := le_not _ _
  simp only [e1, e2, nn_dec, Bool.true_and, key]
  cases decide (m.length ≤ l.length) <;> rfl
theorem trimPrefix_eq (l m : Str) : strings_TrimPrefix (l, m) = some (bif m.isPrefixOf l then l.drop m.length else l) := by
  have h : stringslite_HasPrefix (l, m) = some (m.isPrefixOf l) := by
    have := hasPrefix_eq l m
    unfold strings_HasPrefix at this
    cases hh : stringslite_HasPrefix (l, m) with
    | none => simp only [hh] at this; cases this
    | some b => simp only [hh] at this; exact this
  unfold strings_TrimPrefix stringslite_TrimPrefix
  simp only [h, bindO, Option.bind_some]
  cases hp : m.isPrefixOf l with
  | false => rfl
  | true =>
    have hl := (List.isPrefixOf_iff_prefix.1 hp).length_le
    simp only [cond_true, nn_dec, Bool.true_and]
    rw [need_of (decide_eq_true (by omega))]
    rfl

theorem prog_Alike {a b : Str} (h1 : a.length ≤ big) (h2 : b.length ≤ big) : input_Alike (a, b) = some (lowS a == lowS b) := by
  unfold input_Alike
  simp only [prog_Lower h1, prog_Lower h2, bindO, Option.bind_some]
theorem ref_Alike {a b : Str} (h1 : a.length ≤ big) (h2 : b.length ≤ big) : ref01_Alike (a, b) = some (lowS a == lowS b) := by
  unfold ref01_Alike
  simp only [ref_Lower h1, ref_Lower h2, bindO, Option.bind_some]
end Go.Lv.VT

namespace Go.Lv.VT
def zL {α : Type} (f : α → List PV) (l : List α) : Nat := bRows (l.map f)
theorem zL_nil {α : Type} (f : α → List PV) : zL f [] = 0 := rfl
theorem zL_cons {α : Type} (f : α → List PV) (v : α) (l : List α) : zL f (v :: l) = bCells (f v) + zL f l := rfl
theorem zL_mem {α : Type} {f : α → List PV} {v : α} : ∀ {l : List α}, v ∈ l → bCells (f v) ≤ zL f l
  | [], h => by cases h
  | x :: l, h => by
    rw [zL_cons]
    rcases List.mem_cons.1 h with rfl | h
    · omega
    · have := zL_mem (f := f) h; omega
theorem zL_len {α : Type} {f : α → List PV} (hf : ∀ v, 1 ≤ bCells (f v)) : ∀ (l : List α), l.length ≤ zL f l
  | [] => Nat.le_refl _
  | v :: l => by rw [zL_cons, List.length_cons]; have := zL_len hf l; have := hf v; omega
theorem zL_sub {α : Type} {f : α → List PV} {a b : List α} (h : a.Sublist b) : zL f a ≤ zL f b := by
  induction h with
  | slnil => exact Nat.le_refl _
  | cons v _ ih => rw [zL_cons]; omega
  | cons_cons v _ ih => rw [zL_cons, zL_cons]; omega


theorem zValue_eq (x : VValue) : bCells (enc_VValue x) = 6 + x.token.text.length + x.token.unit.length + zL enc_VValue x.list := by
  rw [enc_VValue_eta]
  simp only [bCells, bPV, zL]
  omega
theorem zDecl_eq (x : VDecl) : bCells (enc_VDecl x) = 3 + x.name.length + zL enc_VValue x.value := by
  unfold enc_VDecl
  simp only [bCells, bPV, zL]
  omega
theorem zCond_eq (x : VCond) : bCells (enc_VCond x) = 4 + x.name.length + bCells (enc_VDecl x.decl) + zL enc_VCond x.list - 1 + 1 := by
  rw [zDecl_eq]
  rw [enc_VCond_eta]
  simp only [bCells, bPV, zL]
  omega
theorem zValue_pos (x : VValue) : 1 ≤ bCells (enc_VValue x) := by have := zValue_eq x; omega
theorem zDecl_pos (x : VDecl) : 1 ≤ bCells (enc_VDecl x) := by have := zDecl_eq x; omega
theorem zCond_pos (x : VCond) : 1 ≤ bCells (enc_VCond x) := by have := zCond_eq x; omega
end Go.Lv.VT

namespace Go.Lv.VT
theorem isEmpty_len {α : Type} (l : List α) : ((l.length : Int) == 0) = l.isEmpty := by
  cases l with
  | nil => rfl
  | cons a l => exact beq_eq_false_iff_ne.2 (by simp only [List.length_cons]; omega)
end Go.Lv.VT

namespace Go.Lv.VT
section
end
end Go.Lv.VT

namespace Go.Lv.VT
section
end
end Go.Lv.VT

namespace Go.Lv.VT
section
end
theorem loopK_while {R : Type} {step : Int → Option (LO Int Unit R)} {k : Unit → Option R} (n : Nat) (p : Nat → Bool) (r : R)
    (hg : ∀ (i : Nat), i < n → step (i : Int) = some (bif p i then .again ((i + 1 : Nat) : Int) else .ret r)) (hf : step (n : Int) = some (.out ())) :
    loopK step 0 k = bif (List.range n).all p then k () else some r := by
  have e := loopK_find (k := k) (List.range n) (fun i => bif p i then none else some r) () (fun i hi => ?_) (by simpa using hf)
  · rw [e, find_all]
    cases (List.range n).all p <;> rfl
  · have hi' : i < n := by simpa using hi
    rw [hg i hi']
    simp only [List.getElem_range]
    cases p i <;> rfl

end Go.Lv.VT

namespace Go.Lv.VT
theorem w64_add {a b : Nat} (h : a + b ≤ big) : w64 ((a : Int) + (b : Int)) = ((a + b : Nat) : Int) := by
  rw [w64, wrap64_id (by omega) (by unfold big at h; omega)]; omega

end Go.Lv.VT

namespace Go.Lv.VT
mutual
/-- How large values are. -/
def szV : VValue → Nat
  | ⟨t, l⟩ => 1 + t.text.length + t.unit.length + szL l
def szL : List VValue → Nat
  | [] => 0
  | v :: r => szV v + szL r
end
theorem szV_eq (v : VValue) : szV v = 1 + v.token.text.length + v.token.unit.length + szL v.list := by
  obtain ⟨t, l⟩ := v; rw [szV]
theorem szL_mem {v : VValue} : ∀ {l : List VValue}, v ∈ l → szV v ≤ szL l
  | [], h => by cases h
  | x :: l, h => by
    rw [szL]
    rcases List.mem_cons.1 h with rfl | h
    · omega
    · have := szL_mem h; omega
theorem szL_len : ∀ (l : List VValue), l.length ≤ szL l
  | [] => Nat.le_refl _
  | v :: r => by rw [szL, szV_eq, List.length_cons]; have := szL_len r; omega

theorem pos_dec (n : Nat) : decide ((n : Int) > 0) = decide (0 < n) := by
  by_cases h : 0 < n
  · rw [decide_eq_true h, decide_eq_true (by omega)]
  · rw [decide_eq_false h, decide_eq_false (by omega)]
def closerS (k : Int) : Int := if k = 19 then 20 else if k = 21 ∨ k = 2 then 22 else if k = 23 then 24 else 0

theorem ref_closer (k : Int) : ref04_Closer k = some (closerS k) := by
  unfold ref04_Closer closerS
  by_cases h1 : k = 19
  · subst h1; rfl
  by_cases h2 : k = 21
  · subst h2; rfl
  by_cases h3 : k = 2
  · subst h3; rfl
  by_cases h4 : k = 23
  · subst h4; rfl
  have e1 : (k == 19) = false := beq_eq_false_iff_ne.2 h1
  have e2 : (k == 21) = false := beq_eq_false_iff_ne.2 h2
  have e3 : (k == 2) = false := beq_eq_false_iff_ne.2 h3
  have e4 : (k == 23) = false := beq_eq_false_iff_ne.2 h4
  simp only [e1, e2, e3, e4, cond_false, joinK_out, h1, h2, h3, h4, if_false, or_self]
theorem nest_closer_eq (k : Int) : nest_closer k = some (closerS k) := by
  unfold nest_closer closerS
  by_cases h1 : k = 19
  · subst h1; rfl
  by_cases h2 : k = 21
  · subst h2; rfl
  by_cases h3 : k = 2
  · subst h3; rfl
  by_cases h4 : k = 23
  · subst h4; rfl
  have e1 : (k == 19) = false := beq_eq_false_iff_ne.2 h1
  have e2 : (k == 21) = false := beq_eq_false_iff_ne.2 h2
  have e3 : (k == 2) = false := beq_eq_false_iff_ne.2 h3
  have e4 : (k == 23) = false := beq_eq_false_iff_ne.2 h4
  simp only [e1, e2, e3, e4, cond_false, joinK_out, h1, h2, h3, h4, if_false, or_self]

mutual
/-- The depth of values. -/
def deepV : VValue → Nat
  | ⟨t, l⟩ => if closerS t.kind = 0 then 0 else 1 + deepL l
def deepL : List VValue → Nat
  | [] => 0
  | v :: r => max (deepV v) (deepL r)
end
theorem deepV_eq (v : VValue) : deepV v = if closerS v.token.kind = 0 then 0 else 1 + deepL v.list := by
  obtain ⟨t, l⟩ := v; rw [deepV]
mutual
theorem deepV_le : ∀ v : VValue, deepV v ≤ szV v
  | ⟨t, l⟩ => by
    rw [deepV, szV]
    have := deepL_le l
    split <;> omega
theorem deepL_le : ∀ l : List VValue, deepL l ≤ szL l
  | [] => Nat.le_refl _
  | v :: r => by
    rw [deepL, szL]
    have := deepV_le v
    have := deepL_le r
    omega
end
theorem foldl_max (f : VValue → Nat) : ∀ (l : List VValue) (a : Nat), l.foldl (fun a v => max a (f v)) a = max a (l.foldr (fun v a => max (f v) a) 0)
  | [], a => by simp
  | v :: l, a => by rw [List.foldl_cons, foldl_max f l, List.foldr_cons]; omega
theorem deepL_eq : ∀ (l : List VValue), deepL l = l.foldr (fun v a => max (deepV v) a) 0
  | [] => by rw [deepL]; rfl
  | v :: l => by rw [deepL, deepL_eq l]; rfl

theorem ref_deep {l : List VValue} (h : szL l ≤ big) : ref04_Deep l = some (deepL l : Int) := by
  refine recE_meas (fun l => szL l) (fun l => szL l ≤ big) (fun l => (deepL l : Int)) (fun S l hl hS => ?_) h
  unfold ref04_Deep_B
  have hlen := szL_len l
  refine (loopK_ov l (fun i (a : Nat) => ((a : Int), (i : Int))) (fun v a => some (.again (max a (deepV v)))) (fun a => some (.out (a : Int))) (a := 0) rfl (fun i a hi => ?_) (fun a => ?_) (r := .out (deepL l : Int)) ?_)
  · have hsz := szL_mem (List.getElem_mem hi)
    have hv2 := szV_eq l[i]
    have hd := deepV_eq l[i]
    have hd2 := deepL_le l[i].list
    simp only [lt_true hi, cond_true, bindO, geti_eq hi, Option.bind_some, ref_closer]
    by_cases hc : closerS l[i].token.kind = 0
    · rw [if_pos hc] at hd
      simp [hc, hd, w64_succ hi (by omega)]
    · rw [if_neg hc] at hd
      rw [hS l[i].list (by omega) (by omega)]
      have hw : w64 (1 + (deepL l[i].list : Int)) = ((1 + deepL l[i].list : Nat) : Int) := by
        rw [w64, wrap64_id (by omega) (by unfold big at hl; omega)]; omega
      simp only [bne_iff_ne.2 hc, cond_true, Option.bind_some, joinK_out, w64_succ hi (by omega), hw, hd, Option.map_some]
      congr 3
      split <;> omega
  · simp only [lt_self, cond_false]
    rfl
  · rw [overL_fold (fun a v => max a (deepV v)) (fun v a => rfl), foldl_max, ← deepL_eq]
    simp

theorem szL_take {l : List VValue} : ∀ {i : Nat} (h : i < l.length), szL (l.take (i + 1)) = szL (l.take i) + szV l[i] := by
  induction l with
  | nil => intro i h; cases h
  | cons v r ih =>
    intro i h
    cases i with
    | zero => simp [szL]
    | succ i =>
      simp only [List.take_succ_cons, szL, List.getElem_cons_succ]
      rw [ih (by simpa using h)]
      omega
theorem szL_take_le (l : List VValue) (i : Nat) : szL (l.take i) ≤ szL l := by
  induction l generalizing i with
  | nil => simp
  | cons v r ih =>
    cases i with
    | zero => simp [szL]
    | succ i => simp only [List.take_succ_cons, szL]; have := ih i; omega

mutual
/-- The tokens of values. -/
def tokV : VValue → List VToken
  | ⟨t, l⟩ => t :: if closerS t.kind = 0 then [] else tokL l ++ [⟨closerS t.kind, [], 0, [], false⟩]
def tokL : List VValue → List VToken
  | [] => []
  | v :: r => tokV v ++ tokL r
end
theorem tokV_eq (v : VValue) : tokV v = v.token :: if closerS v.token.kind = 0 then [] else tokL v.list ++ [⟨closerS v.token.kind, [], 0, [], false⟩] := by
  obtain ⟨t, l⟩ := v; rw [tokV]
mutual
theorem tokV_le : ∀ v : VValue, (tokV v).length ≤ 2 * szV v
  | ⟨t, l⟩ => by
    rw [tokV, szV]
    have := tokL_le l
    split
    · simp; omega
    · simp; omega
theorem tokL_le : ∀ l : List VValue, (tokL l).length ≤ 2 * szL l
  | [] => Nat.le_refl _
  | v :: r => by
    rw [tokL, szL, List.length_append]
    have := tokV_le v
    have := tokL_le r
    omega
end
theorem tokL_fold : ∀ (l : List VValue) (a : List VToken), l.foldl (fun a v => a ++ tokV v) a = a ++ tokL l
  | [], a => by simp [tokL]
  | v :: l, a => by rw [List.foldl_cons, tokL_fold l, tokL, List.append_assoc]

theorem ref_tokens {l : List VValue} (h : szL l ≤ big) : ref04_Tokens l = some (tokL l) := by
  refine recE_meas (fun l => szL l) (fun l => szL l ≤ big) (fun l => tokL l) (fun S l hl hS => ?_) h
  unfold ref04_Tokens_B
  have hlen := szL_len l
  refine (loopK_oi l (fun i (a : List VToken) => ((i : Int), a)) (fun v a => some (.again (a ++ tokV v))) (fun a => some (.out a)) (fun i a => a.length ≤ 2 * szL (l.take i)) (a := []) rfl (by simp) (fun i a hi hI => ?_) (fun a _ => ?_) (r := .out (tokL l)) ?_)
  · have hsz := szL_mem (List.getElem_mem hi)
    have hv2 := szV_eq l[i]
    have hd := tokV_eq l[i]
    have hd2 := tokL_le l[i].list
    have ht := szL_take hi
    have ht2 := szL_take_le l (i + 1)
    have hv3 := tokV_le l[i]
    unfold big at hl
    have hap : ∀ n m : Nat, n + m ≤ 100000000 → appOk n m 56 = true := fun n m h => appOk_of (by omega)
    refine ⟨?_, fun a' ha => ?_⟩
    · simp only [lt_true hi, cond_true, bindO, geti_eq hi, Option.bind_some, ref_closer]
      by_cases hc : closerS l[i].token.kind = 0
      · rw [if_pos hc] at hd
        simp [hc, hd, w64_succ hi (by unfold big; omega), hap a.length 1 (by omega)]
      · rw [if_neg hc] at hd
        rw [hS l[i].list (by unfold big; omega) (by omega)]
        have hb : (closerS l[i].token.kind != 0) = true := bne_iff_ne.2 hc
        simp [hb, hd, w64_succ hi (by unfold big; omega), hap a.length 1 (by omega), hap (a.length + 1) (tokL l[i].list).length (by omega), hap (a.length + ((tokL l[i].list).length + 1)) 1 (by omega)]
    · cases ha
      rw [List.length_append, ht]
      omega
  · simp only [lt_self, cond_false]
    rfl
  · rw [overL_fold (fun a v => a ++ tokV v) (fun v a => rfl), tokL_fold]
    simp

mutual
/-- Whether lists are those of blocks, and have not their closers. -/
def shV : VValue → Int → Bool
  | ⟨t, l⟩, c => !((closerS t.kind == 0 && decide (0 < l.length)) || (c != 0 && t.kind == c) || (closerS t.kind != 0 && !(shL l (closerS t.kind))))
def shL : List VValue → Int → Bool
  | [], _ => true
  | v :: r, c => shV v c && shL r c
end
theorem shV_eq (v : VValue) (c : Int) : shV v c = !((closerS v.token.kind == 0 && decide (0 < v.list.length)) || (c != 0 && v.token.kind == c) || (closerS v.token.kind != 0 && !(shL v.list (closerS v.token.kind)))) := by
  obtain ⟨t, l⟩ := v; rw [shV]

theorem ref_shaped {l : List VValue} {c : Int} (h : szL l ≤ big) : ref04_shaped (l, c) = some (shL l c) := by
  refine recE_meas (fun x : List VValue × Int => szL x.1) (fun x => szL x.1 ≤ big) (fun x => shL x.1 x.2) (fun S x hl hS => ?_) h
  obtain ⟨l, c⟩ := x
  simp only at hl hS ⊢
  unfold ref04_shaped_B
  have hlen := szL_len l
  have hov : ∀ l : List VValue, overL (fun v (_ : Unit) => if shV v c = true then some (.again ()) else some (.ret false)) (fun _ => some (.out ())) l () = some (if shL l c = true then .out () else .ret false) := by
    intro l
    induction l with
    | nil => simp [overL, shL]
    | cons v r ih =>
      by_cases hv : shV v c = true
      · simpa [overL, shL, hv] using ih
      · simp [overL, shL, hv]
  refine (loopK_ov l (fun i (_ : Unit) => (i : Int)) (fun v (_ : Unit) => if shV v c = true then some (.again ()) else some (.ret false)) (fun _ => some (.out ())) (a := ()) rfl (fun i a hi => ?_) (fun a => ?_) (hov l)).trans ?_
  · have hsz := szL_mem (List.getElem_mem hi)
    have hv2 := szV_eq l[i]
    have hd := shV_eq l[i] c
    simp only [lt_true hi, cond_true, bindO, geti_eq hi, Option.bind_some, ref_closer]
    have hs1 : szL l[i].list ≤ big := by omega
    have hs2 : szL l[i].list < szL l := by omega
    have hSq : ∀ c', S (l[i].list, c') = some (shL l[i].list c') := fun c' => hS (l[i].list, c') hs1 hs2
    rw [hd]
    have hp : decide ((l[i].list.length : Int) > 0) = decide (0 < l[i].list.length) := pos_dec _
    have hw := w64_succ hi (by omega)
    simp only [bne, hp]
    rcases Bool.eq_false_or_eq_true (closerS l[i].token.kind == 0) with h1 | h1 <;> rcases Bool.eq_false_or_eq_true (decide (0 < l[i].list.length)) with h2 | h2 <;> rcases Bool.eq_false_or_eq_true (c == 0) with h3 | h3 <;> rcases Bool.eq_false_or_eq_true (l[i].token.kind == c) with h4 | h4 <;> rcases Bool.eq_false_or_eq_true (shL l[i].list (closerS l[i].token.kind)) with h5 | h5 <;>
      simp only [hSq, hp, h1, h2, h3, h4, h5, hw, cond_true, cond_false, Bool.not_true, Bool.not_false, Bool.and_true, Bool.and_false, Bool.true_and, Bool.false_and, Bool.or_true, Bool.or_false, Bool.true_or, Bool.false_or, condO_true, condO_false, Option.bind_some, if_true, if_false, Option.map_some, Bool.false_eq_true]
  · simp only [lt_self, cond_false]
    rfl
  · cases h : shL l c <;> simp

def foundS (l : List VValue) (c : Int) : Vnest_found := ⟨deepL l, (tokL l).length, !(shL l c)⟩
theorem look_fold (c : Int) : ∀ (l : List VValue) (a : Nat × Nat × Bool), l.foldl (fun a v => (max a.1 (deepV v), a.2.1 + (tokV v).length, a.2.2 || !(shV v c))) a = (max a.1 (deepL l), a.2.1 + (tokL l).length, a.2.2 || !(shL l c))
  | [], a => by simp [deepL, tokL, shL]
  | v :: l, a => by
    rw [List.foldl_cons, look_fold c l, deepL, tokL, shL, List.length_append]
    simp only [Prod.mk.injEq]
    refine ⟨by omega, by omega, ?_⟩
    cases a.2.2 <;> cases shV v c <;> cases shL l c <;> rfl

theorem cond_or (a b : Bool) : (bif a then true else b) = (a || b) := by cases a <;> rfl
theorem cond_and (a b : Bool) : (bif a then b else false) = (a && b) := by cases a <;> rfl

theorem nest_look_eq {l : List VValue} {c : Int} (h : szL l ≤ big) : nest_look (l, c) = some (foundS l c) := by
  refine recE_meas (fun x : List VValue × Int => szL x.1) (fun x => szL x.1 ≤ big) (fun x => foundS x.1 x.2) (fun S x hl hS => ?_) h
  obtain ⟨l, c⟩ := x
  simp only at hl hS ⊢
  unfold nest_look_B
  have hlen := szL_len l
  refine (loopK_oi l (fun i (a : Nat × Nat × Bool) => ((i : Int), (⟨(a.1 : Int), (a.2.1 : Int), a.2.2⟩ : Vnest_found))) (fun v a => some (.again (max a.1 (deepV v), a.2.1 + (tokV v).length, a.2.2 || !(shV v c)))) (fun a => some (.out (⟨(a.1 : Int), (a.2.1 : Int), a.2.2⟩ : Vnest_found))) (fun i a => a.2.1 ≤ 2 * szL (l.take i)) (a := (0, 0, false)) rfl (by simp) (fun i a hi hI => ?_) (fun a _ => ?_) (r := .out (foundS l c)) ?_)
  · have hsz := szL_mem (List.getElem_mem hi)
    have hv2 := szV_eq l[i]
    have hd := deepV_eq l[i]
    have hd2 := deepL_le l[i].list
    have ht := tokV_eq l[i]
    have ht2 := tokL_le l[i].list
    have hsh := shV_eq l[i] c
    have htk := szL_take hi
    have htk2 := szL_take_le l (i + 1)
    have hv3 := tokV_le l[i]
    have hs1 : szL l[i].list ≤ big := by omega
    have hs2 : szL l[i].list < szL l := by omega
    have hSq : S (l[i].list, closerS l[i].token.kind) = some (foundS l[i].list (closerS l[i].token.kind)) := hS (l[i].list, closerS l[i].token.kind) hs1 hs2
    obtain ⟨d, n, b⟩ := a
    simp only at hI
    have hw := w64_succ hi (by omega)
    unfold big at hl
    have hw1 : w64 ((n : Int) + 1) = ((n + 1 : Nat) : Int) := by rw [w64, wrap64_id (by omega) (by omega)]; omega
    refine ⟨?_, fun a' ha => ?_⟩
    · have hp : decide ((l[i].list.length : Int) > 0) = decide (0 < l[i].list.length) := pos_dec _
      simp only [lt_true hi, cond_true, bindO, geti_eq hi, Option.bind_some, nest_closer_eq, Option.map_some, hw1, bne, hp, cond_or, cond_and]
      by_cases hc : closerS l[i].token.kind = 0
      · rw [if_pos hc] at hd ht
        simp only [hc, beq_self_eq_true, Bool.true_and, Bool.not_true, Bool.false_and, Bool.or_false, bne] at hsh ⊢
        rw [hsh, hd, ht]
        rcases Bool.eq_false_or_eq_true (decide (0 < l[i].list.length)) with h2 | h2 <;> rcases Bool.eq_false_or_eq_true (c == 0) with h3 | h3 <;> rcases Bool.eq_false_or_eq_true (l[i].token.kind == c) with h4 | h4 <;>
          simp [h2, h3, h4, hw, cond_true, cond_false]
      · rw [if_neg hc] at hd ht
        have hcb : (closerS l[i].token.kind == 0) = false := beq_eq_false_iff_ne.2 hc
        have hw2 : w64 ((deepL l[i].list : Int) + 1) = ((1 + deepL l[i].list : Nat) : Int) := by rw [w64, wrap64_id (by omega) (by omega)]; omega
        have hw3 : w64 (((n + 1 : Nat) : Int) + ((tokL l[i].list).length : Int)) = ((n + 1 + (tokL l[i].list).length : Nat) : Int) := by rw [w64, wrap64_id (by omega) (by omega)]; omega
        have hw4 : w64 (((n + 1 + (tokL l[i].list).length : Nat) : Int) + 1) = ((n + (1 + ((tokL l[i].list).length + 1)) : Nat) : Int) := by rw [w64, wrap64_id (by omega) (by omega)]; omega
        have htl : (tokV l[i]).length = 1 + ((tokL l[i].list).length + 1) := by rw [ht]; simp; omega
        have hm : (if ((1 + deepL l[i].list : Nat) : Int) > (d : Int) then ((1 + deepL l[i].list : Nat) : Int) else (d : Int)) = ((max d (1 + deepL l[i].list) : Nat) : Int) := by split <;> omega
        rw [hsh, hd, htl]
        simp only [hcb, hSq, Bool.false_and, Bool.not_false, Bool.true_and, Bool.or_false, Bool.false_or, cond_false, bne, Option.bind_some, foundS]
        rcases Bool.eq_false_or_eq_true (c == 0) with h3 | h3 <;> rcases Bool.eq_false_or_eq_true (l[i].token.kind == c) with h4 | h4 <;>
          simp only [h3, h4, hw, hw2, hw3, hw4, hm, cond_true, cond_false, joinK_out, Bool.not_true, Bool.not_false, Bool.true_and, Bool.and_true, Bool.and_false, Bool.false_and, Bool.or_true, Bool.or_false, Bool.true_or, Bool.false_or, Bool.not_not]
    · cases ha
      simp only
      omega
  · simp only [lt_self, cond_false]
    rfl
  · rw [overL_fold (fun a v => (max a.1 (deepV v), a.2.1 + (tokV v).length, a.2.2 || !(shV v c))) (fun v a => rfl), look_fold]
    simp [foundS]

end Go.Lv.VT

namespace Go.Lv.VT
theorem szL_sub {a b : List VValue} (h : a.Sublist b) : szL a ≤ szL b := by
  induction h with
  | slnil => exact Nat.le_refl _
  | cons v _ ih => rw [szL]; omega
  | cons_cons v _ ih => rw [szL, szL]; omega

theorem nil_or_snoc (l : List VValue) : l = [] ∨ ∃ t v, l = t ++ [v] := by
  rcases List.eq_nil_or_concat l with h | ⟨t, v, h⟩
  · exact .inl h
  · exact .inr ⟨t, v, by rw [h, List.concat_eq_append]⟩

def isSp (v : VValue) : Bool := v.token.kind == 13
def trimB (l : List VValue) : List VValue := (l.reverse.dropWhile isSp).reverse
theorem trimB_nil : trimB [] = [] := rfl
theorem trimB_snoc (t : List VValue) (v : VValue) : trimB (t ++ [v]) = if isSp v then trimB t else t ++ [v] := by
  unfold trimB
  rw [List.reverse_append]
  simp only [List.reverse_cons, List.reverse_nil, List.nil_append, List.cons_append, List.dropWhile_cons]
  split
  · rfl
  · simp
theorem trimB_sub (l : List VValue) : (trimB l).Sublist l := by
  unfold trimB
  have := List.dropWhile_sublist isSp (l := l.reverse)
  simpa using this.reverse
def trimS (l : List VValue) : List VValue := trimB (l.dropWhile isSp)
theorem drop_dw (p : VValue → Bool) : ∀ (l : List VValue), l.drop (l.length - (l.dropWhile p).length) = l.dropWhile p
  | [] => rfl
  | v :: r => by
    rw [List.dropWhile_cons]
    split
    · have h := List.Sublist.length_le (List.dropWhile_sublist p (l := r))
      rw [List.length_cons, Nat.succ_sub h, List.drop_succ_cons]
      exact drop_dw p r
    · simp

theorem ref_trimmed {l : List VValue} (h : szL l ≤ big) : ref04_Trimmed l = some (trimS l) := by
  unfold ref04_Trimmed
  refine (loopK_go (r := .out (l.dropWhile isSp)) (loopF_inv (fun s => s.dropWhile isSp = l.dropWhile isSp) (fun s => s.length) _ (fun s hs => ?_) rfl)).trans ?_
  · cases s with
    | nil => exact .inr (.inl ⟨[], by simp, by rw [← hs]; rfl⟩)
    | cons v t =>
      have h1 : decide (((v :: t).length : Int) > 0) = true := by rw [pos_dec]; simp
      have h2 : geti (v :: t) 0 = some v := rfl
      have h3 : decide ((1 : Int) ≤ ((v :: t).length : Int)) = true := by simp; omega
      rw [List.dropWhile_cons] at hs
      cases hv : isSp v with
      | true =>
        rw [hv] at hs
        unfold isSp at hv
        refine .inl ⟨t, ?_, by simpa using hs, by simp⟩
        simp only [h1, h2, h3, condO_true, bindO, Option.bind_some, hv, cond_true, need_true]
        rfl
      | false =>
        rw [hv] at hs
        unfold isSp at hv
        refine .inr (.inl ⟨v :: t, ?_, by rw [← hs]; rfl⟩)
        simp only [h1, h2, condO_true, bindO, Option.bind_some, hv, cond_true, cond_false]
  · rw [go_out]
    have hd : szL (l.dropWhile isSp) ≤ big := Nat.le_trans (szL_sub (List.dropWhile_sublist _)) h
    unfold trimS
    generalize l.dropWhile isSp = d at hd
    refine (loopK_go (r := .out (trimB d)) (loopF_inv (fun s => trimB s = trimB d ∧ szL s ≤ big) (fun s => s.length) _ (fun s hs => ?_) ⟨rfl, hd⟩)).trans ?_
    · rcases nil_or_snoc s with rfl | ⟨t, v, rfl⟩
      · exact .inr (.inl ⟨[], by simp, by rw [← hs.1]; rfl⟩)
      · have hlen := szL_len (t ++ [v])
        have hl2 : (t ++ [v]).length = t.length + 1 := by simp
        have hb := hs.2
        unfold big at hb
        have h1 : decide (((t ++ [v]).length : Int) > 0) = true := by rw [pos_dec]; simp
        have h4 : w64 (((t ++ [v]).length : Int) - 1) = (t.length : Int) := by rw [w64, wrap64_id (by omega) (by omega)]; omega
        have h2 : geti (t ++ [v]) (t.length : Int) = some v := by rw [geti_eq (by omega)]; simp
        have h3 : (decide ((0 : Int) ≤ (t.length : Int)) && decide ((t.length : Int) ≤ ((t ++ [v]).length : Int))) = true := by simp; omega
        have hs1 := hs.1
        rw [trimB_snoc] at hs1
        cases hv : isSp v with
        | true =>
          rw [if_pos hv] at hs1
          unfold isSp at hv
          refine .inl ⟨t, ?_, ⟨hs1, Nat.le_trans (szL_sub (List.sublist_append_left t [v])) hs.2⟩, by simp⟩
          simp only [h1, h4, h2, h3, condO_true, bindO, Option.bind_some, hv, cond_true, need_true, Int.toNat_natCast]
          simp
        | false =>
          rw [if_neg (by rw [hv]; simp)] at hs1
          unfold isSp at hv
          refine .inr (.inl ⟨t ++ [v], ?_, by rw [← hs1]⟩)
          simp only [h1, h4, h2, condO_true, bindO, Option.bind_some, hv, cond_true, cond_false]
    · rw [go_out]

def errS (l : List VValue) : Int := if 16 < deepL l then 20 else if 1500 < (tokL l).length then 4 else if shL l 0 then 0 else 8
theorem ref_check {l : List VValue} (h : szL l ≤ big) : ref04_Check l = some (errS l) := by
  unfold ref04_Check errS
  simp only [bindO, ref_deep h, ref_tokens h, ref_shaped h, Option.bind_some]
  by_cases h1 : 16 < deepL l
  · have : decide ((deepL l : Int) > 16) = true := decide_eq_true (by omega)
    simp [this, h1]
  · have : decide ((deepL l : Int) > 16) = false := decide_eq_false (by omega)
    by_cases h2 : 1500 < (tokL l).length
    · have h3 : decide (((tokL l).length : Int) > 1500) = true := decide_eq_true (by omega)
      simp [this, h1, h2, h3]
    · have h3 : decide (((tokL l).length : Int) > 1500) = false := decide_eq_false (by omega)
      cases h4 : shL l 0 <;> simp [this, h1, h2, h3]
theorem nest_check {l : List VValue} (h : szL l ≤ big) : nest_Check l = some (errS l) := by
  unfold nest_Check errS
  simp only [bindO, nest_look_eq h, Option.bind_some, foundS]
  by_cases h1 : 16 < deepL l
  · have : decide ((deepL l : Int) > 16) = true := decide_eq_true (by omega)
    simp [this, h1]
  · have : decide ((deepL l : Int) > 16) = false := decide_eq_false (by omega)
    by_cases h2 : 1500 < (tokL l).length
    · have h3 : decide (((tokL l).length : Int) > 1500) = true := decide_eq_true (by omega)
      simp [this, h1, h2, h3]
    · have h3 : decide (((tokL l).length : Int) > 1500) = false := decide_eq_false (by omega)
      cases h4 : shL l 0 <;> simp [this, h1, h2, h3]

theorem nest_depth {l : List VValue} (h : szL l ≤ big) : nest_Depth l = some (if errS l = 0 then ((deepL l : Int), 0) else (0, errS l)) := by
  unfold nest_Depth
  simp only [bindO, nest_check h, nest_look_eq h, Option.bind_some, foundS]
  by_cases h1 : errS l = 0
  · simp [h1]
  · have h2 : (errS l != 0) = true := bne_iff_ne.2 h1
    simp [h1, h2]

theorem szL_zL : ∀ l : List VValue, szL l ≤ zL enc_VValue l := by
  have key : ∀ (n : Nat) (l : List VValue), zL enc_VValue l < n → szL l ≤ zL enc_VValue l := by
    intro n
    induction n with
    | zero => intro l h; omega
    | succ n ih =>
      intro l
      induction l with
      | nil => intro _; rw [szL]; exact Nat.zero_le _
      | cons v l ihl =>
        intro h
        rw [zL_cons] at h ⊢
        rw [szL, szV_eq]
        have hz := zValue_eq v
        have h1 := ih v.list (by omega)
        have h2 := ihl (by omega)
        omega
  exact fun l => key _ l (Nat.lt_succ_self _)

theorem flat3_eq {l : List VValue} {a : List VToken} (h : szL l ≤ big) (ha : a.length + 2 * szL l ≤ 4 * big) : nest_flat_3 (l, a) = some (a ++ tokL l) := by
  refine recE_meas (fun z => szL z.1) (fun z => szL z.1 ≤ big ∧ z.2.length + 2 * szL z.1 ≤ 4 * big) (fun z => z.2 ++ tokL z.1) (fun S z hz hS => ?_) (x := (l, a)) ⟨h, ha⟩
  obtain ⟨l, a⟩ := z
  obtain ⟨h, ha⟩ := hz
  have h : szL l ≤ big := h
  have ha : a.length + 2 * szL l ≤ 4 * big := ha
  have hlen := szL_len l
  unfold nest_flat_3_B
  refine (loopK_oi l (fun i (b : List VToken) => ((i : Int), b)) (fun v b => some (.again (b ++ tokV v))) (fun b => some (.out b)) (fun i b => b.length ≤ a.length + 2 * szL (l.take i)) (a := a) rfl (by simp) (fun i b hi hI => ?_) (fun b _ => ?_) (r := .out (a ++ tokL l)) ?_).trans rfl
  · have hsz := szL_mem (List.getElem_mem hi)
    have hv2 := szV_eq l[i]
    have hd := tokV_eq l[i]
    have hd2 := tokL_le l[i].list
    have ht := szL_take hi
    have ht2 := szL_take_le l (i + 1)
    have hv3 := tokV_le l[i]
    unfold big at h ha
    have hap : ∀ n m : Nat, n + m ≤ 100000000 → appOk n m 56 = true := fun n m h => appOk_of (by omega)
    refine ⟨?_, fun a' ha' => ?_⟩
    · simp only [lt_true hi, cond_true, bindO, geti_eq hi, Option.bind_some, nest_closer_eq]
      by_cases hc : closerS l[i].token.kind = 0
      · rw [if_pos hc] at hd
        simp [hc, hd, w64_succ hi (by unfold big; omega), hap b.length 1 (by omega)]
      · rw [if_neg hc] at hd
        rw [hS (l[i].list, b ++ [l[i].token]) ⟨by show szL l[i].list ≤ big; unfold big; omega, by show (b ++ [l[i].token]).length + 2 * szL l[i].list ≤ 4 * big; unfold big; rw [List.length_append, List.length_singleton]; omega⟩ (by show szL l[i].list < szL l; omega)]
        have hb : (closerS l[i].token.kind != 0) = true := bne_iff_ne.2 hc
        simp [hb, hd, w64_succ hi (by unfold big; omega), hap b.length 1 (by omega), hap (b.length + ((tokL l[i].list).length + 1)) 1 (by omega)]
    · cases ha'
      rw [List.length_append, ht]
      omega
  · simp only [lt_self, cond_false]; rfl
  · rw [overL_fold (fun a v => a ++ tokV v) (fun v a => rfl), tokL_fold]

theorem flat2_eq {l : List VValue} (h : szL l ≤ big) : nest_flat_2 l = some (tokL l) := by
  have hlen := szL_len l
  unfold nest_flat_2
  refine (loopK_oi l (fun i (b : List VToken) => ((i : Int), b)) (fun v b => some (.again (b ++ tokV v))) (fun b => some (.out b)) (fun i b => b.length ≤ 2 * szL (l.take i)) (a := []) rfl (by simp) (fun i b hi hI => ?_) (fun b _ => ?_) (r := .out (tokL l)) ?_).trans rfl
  · have hsz := szL_mem (List.getElem_mem hi)
    have hv2 := szV_eq l[i]
    have hd := tokV_eq l[i]
    have hd2 := tokL_le l[i].list
    have ht := szL_take hi
    have ht2 := szL_take_le l (i + 1)
    have hv3 := tokV_le l[i]
    unfold big at h
    have hap : ∀ n m : Nat, n + m ≤ 100000000 → appOk n m 56 = true := fun n m h => appOk_of (by omega)
    refine ⟨?_, fun a' ha' => ?_⟩
    · simp only [lt_true hi, cond_true, bindO, geti_eq hi, Option.bind_some, nest_closer_eq]
      by_cases hc : closerS l[i].token.kind = 0
      · rw [if_pos hc] at hd
        simp [hc, hd, w64_succ hi (by unfold big; omega), hap b.length 1 (by omega)]
      · rw [if_neg hc] at hd
        rw [flat3_eq (a := b ++ [l[i].token]) (show szL l[i].list ≤ big by unfold big; omega) (by unfold big; rw [List.length_append, List.length_singleton]; omega)]
        have hb : (closerS l[i].token.kind != 0) = true := bne_iff_ne.2 hc
        simp [hb, hd, w64_succ hi (by unfold big; omega), hap b.length 1 (by omega), hap (b.length + ((tokL l[i].list).length + 1)) 1 (by omega)]
    · cases ha'
      rw [List.length_append, ht]
      omega
  · simp only [lt_self, cond_false]; rfl
  · rw [overL_fold (fun a v => a ++ tokV v) (fun v a => rfl), tokL_fold]
    simp

theorem nest_Flat_eq {l : List VValue} (h : szL l ≤ big) : nest_Flat l = some (if errS l = 0 then (tokL l, 0) else ([], errS l)) := by
  unfold nest_Flat
  simp only [nest_check h, bindO, Option.bind_some]
  by_cases he : errS l = 0
  · have : (errS l != 0) = false := by rw [he]; rfl
    rw [this, cond_false, flat2_eq h, if_pos he]
    rfl
  · rw [bne_iff_ne.2 he, cond_true, if_neg he]
end Go.Lv.VT

namespace Go.Lv.VT
def delimN (n : Nat) : Bool :=
  !(n == 0 || n == 9 || n == 10 || n == 12 || n == 13 || n == 32 || n == 34 || n == 39 || n == 40 || n == 41 || n == 44 || n == 58 || n == 59 || n == 91 || n == 93 || n == 95 || n == 123 || n == 125) &&
    (decide (n < 128) && !((decide (48 ≤ n) && decide (n ≤ 57)) || (decide (65 ≤ n) && decide (n ≤ 90)) || (decide (97 ≤ n) && decide (n ≤ 122))))

set_option maxRecDepth 100000 in
theorem delim_c : ∀ n : Nat, n < 256 → ref03_Delim_c 40 (n : Int) = some (delimN n) := by decide +kernel
theorem ref03_Delim_eq (b : UInt8) : ref03_Delim (b.toNat : Int) = some (delimN b.toNat) :=
  le_ref03_Delim 40 _ _ (delim_c _ (UInt8.toNat_lt b))

def digN (n : Nat) : Bool := decide (48 ≤ n) && decide (n ≤ 57)
theorem ref_Digit_n : ∀ n : Nat, n < 256 → ref02_Digit_c 1 (n : Int) = some (digN n) := by decide +kernel
theorem ref_Digit (b : UInt8) : ref02_Digit (b.toNat : Int) = some (digN b.toNat) := le_ref02_Digit 1 _ _ (ref_Digit_n _ (UInt8.toNat_lt b))
theorem glue_digit_n : ∀ n : Nat, n < 256 → glue_digit_c 1 (n : Int) = some (digN n) := by decide +kernel
theorem glue_digit_eq (b : UInt8) : glue_digit (b.toNat : Int) = some (digN b.toNat) := le_glue_digit 1 _ _ (glue_digit_n _ (UInt8.toNat_lt b))
def namN (n : Nat) : Bool := digN n || (decide (65 ≤ n) && decide (n ≤ 90)) || (decide (97 ≤ n) && decide (n ≤ 122)) || n == 95 || n == 45 || decide (128 ≤ n)
theorem glue_named_n : ∀ n : Nat, n < 256 → glue_named_c 1 (n : Int) = some (namN n) := by decide +kernel
theorem glue_named_eq (b : UInt8) : glue_named (b.toNat : Int) = some (namN b.toNat) := le_glue_named 1 _ _ (glue_named_n _ (UInt8.toNat_lt b))

def bareS : Str → Bool
  | [] => false
  | b :: r => digN b.toNat || (b == 45 && (r == [] || digN (r.headD 0).toNat))
theorem byte_is (b c : UInt8) : ((b.toNat : Int) == (c.toNat : Int)) = (b == c) := by
  by_cases h : b = c
  · subst h; simp
  · have h2 : b.toNat ≠ c.toNat := fun e => h (UInt8.toNat_inj.1 e)
    rw [beq_eq_false_iff_ne.2 h, beq_eq_false_iff_ne.2 (by omega)]
theorem byte_45 (b : UInt8) : ((b.toNat : Int) == 45) = (b == 45) := byte_is b 45

theorem ref03_Bare_eq (l : Str) : ref03_Bare l = some (bareS l) := by
  unfold ref03_Bare
  cases l with
  | nil => rfl
  | cons b r =>
    have h0 : geti (b :: r) 0 = some b := rfl
    have hn : (b :: r == ([] : Str)) = false := rfl
    simp only [hn, cond_false, h0, bindO, Option.bind_some, ref_Digit, condO_some, byte_45]
    cases r with
    | nil =>
      have e : (([b] : Str) == [45]) = (b == 45) := by
        show ((b == 45) && true) = _
        rw [Bool.and_true]
      simp only [e]
      unfold bareS
      cases hb : (b == 45) with
      | false => cases h2 : digN b.toNat <;> simp [hb, condO, h2]
      | true => cases h2 : digN b.toNat <;> simp [hb, condO, h2]
    | cons d r =>
      have h1 : geti (b :: d :: r) 1 = some d := rfl
      have e : ((b :: d :: r : Str) == [45]) = false := by
        show ((b == 45) && false) = _
        rw [Bool.and_false]
      simp only [h1, e, condO_some, Option.bind_some, ref_Digit, bareS, List.headD_cons]
      cases hb : (b == 45) <;> cases h2 : digN b.toNat <;> simp [hb]

def numS : Str → Bool
  | [] => false
  | b :: r => bif b == 45 then !(r == []) && digN (r.headD 0).toNat else digN b.toNat
theorem glue_numeric_eq (l : Str) : glue_numeric l = some (numS l) := by
  unfold glue_numeric
  simp only [trimPrefix_eq, bindO, Option.bind_some]
  have key : ∀ m : Str, ((condO (!(m == [])) (geti m 0) 0).bind fun y2 => (condO (!(m == [])) (glue_digit (y2.toNat : Int)) (default : Bool)).bind fun y3 => some (bif !(m == []) then y3 else false)) = some (!(m == []) && digN (m.headD 0).toNat) := by
    intro m
    cases m with
    | nil => rfl
    | cons b r =>
      have h0 : geti (b :: r) 0 = some b := rfl
      have hn : (b :: r == ([] : Str)) = false := rfl
      simp only [hn, Bool.not_false, condO_true, h0, Option.bind_some, glue_digit_eq, cond_true, List.headD_cons, Bool.true_and]
  rw [key]
  cases l with
  | nil => rfl
  | cons b r =>
    have e : List.isPrefixOf [45] (b :: r) = (b == 45) := by
      show ((45 == b) && true) = _
      rw [Bool.and_true]
      cases hb : (b == 45) with
      | true => rw [beq_iff_eq] at hb; subst hb; rfl
      | false => rw [beq_eq_false_iff_ne] at hb; exact beq_eq_false_iff_ne.2 (Ne.symm hb)
    rw [e]
    show _ = some (bif b == 45 then !(r == []) && digN (r.headD 0).toNat else digN b.toNat)
    cases b == 45 <;> rfl
theorem num_bare (l : Str) : ((numS l && !(List.isPrefixOf [45, 45] l)) || l == [45]) = bareS l := by
  cases l with
  | nil => rfl
  | cons b r =>
    cases hb : (b == 45) with
    | false =>
      have e1 : List.isPrefixOf [45, 45] (b :: r) = false := by
        show ((45 == b) && _) = _
        rw [beq_eq_false_iff_ne] at hb
        rw [beq_eq_false_iff_ne.2 (Ne.symm hb)]; rfl
      have e2 : ((b :: r : Str) == [45]) = false := by
        show ((b == 45) && _) = _
        rw [hb]; rfl
      rw [e1, e2]
      unfold numS bareS
      simp [hb]
    | true =>
      rw [beq_iff_eq] at hb
      subst hb
      cases r with
      | nil => rfl
      | cons d r =>
        have e2 : ((45 :: d :: r : Str) == [45]) = false := rfl
        rw [e2]
        unfold numS bareS
        have e1 : List.isPrefixOf [45, 45] (45 :: d :: r) = (45 == d) := by
          show ((45 == (45 : UInt8)) && ((45 == d) && true)) = _
          rw [Bool.and_true]; rfl
        rw [e1]
        simp only [List.headD_cons]
        have hd : digN 45 = false := by decide
        cases h : (45 == d) with
        | false => simp [hd]
        | true => rw [beq_iff_eq] at h; subst h; rfl
end Go.Lv.VT

namespace Go.Lv.VT
def delS (l : Str) : Bool := match l with
  | [b] => delimN b.toNat
  | _ => false
def rngS (x : VToken) : Bool := decide (-1000000000000 ≤ x.num) && (decide (x.num ≤ 1000000000000) && (!x.flag || Int.tmod x.num 1000 == 0))
def fineS (x : VToken) : Bool :=
  bif x.kind == 1 || x.kind == 2 || x.kind == 3 then !(x.text == []) && (noNul x.text && (x.num == 0 && (x.unit == [] && !x.flag)))
  else bif x.kind == 4 then !(x.text == []) && (noNul x.text && ((x.flag || bareS x.text) && (x.num == 0 && x.unit == [])))
  else bif x.kind == 5 || x.kind == 7 then noNul x.text && (x.num == 0 && (x.unit == [] && !x.flag))
  else bif x.kind == 9 then delS x.text && (x.num == 0 && (x.unit == [] && !x.flag))
  else bif x.kind == 10 || x.kind == 11 || x.kind == 12 then rngS x && ((!(x.unit == []) == (x.kind == 12)) && (noNul x.unit && ((!(x.kind == 11) || !x.flag) && x.text == [])))
  else (decide (13 ≤ x.kind) && decide (x.kind ≤ 24)) && (x.text == [] && (x.num == 0 && (x.unit == [] && !x.flag)))

theorem ref03_whole_eq {l : Str} (h : l.length ≤ big) : ref03_whole l = some (noNul l) := by
  unfold ref03_whole
  refine (loopK_find l (fun b => bif (!(b == 0)) then none else some false) () (fun i hi => ?_) ?_).trans ?_
  · simp only [lt_true hi, cond_true, geti_eq hi, bindO, Option.bind_some, byte_zero, w64_succ hi h]
    cases l[i] == 0 <;> rfl
  · simp only [lt_self, cond_false]
  · rw [find_all]
    show _ = some (noNul l)
    unfold noNul
    cases l.all (fun b => !(b == 0)) <;> rfl

theorem one_byte (l : Str) (p : Nat → Bool) (d : Bool) (f : Int → Option Bool) (hf : ∀ b : UInt8, f (b.toNat : Int) = some (p b.toNat)) (g : Bool) :
    ((condO (g && (l.length : Int) == 1) (geti l 0) (0 : UInt8)).bind fun y => condO (g && (l.length : Int) == 1) (f (y.toNat : Int)) d) = some (bif g && (l.length : Int) == 1 then (match l with | [b] => p b.toNat | _ => false) else d) := by
  cases g with
  | false => rfl
  | true =>
    cases l with
    | nil => rfl
    | cons b r =>
      cases r with
      | nil =>
        show ((geti [b] 0).bind fun y => f (y.toNat : Int)) = some (p b.toNat)
        rw [show geti [b] 0 = some b from rfl]
        exact hf b
      | cons c r =>
        have : (((b :: c :: r).length : Int) == 1) = false := beq_eq_false_iff_ne.2 (by simp only [List.length_cons]; omega)
        rw [this]; rfl

theorem delim_pick (l : Str) (g : Bool) : ((condO (g && (l.length : Int) == 1) (geti l 0) (0 : UInt8)).bind fun y => condO (g && (l.length : Int) == 1) (ref03_Delim (y.toNat : Int)) (default : Bool)) = some (bif g && (l.length : Int) == 1 then delS l else default) :=
  one_byte l delimN default ref03_Delim ref03_Delim_eq g
theorem delS_len (l : Str) : (((l.length : Int) == 1) && delS l) = delS l := by
  cases l with
  | nil => rfl
  | cons b r =>
    cases r with
    | nil => rfl
    | cons c r =>
      have : (((b :: c :: r).length : Int) == 1) = false := beq_eq_false_iff_ne.2 (by simp only [List.length_cons]; omega)
      rw [this]; rfl

theorem ref03_Fine_eq {x : VToken} (h1 : x.text.length ≤ big) (h2 : x.unit.length ≤ big) : ref03_Fine x = some (fineS x) := by
  have hd := delim_pick x.text true
  simp only [Bool.true_and] at hd
  have hd' : ((condO ((x.text.length : Int) == 1) (geti x.text 0) (0 : UInt8)).bind fun y7 => (condO ((x.text.length : Int) == 1) (ref03_Delim (y7.toNat : Int)) (default : Bool)).bind fun y8 => some (bif bif (x.text.length : Int) == 1 then y8 else false then x.kind == x.kind && (([] : Str) == [] && (x.num == 0 && (x.unit == [] && (x.flag == false && true)))) else false)) = some (delS x.text && (x.num == 0 && (x.unit == [] && !x.flag))) := by
    have e : ∀ (k : Bool → Option Bool), ((condO ((x.text.length : Int) == 1) (geti x.text 0) (0 : UInt8)).bind fun y7 => (condO ((x.text.length : Int) == 1) (ref03_Delim (y7.toNat : Int)) (default : Bool)).bind k) = (((condO ((x.text.length : Int) == 1) (geti x.text 0) (0 : UInt8)).bind fun y => condO ((x.text.length : Int) == 1) (ref03_Delim (y.toNat : Int)) (default : Bool))).bind k := by
      intro k; rw [Option.bind_assoc]
    rw [e, hd, Option.bind_some, ← delS_len x.text]
    simp only [beq_self_eq_true]
    cases (x.text.length : Int) == 1 <;> cases delS x.text <;> cases x.flag <;> rfl
  unfold ref03_Fine
  simp only [bindO, ref03_whole_eq h1, ref03_whole_eq h2, ref03_Bare_eq, condO_some, Option.bind_some, ge_iff_le]
  unfold fineS rngS
  by_cases k9 : x.kind = 9
  · simp only [k9, Int.reduceBEq, cond_true, cond_false, joinK_out, Bool.or_false, Bool.false_or] at hd' ⊢
    exact hd'
  clear hd hd'
  have b9 := beq_eq_false_iff_ne.2 k9
  generalize delS x.text = a0
  generalize noNul x.text = a1
  generalize noNul x.unit = a2
  generalize bareS x.text = a3
  generalize hc1 : (x.text == []) = a4
  generalize hc2 : (x.unit == []) = a5
  generalize hc3 : (x.num == 0) = a6
  generalize hc4 : x.flag = a7
  generalize decide (-1000000000000 ≤ x.num) = a8
  generalize decide (x.num ≤ 1000000000000) = a9
  generalize (Int.tmod x.num 1000 == 0) = a10
  by_cases k1 : x.kind = 1
  · simp only [k1, joinK_out, cond_true, cond_false, hc1, hc2, hc3, hc4, Int.reduceBEq]
    cases a1 <;> cases a4 <;> cases a5 <;> cases a6 <;> cases a7 <;> rfl
  by_cases k2 : x.kind = 2
  · simp only [k2, joinK_out, cond_true, cond_false, hc1, hc2, hc3, hc4, Int.reduceBEq]
    cases a1 <;> cases a4 <;> cases a5 <;> cases a6 <;> cases a7 <;> rfl
  by_cases k3 : x.kind = 3
  · simp only [k3, joinK_out, cond_true, cond_false, hc1, hc2, hc3, hc4, Int.reduceBEq]
    cases a1 <;> cases a4 <;> cases a5 <;> cases a6 <;> cases a7 <;> rfl
  by_cases k4 : x.kind = 4
  · simp only [k4, joinK_out, cond_true, cond_false, hc1, hc2, hc3, hc4, Int.reduceBEq]
    cases a1 <;> cases a3 <;> cases a4 <;> cases a5 <;> cases a6 <;> cases a7 <;> rfl
  by_cases k5 : x.kind = 5
  · simp only [k5, joinK_out, cond_true, cond_false, hc1, hc2, hc3, hc4, Int.reduceBEq]
    cases a1 <;> cases a4 <;> cases a5 <;> cases a6 <;> cases a7 <;> rfl
  by_cases k7 : x.kind = 7
  · simp only [k7, joinK_out, cond_true, cond_false, hc1, hc2, hc3, hc4, Int.reduceBEq]
    cases a1 <;> cases a4 <;> cases a5 <;> cases a6 <;> cases a7 <;> rfl
  by_cases k10 : x.kind = 10
  · simp only [k10, joinK_out, cond_true, cond_false, hc1, hc2, hc3, hc4, Int.reduceBEq]
    cases a2 <;> cases a4 <;> cases a5 <;> cases a7 <;> cases a8 <;> cases a9 <;> cases a10 <;> rfl
  by_cases k11 : x.kind = 11
  · simp only [k11, joinK_out, cond_true, cond_false, hc1, hc2, hc3, hc4, Int.reduceBEq]
    cases a2 <;> cases a4 <;> cases a5 <;> cases a7 <;> cases a8 <;> cases a9 <;> cases a10 <;> rfl
  by_cases k12 : x.kind = 12
  · simp only [k12, joinK_out, cond_true, cond_false, hc1, hc2, hc3, hc4, Int.reduceBEq]
    cases a2 <;> cases a4 <;> cases a5 <;> cases a7 <;> cases a8 <;> cases a9 <;> cases a10 <;> rfl
  simp only [b9, beq_eq_false_iff_ne.2 k1, beq_eq_false_iff_ne.2 k2, beq_eq_false_iff_ne.2 k3, beq_eq_false_iff_ne.2 k4, beq_eq_false_iff_ne.2 k5, beq_eq_false_iff_ne.2 k7, beq_eq_false_iff_ne.2 k10, beq_eq_false_iff_ne.2 k11, beq_eq_false_iff_ne.2 k12, joinK_out, cond_true, cond_false, hc1, hc2, hc3, hc4, beq_self_eq_true, Bool.or_self]
  by_cases k6 : x.kind = 6
  · simp only [k6, joinK_out, cond_true, cond_false, Int.reduceBEq]; rfl
  by_cases k8 : x.kind = 8
  · simp only [k8, joinK_out, cond_true, cond_false, Int.reduceBEq]; rfl
  simp only [beq_eq_false_iff_ne.2 k6, beq_eq_false_iff_ne.2 k8, joinK_out, cond_true, cond_false]
  have e : (decide (1 ≤ x.kind) && decide (x.kind ≤ 24)) = (decide (13 ≤ x.kind) && decide (x.kind ≤ 24)) := by
    by_cases hh : 13 ≤ x.kind
    · rw [decide_eq_true hh, decide_eq_true (by omega)]
    · rw [decide_eq_false hh]
      by_cases h1 : 1 ≤ x.kind
      · omega
      · rw [decide_eq_false h1]
  rw [← e]
  cases decide (1 ≤ x.kind) <;> cases decide (x.kind ≤ 24) <;> cases a4 <;> cases a5 <;> cases a6 <;> cases a7 <;> rfl

abbrev marksS : Str := [32, 9, 10, 12, 13, 34, 39, 58, 59, 44, 91, 93, 40, 41, 123, 125]
theorem contains_one (m : Str) (c : UInt8) : strings_Contains (m, [c]) = some (m.any fun b => b == c) := by
  show some (decide (Lib.indexByte m c ≥ 0)) = _
  rw [idx_any]
theorem del_byte_n : ∀ n : Nat, n < 256 → ((bif bif !(UInt8.ofNat n == 0) then !namN n else false then true else UInt8.ofNat n == 45) && (!(marksS.any fun b => b == UInt8.ofNat n))) = delimN n := by decide +kernel
theorem del_byte (b : UInt8) : ((bif bif !(b == 0) then !namN b.toNat else false then true else b == 45) && (!(marksS.any fun c => c == b))) = delimN b.toNat := by
  have := del_byte_n b.toNat (UInt8.toNat_lt b)
  rwa [UInt8.ofNat_toNat] at this
theorem noNul_append (a b : Str) : noNul (a ++ b) = (noNul a && noNul b) := by
  unfold noNul; rw [List.all_append]
theorem neg_dec (n : Int) : decide (n < 0) = !decide (n ≥ 0) := by
  by_cases h : n < 0
  · rw [decide_eq_true h, decide_eq_false (by omega)]; rfl
  · rw [decide_eq_false h, decide_eq_true (by omega)]; rfl
end Go.Lv.VT

namespace Go.Lv.VT
theorem nam_in (g d : Bool) (b c : UInt8) : (bif g then namN (bif g then b else c).toNat else d) = bif g then namN b.toNat else d := by cases g <;> rfl
theorem glue_fine_eq {x : VToken} (h1 : x.text.length ≤ big) (h2 : x.unit.length ≤ big) : glue_fine x = some (fineS x) := by
  unfold glue_fine
  rw [need_of (decide_eq_true (by unfold big at h1 h2; omega))]
  simp only [bindO, indexByte_eq, Option.bind_some]
  have hn : decide (Lib.indexByte (x.text ++ x.unit) (0 : Int).toNat.toUInt8 < 0) = (noNul x.text && noNul x.unit) := by
    rw [neg_dec, idx_nul, noNul_append, Bool.not_not]
  simp only [hn, glue_numeric_eq, hasPrefix_eq, condO_some, Option.bind_some, ge_iff_le, bne]
  have hb := num_bare x.text
  unfold fineS rngS
  by_cases k9 : x.kind = 9
  · simp only [k9, Int.reduceBEq, cond_true, cond_false, joinK_out, Bool.or_false, Bool.false_or]
    cases ht : x.text with
    | nil =>
      have : noNul ([] : Str) = true := rfl
      simp only [this, Bool.true_and]
      cases noNul x.unit <;> rfl
    | cons b r =>
      cases r with
      | nil =>
        have hd := del_byte b
        have e1 : ((([b] : Str).length : Int) == 1) = true := rfl
        have e2 : geti [b] 0 = some b := rfl
        have e3 : (([b] : Str) == [45]) = (b == 45) := by
          show ((b == 45) && true) = _
          rw [Bool.and_true]
        have e4 : noNul [b] = !(b == 0) := by show ((!(b == 0)) && true) = _; rw [Bool.and_true]
        have e5 : delS [b] = delimN b.toNat := rfl
        simp only [e1, e2, e3, e4, e5, contains_one, glue_named_eq, condO_some, Option.bind_some, nam_in, ← hd]
        cases hu : x.unit with
        | nil =>
          have : noNul ([] : Str) = true := rfl
          simp only [this, Bool.and_true]
          generalize (marksS.any fun c => c == b) = a1
          cases namN b.toNat <;> cases (b == 0) <;> cases (b == 45) <;> cases a1 <;> cases (x.num == 0) <;> cases x.flag <;> rfl
        | cons c s =>
          have : ((c :: s : Str) == []) = false := rfl
          simp only [this]
          generalize noNul (c :: s) = a2
          generalize (marksS.any fun c => c == b) = a1
          cases a2 <;> cases namN b.toNat <;> cases (b == 0) <;> cases (b == 45) <;> cases a1 <;> cases (x.num == 0) <;> cases x.flag <;> rfl
      | cons c r =>
        have e1 : (((b :: c :: r : Str).length : Int) == 1) = false := beq_eq_false_iff_ne.2 (by simp only [List.length_cons]; omega)
        have e3 : ((b :: c :: r : Str) == [45]) = false := by
          show ((b == 45) && false) = _
          rw [Bool.and_false]
        have e5 : delS (b :: c :: r) = false := rfl
        simp only [e1, e3, e5]
        cases (noNul (b :: c :: r) && noNul x.unit) <;> rfl
  have b9 := beq_eq_false_iff_ne.2 k9
  have hu : (x.unit == []) = true → noNul x.unit = true := fun h => by rw [beq_iff_eq] at h; rw [h]; rfl
  have htx : (x.text == []) = true → noNul x.text = true := fun h => by rw [beq_iff_eq] at h; rw [h]; rfl
  rw [← hb]
  generalize hl45 : (x.text == [45]) = a11 at *
  generalize (List.isPrefixOf [45, 45] x.text) = a12 at *
  generalize numS x.text = a3 at *
  generalize noNul x.text = a1 at *
  generalize noNul x.unit = a2 at *
  generalize (x.text == []) = a4 at *
  generalize (x.unit == []) = a5 at *
  generalize (x.num == 0) = a6 at *
  generalize x.flag = a7 at *
  generalize decide (-1000000000000 ≤ x.num) = a8 at *
  generalize decide (x.num ≤ 1000000000000) = a9 at *
  generalize (Int.tmod x.num 1000 == 0) = a10 at *
  clear hb hn hl45
  have K : ∀ k : Int, k ∈ [1, 2, 3, 4, 5, 7, 10, 11, 12] → x.kind = k → True := fun _ _ _ => trivial
  clear K
  by_cases k1 : x.kind = 1
  · simp only [k1, joinK_out, cond_true, cond_false, Int.reduceBEq]
    cases a1 <;> cases a2 <;> cases a4 <;> cases a5 <;> cases a6 <;> cases a7 <;> first | rfl | (simp at hu htx; done) | simp_all
  by_cases k2 : x.kind = 2
  · simp only [k2, joinK_out, cond_true, cond_false, Int.reduceBEq]
    cases a1 <;> cases a2 <;> cases a4 <;> cases a5 <;> cases a6 <;> cases a7 <;> first | rfl | (simp at hu htx; done) | simp_all
  by_cases k3 : x.kind = 3
  · simp only [k3, joinK_out, cond_true, cond_false, Int.reduceBEq]
    cases a1 <;> cases a2 <;> cases a4 <;> cases a5 <;> cases a6 <;> cases a7 <;> first | rfl | (simp at hu htx; done) | simp_all
  by_cases k4 : x.kind = 4
  · simp only [k4, joinK_out, cond_true, cond_false, Int.reduceBEq]
    cases a1 <;> cases a2 <;> cases a3 <;> cases a4 <;> cases a5 <;> cases a6 <;> cases a7 <;> cases a11 <;> cases a12 <;> first | rfl | (simp at hu htx; done) | simp_all
  by_cases k5 : x.kind = 5
  · simp only [k5, joinK_out, cond_true, cond_false, Int.reduceBEq]
    cases a1 <;> cases a2 <;> cases a5 <;> cases a6 <;> cases a7 <;> first | rfl | (simp at hu htx; done) | simp_all
  by_cases k7 : x.kind = 7
  · simp only [k7, joinK_out, cond_true, cond_false, Int.reduceBEq]
    cases a1 <;> cases a2 <;> cases a5 <;> cases a6 <;> cases a7 <;> first | rfl | (simp at hu htx; done) | simp_all
  by_cases k10 : x.kind = 10
  · simp only [k10, joinK_out, cond_true, cond_false, Int.reduceBEq]
    cases a1 <;> cases a2 <;> cases a4 <;> cases a5 <;> cases a7 <;> cases a8 <;> cases a9 <;> cases a10 <;> first | rfl | (simp at hu htx; done) | simp_all
  by_cases k11 : x.kind = 11
  · simp only [k11, joinK_out, cond_true, cond_false, Int.reduceBEq]
    cases a1 <;> cases a2 <;> cases a4 <;> cases a5 <;> cases a7 <;> cases a8 <;> cases a9 <;> cases a10 <;> first | rfl | (simp at hu htx; done) | simp_all
  by_cases k12 : x.kind = 12
  · simp only [k12, joinK_out, cond_true, cond_false, Int.reduceBEq]
    cases a1 <;> cases a2 <;> cases a4 <;> cases a5 <;> cases a7 <;> cases a8 <;> cases a9 <;> cases a10 <;> first | rfl | (simp at hu htx; done) | simp_all
  simp only [b9, beq_eq_false_iff_ne.2 k1, beq_eq_false_iff_ne.2 k2, beq_eq_false_iff_ne.2 k3, beq_eq_false_iff_ne.2 k4, beq_eq_false_iff_ne.2 k5, beq_eq_false_iff_ne.2 k7, beq_eq_false_iff_ne.2 k10, beq_eq_false_iff_ne.2 k11, beq_eq_false_iff_ne.2 k12, joinK_out, cond_true, cond_false, Bool.or_self]
  cases decide (13 ≤ x.kind) <;> cases decide (x.kind ≤ 24) <;> cases a4 <;> cases a5 <;> cases a6 <;> cases a7 <;> rfl
end Go.Lv.VT

namespace Go.Lv.VT
def urlOK : List VToken → Bool
  | [] => false
  | s :: r => bif s.kind == 13 then (match r with | u :: _ => u.kind == 5 | [] => false) else s.kind == 5
def nextSp : List VToken → Bool
  | [] => false
  | s :: _ => s.kind == 13
def isUrl (t : VToken) : Bool := t.kind == 2 && lowS t.text == [117, 114, 108]
def okAt : List VToken → Bool
  | [] => true
  | t :: r => (!(t.kind == 9 && t.text == [92]) || nextSp r) && (!(isUrl t) || urlOK r)
def okTok (l : List VToken) (i : Nat) : Bool := fineS (l.getD i default) && okAt (l.drop i)
def gluS (l : List VToken) : Int := bif decide (l.length ≤ 1500) then (bif (List.range l.length).all (okTok l) then 0 else 8) else 4

theorem piece_1 (l : List VToken) (i : Nat) (k : Int) : glue_piece_1 (((i : Int), k), l) = some (match l[i]? with | some t => t.kind == k | none => false) := by
  unfold glue_piece_1
  by_cases h : i < l.length
  · simp only [lt_true h, condO_true, geti_eq h, bindO, Option.bind_some, cond_true, List.getElem?_eq_getElem h]
  · have e : decide ((i : Int) < (l.length : Int)) = false := decide_eq_false (by omega)
    simp only [e, condO_false, bindO, Option.bind_some, cond_false, List.getElem?_eq_none (Nat.le_of_not_lt h)]

theorem low_url : lowS [117, 114, 108] = [117, 114, 108] := by decide
theorem glue_piece_eq {t : VToken} {r : List VToken} (h : t.text.length ≤ big) : ∃ n : Int, glue_piece (t :: r) = some n ∧ (n == 0) = !okAt (t :: r) := by
  have e0 : geti (t :: r) 0 = some t := rfl
  have p1 := piece_1 (t :: r) 1 13
  have p15 := piece_1 (t :: r) 1 5
  have p25 := piece_1 (t :: r) 2 5
  unfold glue_piece
  simp only [e0, bindO, Option.bind_some, prog_Alike h (show ([117, 114, 108] : Str).length ≤ big by decide), low_url, condO_some]
  simp only [Int.natCast_one] at p1 p15
  replace p25 : glue_piece_1 ((2, 5), t :: r) = _ := p25
  rw [p1]
  unfold okAt isUrl
  cases hd : (t.kind == 9 && t.text == [92]) with
  | true =>
    have hk : t.kind = 9 := by rw [Bool.and_eq_true, beq_iff_eq] at hd; exact hd.1
    have ht : (t.text == [92]) = true := by rw [Bool.and_eq_true] at hd; exact hd.2
    simp only [hk, ht, Int.reduceBEq, cond_true, cond_false, Option.bind_some]
    cases r with
    | nil => exact ⟨_, rfl, rfl⟩
    | cons s r =>
      show ∃ n : Int, (bif !(s.kind == 13) then some 0 else some 2) = some n ∧ (n == 0) = !((!true || s.kind == 13) && _)
      cases s.kind == 13
      · exact ⟨0, rfl, rfl⟩
      · exact ⟨2, rfl, rfl⟩
  | false =>
    have hc : (bif t.kind == 9 then t.text == [92] else false) = false := by
      cases h9 : t.kind == 9
      · rfl
      · rw [h9] at hd; exact hd
    simp only [hc, hd, cond_false, Bool.not_false, Bool.true_or, Bool.true_and]
    cases hu : (t.kind == 2 && lowS t.text == [117, 114, 108]) with
    | false =>
      have : (bif t.kind == 2 then bif t.kind == 2 then lowS t.text == [117, 114, 108] else default else false) = false := by
        cases h2 : t.kind == 2
        · rfl
        · rw [h2] at hu; exact hu
      rw [this]
      exact ⟨1, rfl, rfl⟩
    | true =>
      rw [Bool.and_eq_true] at hu
      rw [hu.1, hu.2]
      simp only [cond_true, Option.bind_some]
      cases r with
      | nil => exact ⟨0, by simp [p15], rfl⟩
      | cons s r =>
        cases hs : s.kind == 13 with
        | false =>
          have e1 : (match (t :: s :: r)[1]? with | some t => t.kind == 13 | none => false) = false := hs
          have e5 : glue_piece_1 ((1, 5), t :: s :: r) = some (s.kind == 5) := p15
          simp only [e1, cond_false, joinK_out, e5, Option.bind_some, urlOK, hs]
          cases s.kind == 5
          · exact ⟨0, rfl, rfl⟩
          · exact ⟨2, by rfl, rfl⟩
        | true =>
          have e1 : (match (t :: s :: r)[1]? with | some t => t.kind == 13 | none => false) = true := hs
          simp only [e1, cond_true, joinK_out, p25, Option.bind_some, urlOK, hs]
          cases r with
          | nil => exact ⟨0, rfl, rfl⟩
          | cons u r =>
            show ∃ n : Int, (bif !(u.kind == 5) then some 0 else some (w64 (2 + 1))) = some n ∧ (n == 0) = !(!true || u.kind == 5)
            cases u.kind == 5
            · exact ⟨0, rfl, rfl⟩
            · exact ⟨3, rfl, rfl⟩

theorem gt_not1500 (l : List VToken) : decide ((l.length : Int) > 1500) = !decide (l.length ≤ 1500) := gt_not _ 1500
theorem glue_Check_eq {l : List VToken} (h : ∀ t ∈ l, t.text.length ≤ big ∧ t.unit.length ≤ big) : glue_Check l = some (gluS l) := by
  unfold glue_Check gluS
  rw [gt_not1500]
  cases hl : decide (l.length ≤ 1500) with
  | false => rfl
  | true =>
    have hl := of_decide_eq_true hl
    simp only [Bool.not_true, cond_false, cond_true]
    refine (loopK_while l.length (okTok l) 8 (fun i hi => ?_) ?_).trans ?_
    · obtain ⟨g1, g2⟩ := h _ (List.getElem_mem hi)
      have hgd : l.getD i default = l[i] := by simp [hi]
      have hdr := List.drop_eq_getElem_cons hi
      obtain ⟨n, e1, e2⟩ := glue_piece_eq (t := l[i]) (r := l.drop (i + 1)) g1
      rw [← hdr] at e1 e2
      have e3 : decide ((i : Int) ≤ (l.length : Int)) = true := decide_eq_true (by omega)
      unfold okTok
      simp only [lt_true hi, cond_true, geti_eq hi, bindO, Option.bind_some, glue_fine_eq g1 g2, nn_dec, e3, Bool.true_and, Bool.true_or, need_true, Int.toNat_natCast, e1, condO_some, w64_succ hi (show l.length ≤ big by unfold big; omega), hgd]
      cases fineS l[i] with
      | false => rfl
      | true =>
        simp only [Bool.not_true, Bool.not_false, cond_true, cond_false, e2, Bool.true_and]
        cases okAt (l.drop i) <;> rfl
    · simp only [lt_self, cond_false]
    · cases (List.range l.length).all (okTok l) <;> rfl
end Go.Lv.VT

namespace Go.Lv.VT
theorem drop_next {α : Type} {l : List α} {i : Nat} {s : α} {r : List α} (h : l.drop i = s :: r) : i < l.length ∧ geti l (i : Int) = some s ∧ l.drop (i + 1) = r := by
  have hi : i < l.length := by
    rcases Nat.lt_or_ge i l.length with h' | h'
    · exact h'
    · rw [List.drop_eq_nil_of_le h'] at h; cases h
  rw [List.drop_eq_getElem_cons hi] at h
  injection h with h1 h2
  exact ⟨hi, by rw [geti_eq hi, h1], h2⟩
theorem drop_none {α : Type} {l : List α} {i : Nat} (h : l.drop i = []) (hi : i ≤ l.length) : i = l.length := by
  have := List.drop_eq_nil_iff.1 h; omega

theorem ge_not (n m : Int) : decide (n ≥ m) = !decide (n < m) := by
  by_cases h : n < m
  · rw [decide_eq_true h, decide_eq_false (by omega)]; rfl
  · rw [decide_eq_false h, decide_eq_true (by omega)]; rfl
theorem url_part {l : List VToken} {i : Nat} (hi : i < l.length) (hl : l.length ≤ 1500) :
    joinK (X := Int) (R := LX Unit (LO Int Unit Int)) (bindO (condO (decide (((i + 1 : Nat) : Int) < (l.length : Int))) (geti l ((i + 1 : Nat) : Int)) (default : VToken)) fun y7 => bif bif decide (((i + 1 : Nat) : Int) < (l.length : Int)) then y7.kind == 13 else false then some (LX.out (w64 (((i + 1 : Nat) : Int) + 1))) else some (LX.out ((i + 1 : Nat) : Int)))
      (fun j8 => bindO (condO (!(decide (j8 ≥ (l.length : Int)))) (geti l j8) (default : VToken)) fun y9 => bif bif decide (j8 ≥ (l.length : Int)) then true else y9.kind != 5 then some (LX.ret (LO.ret 8)) else some (LX.out ())) = bif urlOK (l.drop (i + 1)) then some (LX.out ()) else some (LX.ret (LO.ret 8)) := by
  cases hr : l.drop (i + 1) with
  | nil =>
    have he := drop_none hr (by omega)
    have e1 : decide (((i + 1 : Nat) : Int) < (l.length : Int)) = false := decide_eq_false (by omega)
    have e2 : decide (((i + 1 : Nat) : Int) ≥ (l.length : Int)) = true := decide_eq_true (by omega)
    simp only [e1, e2, condO_false, bindO, Option.bind_some, cond_false, cond_true, joinK_out, Bool.not_true, urlOK]
  | cons s r =>
    obtain ⟨h1, h2, h3⟩ := drop_next hr
    have e2 : decide (((i + 1 : Nat) : Int) ≥ (l.length : Int)) = false := decide_eq_false (by omega)
    have hw : w64 (((i + 1 : Nat) : Int) + 1) = ((i + 1 + 1 : Nat) : Int) := w64_succ h1 (by unfold big; omega)
    simp only [lt_true h1, condO_true, h2, bindO, Option.bind_some, cond_true, hw, urlOK]
    cases hs : s.kind == 13 with
    | false =>
      simp only [cond_false, joinK_out, e2, Bool.not_false, condO_true, h2, Option.bind_some, bne]
      cases s.kind == 5 <;> rfl
    | true =>
      simp only [cond_true, joinK_out]
      cases r with
      | nil =>
        have he := drop_none h3 (by omega)
        have e3 : decide (((i + 1 + 1 : Nat) : Int) ≥ (l.length : Int)) = true := decide_eq_true (by omega)
        simp only [e3, Bool.not_true, condO_false, Option.bind_some, cond_true, cond_false]
      | cons u r =>
        obtain ⟨g1, g2, g3⟩ := drop_next h3
        have e3 : decide (((i + 1 + 1 : Nat) : Int) ≥ (l.length : Int)) = false := decide_eq_false (by omega)
        simp only [e3, Bool.not_false, condO_true, g2, Option.bind_some, cond_false, bne]
        cases u.kind == 5 <;> rfl

theorem del_part {l : List VToken} {i : Nat} (hi : i < l.length) (d : Bool) (A B : Option (LO Int Unit Int)) :
    (bindO (condO (!(((i + 1 : Nat) : Int) == (l.length : Int)) && d) (geti l ((i + 1 : Nat) : Int)) (default : VToken)) fun y13 => bif bif d then bif ((i + 1 : Nat) : Int) == (l.length : Int) then true else y13.kind != 13 else false then A else B) = bif !d || nextSp (l.drop (i + 1)) then B else A := by
  cases d with
  | false => simp only [Bool.and_false, condO_false, bindO, Option.bind_some, cond_false, Bool.not_false, Bool.true_or, cond_true]
  | true =>
    cases hr : l.drop (i + 1) with
    | nil =>
      have he := drop_none hr (by omega)
      have e1 : (((i + 1 : Nat) : Int) == (l.length : Int)) = true := beq_iff_eq.2 (by omega)
      simp only [e1, Bool.not_true, Bool.false_and, condO_false, bindO, Option.bind_some, cond_true, nextSp, Bool.or_self, cond_false]
    | cons s r =>
      obtain ⟨h1, h2, h3⟩ := drop_next hr
      have e1 : (((i + 1 : Nat) : Int) == (l.length : Int)) = false := beq_eq_false_iff_ne.2 (by omega)
      simp only [e1, Bool.not_false, Bool.true_and, condO_true, h2, bindO, Option.bind_some, cond_true, nextSp, cond_false, Bool.not_true, Bool.false_or, bne]
      cases s.kind == 13 <;> rfl

theorem bif_snd (b : Bool) (t u : VToken) (p : VToken → Bool) : (bif b then p (bif b then t else u) else false) = (b && p t) := by cases b <;> rfl
theorem ref03_Check_eq {l : List VToken} (h : ∀ t ∈ l, t.text.length ≤ big ∧ t.unit.length ≤ big) : ref03_Check l = some (gluS l) := by
  unfold ref03_Check gluS
  rw [gt_not1500]
  cases hl : decide (l.length ≤ 1500) with
  | false => rfl
  | true =>
    have hl := of_decide_eq_true hl
    simp only [Bool.not_true, cond_false, cond_true]
    refine (loopK_while l.length (okTok l) 8 (fun i hi => ?_) ?_).trans ?_
    · obtain ⟨g1, g2⟩ := h _ (List.getElem_mem hi)
      have hgd : l.getD i default = l[i] := by simp [hi]
      have hdr := List.drop_eq_getElem_cons hi
      have hw : w64 ((i : Int) + 1) = ((i + 1 : Nat) : Int) := w64_succ hi (by unfold big; omega)
      have hw2 : w64 (((i + 1 : Nat) : Int) + 1) = ((i + 2 : Nat) : Int) := w64_succ (n := i + 2) (by omega) (by unfold big; omega)
      unfold okTok
      rw [hdr, hgd]
      simp only [lt_true hi, cond_true, geti_eq hi, bindO, Option.bind_some, ref03_Fine_eq g1 g2, hw]
      cases hf : fineS l[i] with
      | false => rfl
      | true =>
        simp only [Bool.not_true, cond_false, condO_some, Option.bind_some, Bool.true_and]
        have hu := url_part hi hl
        have hd := del_part hi (l[i].kind == 9 && l[i].text == [92]) (some (LO.ret 8)) (some (LO.again ((i + 1 : Nat) : Int)))
        simp only [bindO] at hu hd
        have hlow : (bif l[i].kind == 2 then bif l[i].kind == 2 then lowS (bif l[i].kind == 2 then l[i] else default).text == [117, 114, 108] else default else false) = isUrl l[i] := by
          unfold isUrl
          cases l[i].kind == 2 <;> rfl
        have ha : (condO (l[i].kind == 2) (ref01_Alike ((bif l[i].kind == 2 then l[i] else default).text, [117, 114, 108])) (default : Bool)) = some (bif l[i].kind == 2 then lowS (bif l[i].kind == 2 then l[i] else default).text == [117, 114, 108] else default) := by
          cases h2 : l[i].kind == 2 with
          | false => rfl
          | true =>
            show ref01_Alike (l[i].text, [117, 114, 108]) = some (lowS l[i].text == [117, 114, 108])
            rw [ref_Alike g1 (by decide), low_url]
        have hdl : (bif l[i].kind == 9 then (bif l[i].kind == 9 then l[i] else default).text == [92] else false) = (l[i].kind == 9 && l[i].text == [92]) := bif_snd (l[i].kind == 9) l[i] default fun t => t.text == [92]
        simp only [ha, Option.bind_some, hlow, hdl, hu, okAt]
        cases isUrl l[i] with
        | false =>
          simp only [cond_false, joinK_out, Bool.not_false, Bool.true_or, Bool.and_true]
          refine hd.trans ?_
          cases (!(l[i].kind == 9 && l[i].text == [92]) || nextSp (l.drop (i + 1))) <;> rfl
        | true =>
          simp only [cond_true, Bool.not_true, Bool.false_or]
          cases urlOK (l.drop (i + 1)) with
          | false => simp only [cond_false, joinK_ret, Bool.and_false]
          | true =>
            simp only [cond_true, joinK_out, Bool.and_true]
            refine hd.trans ?_
            cases (!(l[i].kind == 9 && l[i].text == [92]) || nextSp (l.drop (i + 1))) <;> rfl
    · simp only [lt_self, cond_false]
    · cases (List.range l.length).all (okTok l) <;> rfl
end Go.Lv.VT
