/- Small functions of bytes and texts: small letters, names; the program's and the reference's are the same. -/
import Derived.Test.YtnfhfeipljhciaaGreatDoorTx
import Derived.Test.YtnfhfeipljhciaaGreatDoorMo
namespace Go.Lv.VT
def zmG (n : Nat) : Nat := if 65 ≤ n ∧ n ≤ 90 then n + 32 else n
def ziF (b : UInt8) : UInt8 := UInt8.ofNat (zmG b.toNat)
theorem zrl : ∀ n : Nat, n < 256 → (bif decide (65 ≤ (n : Int)) then decide ((n : Int) ≤ 90) else false) = true → zT (ibOr IntKind.u8 (n : Int) 32) = some (UInt8.ofNat (zmG n)) := by decide +kernel
def lowS (l : Str) : Str := l.map ziF
theorem zmF {α : Type} {l : List α} {i : Nat} (h : i < l.length) (f : α → α) : ((l.take i).map f ++ l.drop i).set i (f l[i]) = (l.take (i + 1)).map f ++ l.drop (i + 1) := by
 apply List.ext_getElem
 ·simp; omega
 ·intro j h1 h2
  rw [List.getElem_set]
  split
  ·rename_i hij; subst hij
   rw [List.getElem_append_left (by simp; omega)]
   simp
  ·rename_i hij
   simp only [List.getElem_append, List.length_map, List.length_take, List.getElem_map, List.getElem_take, List.getElem_drop]
   split
   ·rename_i hlt
    rw [dif_pos (by omega)]
   ·rename_i hlt
    rw [dif_neg (by omega)]
    congr 1; omega
theorem zoE {α : Type} {l : List α} {i : Nat} (h : i < l.length) (f : α → α) : ((l.take i).map f ++ l.drop i)[i]? = some l[i] := by
 rw [List.getElem?_append_right (by simp; omega)]
 simp [h, Nat.min_eq_left (Nat.le_of_lt h)]
theorem zoF {α : Type} {l : List α} {i : Nat} (h : i ≤ l.length) (f : α → α) : ((l.take i).map f ++ l.drop i).length = l.length := by
 simp; omega
theorem zpK {α : Type} {l : List α} {i : Nat} (h : i < l.length) (f : α → α) (e : f l[i] = l[i]) : (l.take i).map f ++ l.drop i = (l.take (i + 1)).map f ++ l.drop (i + 1) := by
 rw [← zmF h f, e]
 apply List.ext_getElem?
 intro j
 rw [List.getElem?_set]
 split
 ·rename_i hij
  subst hij
  rw [zoE h, zoF (Nat.le_of_lt h), if_pos h]
 ·rfl
theorem zmA (i : Nat) : decide ((0 : Int) ≤ (i : Int)) = true := decide_eq_true (by omega)
theorem ziE {l : Str} (h : l.length ≤ big) : Qz l = some (lowS l) := by
 unfold Qz
 rw [zfH (decide_eq_true (by unfold big at h; unfold maxLen; omega))]
 have key : ∀ (k i : Nat), i + k = l.length → ∃ n, zaM (X := List UInt8) (R := Str) (fun (s1 : Int × List UInt8) =>
   bif decide (s1.1 < (l.length : Int)) then
    zH (X := Int × List UInt8) (
      need (decide (0 ≤ s1.1) && decide (s1.1 < (s1.2.length : Int))) <|
      zb s1.2[s1.1.toNat]? fun y2 =>
      bif bif decide (65 ≤ (y2.toNat : Int)) then decide ((y2.toNat : Int) ≤ 90) else false then
       need (decide (0 ≤ s1.1) && decide (s1.1 < (s1.2.length : Int))) <|
       zb s1.2[s1.1.toNat]? fun y3 =>
       need (decide (0 ≤ s1.1) && decide (s1.1 < (s1.2.length : Int))) <|
       zb s1.2[s1.1.toNat]? fun y4 =>
       zb (zT (ibOr IntKind.u8 (y3.toNat : Int) 32)) fun y5 =>
       some (LX.out (s1.1, List.set s1.2 s1.1.toNat y5))
      else
       some (LX.out (s1.1, s1.2))) fun j6 =>
    some (LO.again (w64 (j6.1 + 1), j6.2))
   else
    some (LO.out s1.2)) n ((i : Int), (l.take i).map ziF ++ l.drop i) = some (.out (lowS l)) := by
  intro k
  induction k with
  | zero =>
   intro i hi
   have hi : i = l.length := by omega
   subst hi
   refine ⟨1, ?_⟩
   simp only [zaM, zoz, cond_false]
   simp [lowS]
  | succ k ih =>
   intro i hi
   have hlt : i < l.length := by omega
   obtain ⟨n, hn⟩ := ih (i + 1) (by omega)
   refine ⟨n + 1, ?_⟩
   have hb := UInt8.toNat_lt l[i]
   simp only [zaM, zoF (Nat.le_of_lt hlt), zlT hlt, cond_true, zmA, Bool.and_true, QZ, Int.toNat_natCast, zoE hlt, zb, Option.bind_some]
   cases hc : (bif decide (65 ≤ (l[i].toNat : Int)) then decide ((l[i].toNat : Int) ≤ 90) else false) with
   | true =>
    have e := zrl _ hb hc
    simp only [e, cond_true, Option.bind_some, Zr, zjF hlt h]
    rw [show UInt8.ofNat (zmG l[i].toNat) = ziF l[i] from rfl, zmF hlt]
    exact hn
   | false =>
    have e : ziF l[i] = l[i] := by
     unfold ziF zmG
     rw [if_neg, UInt8.ofNat_toNat]
     rintro ⟨h1, h2⟩
     rw [decide_eq_true (by omega), cond_true, decide_eq_true (by omega)] at hc
     cases hc
    simp only [cond_false, Zr, zjF hlt h]
    rw [zpK hlt ziF e]
    exact hn
 obtain ⟨n, hn⟩ := key l.length 0 (by omega)
 replace hn := ze0 hn
 simp only [List.take_zero, List.map_nil, List.nil_append, List.drop_zero] at hn
 exact (zjc hn).trans rfl
def zbp (l : Str) : Bool := l.all fun b => !(b == 0)
theorem zlH (c : UInt8) : ∀ l : Str, decide (Lib.indexByte l c ≥ 0) = l.any fun b => b == c
 | [] => rfl
 | b :: l => by
  have ih := zlH c l
  have hg := Lib.indexByte_ge l c
  rw [List.any_cons, Lib.indexByte]
  cases hb : (b == c) with
  | true => rfl
  | false =>
   rw [Bool.false_or, ← ih, if_neg (by simp)]
   by_cases h : Lib.indexByte l c = -1
   ·rw [if_pos (by rw [h]; rfl), h]
   ·rw [if_neg (by simpa using h)]
    rw [decide_eq_true (by omega), decide_eq_true (by omega)]
theorem zqN (l : Str) : (l.any fun b => b == 0) = !zbp l := by
 unfold zbp
 induction l with
 | nil => rfl
 | cons b l ih => rw [List.any_cons, List.all_cons, ih]; cases (b == 0) <;> simp
theorem zko (l : Str) (n : Int) : strings_IndexByte (l, n) = some (Lib.indexByte l n.toNat.toUInt8) := rfl
theorem zqD (l : Str) : decide (Lib.indexByte l (0 : Int).toNat.toUInt8 ≥ 0) = !zbp l := (zlH 0 l).trans (zqN l)
theorem zrg (n m : Nat) : decide ((n : Int) > (m : Int)) = !decide (n ≤ m) := by
 by_cases h : n ≤ m
 ·rw [decide_eq_true h, decide_eq_false (by omega)]; rfl
 ·rw [decide_eq_false h, decide_eq_true (by omega)]; rfl
theorem zqf (n m : Nat) : decide ((n : Int) ≤ (m : Int)) = decide (n ≤ m) := by
 by_cases h : n ≤ m
 ·rw [decide_eq_true h, decide_eq_true (by omega)]
 ·rw [decide_eq_false h, decide_eq_false (by omega)]
theorem zfW (l m : Str) : strings_HasPrefix (l, m) = some (m.isPrefixOf l) := by
 have key : ∀ m l : Str, m.isPrefixOf l = (decide (m.length ≤ l.length) && l.take m.length == m) := by
  intro m l
  rw [Bool.eq_iff_iff]
  simp only [List.isPrefixOf_iff_prefix, Bool.and_eq_true, decide_eq_true_eq, beq_iff_eq]
  constructor
  ·rintro ⟨t, rfl⟩
   exact ⟨by simp, by simp⟩
  ·rintro ⟨h1, h2⟩
   exact ⟨l.drop m.length, by rw [← h2, List.length_take, Nat.min_eq_left h1, List.take_append_drop]⟩
 unfold strings_HasPrefix stringslite_HasPrefix
 have e1 : decide ((l.length : Int) ≥ (m.length : Int)) = decide (m.length ≤ l.length) := zqf _ _
 have e2 : decide ((m.length : Int) ≤ (l.length : Int)) = decide (m.length ≤ l.length) := zqf _ _
 simp only [e1, e2, zmA, Bool.true_and, key]
 cases decide (m.length ≤ l.length) <;> rfl
theorem zjC (l m : Str) : strings_TrimPrefix (l, m) = some (bif m.isPrefixOf l then l.drop m.length else l) := by
 have h : stringslite_HasPrefix (l, m) = some (m.isPrefixOf l) := by
  have := zfW l m
  unfold strings_HasPrefix at this
  cases hh : stringslite_HasPrefix (l, m) with
  | none => simp only [hh] at this; cases this
  | some b => simp only [hh] at this; exact this
 unfold strings_TrimPrefix stringslite_TrimPrefix
 simp only [h, zb, Option.bind_some]
 cases hp : m.isPrefixOf l with
 | false => rfl
 | true =>
  have hl := (List.isPrefixOf_iff_prefix.1 hp).length_le
  simp only [cond_true, zmA, Bool.true_and]
  rw [zfH (decide_eq_true (by omega))]
  rfl
theorem znr {a b : Str} (h1 : a.length ≤ big) (h2 : b.length ≤ big) : Qa (a, b) = some (lowS a == lowS b) := by
 unfold Qa
 simp only [ziE h1, ziE h2, zb, Option.bind_some]
end Go.Lv.VT

namespace Go.Lv.VT
def zmk (n : Nat) : Bool :=
 !(n == 0 || n == 9 || n == 10 || n == 12 || n == 13 || n == 32 || n == 34 || n == 39 || n == 40 || n == 41 || n == 44 || n == 58 || n == 59 || n == 91 || n == 93 || n == 95 || n == 123 || n == 125) &&
  (decide (n < 128) && !((decide (48 ≤ n) && decide (n ≤ 57)) || (decide (65 ≤ n) && decide (n ≤ 90)) || (decide (97 ≤ n) && decide (n ≤ 122))))
def digN (n : Nat) : Bool := decide (48 ≤ n) && decide (n ≤ 57)
theorem zki : ∀ n : Nat, n < 256 → qU 1 (n : Int) = some (digN n) := by decide +kernel
theorem zi2 (b : UInt8) : ZH (b.toNat : Int) = some (digN b.toNat) := QI 1 _ _ (zki _ (UInt8.toNat_lt b))
def namN (n : Nat) : Bool := digN n || (decide (65 ≤ n) && decide (n ≤ 90)) || (decide (97 ≤ n) && decide (n ≤ 122)) || n == 95 || n == 45 || decide (128 ≤ n)
theorem zkk : ∀ n : Nat, n < 256 → zah 1 (n : Int) = some (namN n) := by decide +kernel
theorem zi3 (b : UInt8) : Ql (b.toNat : Int) = some (namN b.toNat) := zbm 1 _ _ (zkk _ (UInt8.toNat_lt b))
def zpl : Str → Bool
 | [] => false
 | b :: r => digN b.toNat || (b == 45 && (r == [] || digN (r.headD 0).toNat))
def numS : Str → Bool
 | [] => false
 | b :: r => bif b == 45 then !(r == []) && digN (r.headD 0).toNat else digN b.toNat
theorem zgS (l : Str) : ZM l = some (numS l) := by
 unfold ZM
 simp only [zjC, zb, Option.bind_some]
 have key : ∀ m : Str, ((zx (!(m == [])) (geti m 0) 0).bind fun y2 => (zx (!(m == [])) (ZH (y2.toNat : Int)) (default : Bool)).bind fun y3 => some (bif !(m == []) then y3 else false)) = some (!(m == []) && digN (m.headD 0).toNat) := by
  intro m
  cases m with
  | nil => rfl
  | cons b r =>
   have h0 : geti (b :: r) 0 = some b := rfl
   have hn : (b :: r == ([] : Str)) = false := rfl
   simp only [hn, Bool.not_false, zdI, h0, Option.bind_some, zi2, cond_true, List.headD_cons, Bool.true_and]
 rw [key]
 cases l with
 | nil => rfl
 | cons b r =>
  have e : List.isPrefixOf [45] (b :: r) = (b == 45) := by
   show ((45 == b) && true) = _
   rw [Bool.and_true]
   cases hb : (b == 45) with
   | true => rw [beq_iff_eq] at hb; subst hb; rfl
   | false => rw [beq_eq_false_iff_ne] at hb; exact beq_eq_false_iff_ne.2 (Ne.symm hb)
  rw [e]
  show _ = some (bif b == 45 then !(r == []) && digN (r.headD 0).toNat else digN b.toNat)
  cases b == 45 <;> rfl
theorem zpP (l : Str) : ((numS l && !(List.isPrefixOf [45, 45] l)) || l == [45]) = zpl l := by
 cases l with
 | nil => rfl
 | cons b r =>
  cases hb : (b == 45) with
  | false =>
   have e1 : List.isPrefixOf [45, 45] (b :: r) = false := by
    show ((45 == b) && _) = _
    rw [beq_eq_false_iff_ne] at hb
    rw [beq_eq_false_iff_ne.2 (Ne.symm hb)]; rfl
   have e2 : ((b :: r : Str) == [45]) = false := by
    show ((b == 45) && _) = _
    rw [hb]; rfl
   rw [e1, e2]
   unfold numS zpl
   simp [hb]
  | true =>
   rw [beq_iff_eq] at hb
   subst hb
   cases r with
   | nil => rfl
   | cons d r =>
    have e2 : ((45 :: d :: r : Str) == [45]) = false := rfl
    rw [e2]
    unfold numS zpl
    have e1 : List.isPrefixOf [45, 45] (45 :: d :: r) = (45 == d) := by
     show ((45 == (45 : UInt8)) && ((45 == d) && true)) = _
     rw [Bool.and_true]; rfl
    rw [e1]
    simp only [List.headD_cons]
    have hd : digN 45 = false := by decide
    cases h : (45 == d) with
    | false => simp [hd]
    | true => rw [beq_iff_eq] at h; subst h; rfl
end Go.Lv.VT

namespace Go.Lv.VT
def delS (l : Str) : Bool := match l with
 | [b] => zmk b.toNat
 | _ => false
def rngS (x : ze) : Bool := decide (-1000000000000 ≤ x.num) && (decide (x.num ≤ 1000000000000) && (!x.flag || Int.tmod x.num 1000 == 0))
def zlC (x : ze) : Bool :=
 bif x.kind == 1 || x.kind == 2 || x.kind == 3 then !(x.text == []) && (zbp x.text && (x.num == 0 && (x.unit == [] && !x.flag)))
 else bif x.kind == 4 then !(x.text == []) && (zbp x.text && ((x.flag || zpl x.text) && (x.num == 0 && x.unit == [])))
 else bif x.kind == 5 || x.kind == 7 then zbp x.text && (x.num == 0 && (x.unit == [] && !x.flag))
 else bif x.kind == 9 then delS x.text && (x.num == 0 && (x.unit == [] && !x.flag))
 else bif x.kind == 10 || x.kind == 11 || x.kind == 12 then rngS x && ((!(x.unit == []) == (x.kind == 12)) && (zbp x.unit && ((!(x.kind == 11) || !x.flag) && x.text == [])))
 else (decide (13 ≤ x.kind) && decide (x.kind ≤ 24)) && (x.text == [] && (x.num == 0 && (x.unit == [] && !x.flag)))
abbrev ziy : Str := [32, 9, 10, 12, 13, 34, 39, 58, 59, 44, 91, 93, 40, 41, 123, 125]
theorem zir : ∀ (m : Str) (c : UInt8), Lib.index m [c] = Lib.indexByte m c
 | [], c => rfl
 | b :: l, c => by
  have h : List.isPrefixOf [c] (b :: l) = (b == c) := by
   show (c == b && List.isPrefixOf [] l) = _
   rw [List.isPrefixOf, Bool.and_true]
   by_cases e : b = c
   ·subst e; rfl
   ·rw [beq_eq_false_iff_ne.2 e, beq_eq_false_iff_ne.2 (fun h => e h.symm)]
  rw [Lib.index, Lib.indexByte, h, zir l c]
theorem contains_one (m : Str) (c : UInt8) (hm : short m = true := by decide) : strings_Contains (m, [c]) = some (m.any fun b => b == c) := by
 unfold strings_Contains
 simp only [zeT, hm, QZ, zb, Option.bind_some, zir, zlH]
theorem zhF (c : UInt8) : strings_Contains ([32, 9, 10, 12, 13, 34, 39, 58, 59, 44, 91, 93, 40, 41, 123, 125], [c]) = some (ziy.any fun b => b == c) := contains_one ziy c
theorem zm1 : ∀ n : Nat, n < 256 → ((bif bif !(UInt8.ofNat n == 0) then !namN n else false then true else UInt8.ofNat n == 45) && (!(ziy.any fun b => b == UInt8.ofNat n))) = zmk n := by decide +kernel
theorem zpu (b : UInt8) : ((bif bif !(b == 0) then !namN b.toNat else false then true else b == 45) && (!(ziy.any fun c => c == b))) = zmk b.toNat := by
 have := zm1 b.toNat (UInt8.toNat_lt b)
 rwa [UInt8.ofNat_toNat] at this
theorem zkK (a b : Str) : zbp (a ++ b) = (zbp a && zbp b) := by
 unfold zbp; rw [List.all_append]
theorem zqM (n : Int) : decide (n < 0) = !decide (n ≥ 0) := by
 by_cases h : n < 0
 ·rw [decide_eq_true h, decide_eq_false (by omega)]; rfl
 ·rw [decide_eq_false h, decide_eq_true (by omega)]; rfl
end Go.Lv.VT

namespace Go.Lv.VT
theorem zrm (g d : Bool) (b c : UInt8) : (bif g then namN (bif g then b else c).toNat else d) = bif g then namN b.toNat else d := by cases g <;> rfl
theorem zkj {x : ze} (h1 : x.text.length ≤ big) (h2 : x.unit.length ≤ big) : zaq x = some (zlC x) := by
 unfold zaq
 rw [zfH (zhu.2 (by unfold big at h1 h2; omega))]
 simp only [zb, zko, Option.bind_some]
 have hn : decide (Lib.indexByte (x.text ++ x.unit) (0 : Int).toNat.toUInt8 < 0) = (zbp x.text && zbp x.unit) := by
  rw [zqM, zqD, zkK, Bool.not_not]
 simp only [hn, zgS, zfW, zdH, Option.bind_some, ge_iff_le, bne]
 have hb := zpP x.text
 unfold zlC rngS
 by_cases k9 : x.kind = 9
 ·simp only [k9, Int.reduceBEq, cond_true, cond_false, Zr, Bool.or_false, Bool.false_or]
  cases ht : x.text with
  | nil =>
   have : zbp ([] : Str) = true := rfl
   simp only [this, Bool.true_and]
   cases zbp x.unit <;> rfl
  | cons b r =>
   cases r with
   | nil =>
    have hd := zpu b
    have e1 : ((([b] : Str).length : Int) == 1) = true := rfl
    have e2 : geti [b] 0 = some b := rfl
    have e3 : (([b] : Str) == [45]) = (b == 45) := by
     show ((b == 45) && true) = _
     rw [Bool.and_true]
    have e4 : zbp [b] = !(b == 0) := by show ((!(b == 0)) && true) = _; rw [Bool.and_true]
    have e5 : delS [b] = zmk b.toNat := rfl
    simp only [e1, e2, e3, e4, e5, zhF, zi3, zdH, Option.bind_some, zrm, ← hd]
    cases hu : x.unit with
    | nil =>
     have : zbp ([] : Str) = true := rfl
     simp only [this, Bool.and_true]
     generalize (ziy.any fun c => c == b) = a1
     cases namN b.toNat <;> cases (b == 0) <;> cases (b == 45) <;> cases a1 <;> cases (x.num == 0) <;> cases x.flag <;> rfl
    | cons c s =>
     have : ((c :: s : Str) == []) = false := rfl
     simp only [this]
     generalize zbp (c :: s) = a2
     generalize (ziy.any fun c => c == b) = a1
     cases a2 <;> cases namN b.toNat <;> cases (b == 0) <;> cases (b == 45) <;> cases a1 <;> cases (x.num == 0) <;> cases x.flag <;> rfl
   | cons c r =>
    have e1 : (((b :: c :: r : Str).length : Int) == 1) = false := beq_eq_false_iff_ne.2 (by simp only [List.length_cons]; omega)
    have e3 : ((b :: c :: r : Str) == [45]) = false := by
     show ((b == 45) && false) = _
     rw [Bool.and_false]
    have e5 : delS (b :: c :: r) = false := rfl
    simp only [e1, e3, e5]
    cases (zbp (b :: c :: r) && zbp x.unit) <;> rfl
 have b9 := beq_eq_false_iff_ne.2 k9
 have hu : (x.unit == []) = true → zbp x.unit = true := fun h => by rw [beq_iff_eq] at h; rw [h]; rfl
 have htx : (x.text == []) = true → zbp x.text = true := fun h => by rw [beq_iff_eq] at h; rw [h]; rfl
 rw [← hb]
 generalize hl45 : (x.text == [45]) = a11 at *
 generalize (List.isPrefixOf [45, 45] x.text) = a12 at *
 generalize numS x.text = a3 at *
 generalize zbp x.text = a1 at *
 generalize zbp x.unit = a2 at *
 generalize (x.text == []) = a4 at *
 generalize (x.unit == []) = a5 at *
 generalize (x.num == 0) = a6 at *
 generalize x.flag = a7 at *
 generalize decide (-1000000000000 ≤ x.num) = a8 at *
 generalize decide (x.num ≤ 1000000000000) = a9 at *
 generalize (Int.tmod x.num 1000 == 0) = a10 at *
 clear hb hn hl45
 have K : ∀ k : Int, k ∈ [1, 2, 3, 4, 5, 7, 10, 11, 12] → x.kind = k → True := fun _ _ _ => trivial
 clear K
 by_cases k1 : x.kind = 1
 ·simp only [k1, Zr, cond_true, cond_false, Int.reduceBEq]
  cases a1 <;> cases a2 <;> cases a4 <;> cases a5 <;> cases a6 <;> cases a7 <;> first | rfl | (simp at hu htx; done) | simp_all
 by_cases k2 : x.kind = 2
 ·simp only [k2, Zr, cond_true, cond_false, Int.reduceBEq]
  cases a1 <;> cases a2 <;> cases a4 <;> cases a5 <;> cases a6 <;> cases a7 <;> first | rfl | (simp at hu htx; done) | simp_all
 by_cases k3 : x.kind = 3
 ·simp only [k3, Zr, cond_true, cond_false, Int.reduceBEq]
  cases a1 <;> cases a2 <;> cases a4 <;> cases a5 <;> cases a6 <;> cases a7 <;> first | rfl | (simp at hu htx; done) | simp_all
 by_cases k4 : x.kind = 4
 ·simp only [k4, Zr, cond_true, cond_false, Int.reduceBEq]
  cases a1 <;> cases a2 <;> cases a3 <;> cases a4 <;> cases a5 <;> cases a6 <;> cases a7 <;> cases a11 <;> cases a12 <;> first | rfl | (simp at hu htx; done) | simp_all
 by_cases k5 : x.kind = 5
 ·simp only [k5, Zr, cond_true, cond_false, Int.reduceBEq]
  cases a1 <;> cases a2 <;> cases a5 <;> cases a6 <;> cases a7 <;> first | rfl | (simp at hu htx; done) | simp_all
 by_cases k7 : x.kind = 7
 ·simp only [k7, Zr, cond_true, cond_false, Int.reduceBEq]
  cases a1 <;> cases a2 <;> cases a5 <;> cases a6 <;> cases a7 <;> first | rfl | (simp at hu htx; done) | simp_all
 by_cases k10 : x.kind = 10
 ·simp only [k10, Zr, cond_true, cond_false, Int.reduceBEq]
  cases a1 <;> cases a2 <;> cases a4 <;> cases a5 <;> cases a7 <;> cases a8 <;> cases a9 <;> cases a10 <;> first | rfl | (simp at hu htx; done) | simp_all
 by_cases k11 : x.kind = 11
 ·simp only [k11, Zr, cond_true, cond_false, Int.reduceBEq]
  cases a1 <;> cases a2 <;> cases a4 <;> cases a5 <;> cases a7 <;> cases a8 <;> cases a9 <;> cases a10 <;> first | rfl | (simp at hu htx; done) | simp_all
 by_cases k12 : x.kind = 12
 ·simp only [k12, Zr, cond_true, cond_false, Int.reduceBEq]
  cases a1 <;> cases a2 <;> cases a4 <;> cases a5 <;> cases a7 <;> cases a8 <;> cases a9 <;> cases a10 <;> first | rfl | (simp at hu htx; done) | simp_all
 simp only [b9, beq_eq_false_iff_ne.2 k1, beq_eq_false_iff_ne.2 k2, beq_eq_false_iff_ne.2 k3, beq_eq_false_iff_ne.2 k4, beq_eq_false_iff_ne.2 k5, beq_eq_false_iff_ne.2 k7, beq_eq_false_iff_ne.2 k10, beq_eq_false_iff_ne.2 k11, beq_eq_false_iff_ne.2 k12, Zr, cond_true, cond_false, Bool.or_self]
 cases decide (13 ≤ x.kind) <;> cases decide (x.kind ≤ 24) <;> cases a4 <;> cases a5 <;> cases a6 <;> cases a7 <;> rfl
end Go.Lv.VT

namespace Go.Lv.VT
theorem zlS {R : Type} {step : Int → Option (LO Int Unit R)} {k : Unit → Option R} (n : Nat) (p : Nat → Bool) (r : R)
  (hg : ∀ (i : Nat), i < n → step (i : Int) = some (bif p i then .again ((i + 1 : Nat) : Int) else .ret r)) (hf : step (n : Int) = some (.out ())) :
  Qs step 0 k = bif (List.range n).all p then k () else some r := by
 have e := ziw (k := k) (List.range n) (fun i => bif p i then none else some r) () (fun i hi => ?_) (by simpa using hf)
 ·rw [e, zml]
  cases (List.range n).all p <;> rfl
 ·have hi' : i < n := by simpa using hi
  rw [hg i hi']
  simp only [List.getElem_range]
  cases p i <;> rfl
def zq3 : List ze → Bool
 | [] => false
 | s :: r => bif s.kind == 13 then (match r with | u :: _ => u.kind == 5 | [] => false) else s.kind == 5
def zrn : List ze → Bool
 | [] => false
 | s :: _ => s.kind == 13
def zrj (t : ze) : Bool := t.kind == 2 && lowS t.text == [117, 114, 108]
def okAt : List ze → Bool
 | [] => true
 | t :: r => (!(t.kind == 9 && t.text == [92]) || zrn r) && (!(zrj t) || zq3 r)
def zno (l : List ze) (i : Nat) : Bool := zlC (l.getD i default) && okAt (l.drop i)
def gluS (l : List ze) : Int := bif decide (l.length ≤ 1500) then (bif (List.range l.length).all (zno l) then 0 else 8) else 4
theorem zlZ (l : List ze) (i : Nat) (k : Int) : ZN (((i : Int), k), l) = some (match l[i]? with | some t => t.kind == k | none => false) := by
 unfold ZN
 by_cases h : i < l.length
 ·simp only [zlT h, zdI, zlD h, zb, Option.bind_some, cond_true, List.getElem?_eq_getElem h]
 ·have e : decide ((i : Int) < (l.length : Int)) = false := decide_eq_false (by omega)
  simp only [e, zlt, zb, Option.bind_some, cond_false, List.getElem?_eq_none (Nat.le_of_not_lt h)]
theorem zqJ : lowS [117, 114, 108] = [117, 114, 108] := by decide
theorem zi4 {t : ze} {r : List ze} (h : t.text.length ≤ big) : ∃ n : Int, qH (t :: r) = some n ∧ (n == 0) = !okAt (t :: r) := by
 have e0 : geti (t :: r) 0 = some t := rfl
 have p1 := zlZ (t :: r) 1 13
 have p15 := zlZ (t :: r) 1 5
 have p25 := zlZ (t :: r) 2 5
 unfold qH
 simp only [e0, zb, Option.bind_some, znr h (show ([117, 114, 108] : Str).length ≤ big by decide), zqJ, zdH]
 simp only [Int.natCast_one] at p1 p15
 replace p25 : ZN ((2, 5), t :: r) = _ := p25
 rw [p1]
 unfold okAt zrj
 cases hd : (t.kind == 9 && t.text == [92]) with
 | true =>
  have hk : t.kind = 9 := by rw [Bool.and_eq_true, beq_iff_eq] at hd; exact hd.1
  have ht : (t.text == [92]) = true := by rw [Bool.and_eq_true] at hd; exact hd.2
  simp only [hk, ht, Int.reduceBEq, cond_true, cond_false, Option.bind_some]
  cases r with
  | nil => exact ⟨_, rfl, rfl⟩
  | cons s r =>
   show ∃ n : Int, (bif !(s.kind == 13) then some 0 else some 2) = some n ∧ (n == 0) = !((!true || s.kind == 13) && _)
   cases s.kind == 13
   ·exact ⟨0, rfl, rfl⟩
   ·exact ⟨2, rfl, rfl⟩
 | false =>
  have hc : (bif t.kind == 9 then t.text == [92] else false) = false := by
   cases h9 : t.kind == 9
   ·rfl
   ·rw [h9] at hd; exact hd
  simp only [hc, hd, cond_false, Bool.not_false, Bool.true_or, Bool.true_and]
  cases hu : (t.kind == 2 && lowS t.text == [117, 114, 108]) with
  | false =>
   have : (bif t.kind == 2 then bif t.kind == 2 then lowS t.text == [117, 114, 108] else default else false) = false := by
    cases h2 : t.kind == 2
    ·rfl
    ·rw [h2] at hu; exact hu
   rw [this]
   exact ⟨1, rfl, rfl⟩
  | true =>
   rw [Bool.and_eq_true] at hu
   rw [hu.1, hu.2]
   simp only [cond_true, Option.bind_some]
   cases r with
   | nil => exact ⟨0, by simp [p15], rfl⟩
   | cons s r =>
    cases hs : s.kind == 13 with
    | false =>
     have e1 : (match (t :: s :: r)[1]? with | some t => t.kind == 13 | none => false) = false := hs
     have e5 : ZN ((1, 5), t :: s :: r) = some (s.kind == 5) := p15
     simp only [e1, cond_false, Zr, e5, Option.bind_some, zq3, hs]
     cases s.kind == 5
     ·exact ⟨0, rfl, rfl⟩
     ·exact ⟨2, by rfl, rfl⟩
    | true =>
     have e1 : (match (t :: s :: r)[1]? with | some t => t.kind == 13 | none => false) = true := hs
     simp only [e1, cond_true, Zr, p25, Option.bind_some, zq3, hs]
     cases r with
     | nil => exact ⟨0, rfl, rfl⟩
     | cons u r =>
      show ∃ n : Int, (bif !(u.kind == 5) then some 0 else some (w64 (2 + 1))) = some n ∧ (n == 0) = !(!true || u.kind == 5)
      cases u.kind == 5
      ·exact ⟨0, rfl, rfl⟩
      ·exact ⟨3, rfl, rfl⟩
theorem zm7 (l : List ze) : decide ((l.length : Int) > 1500) = !decide (l.length ≤ 1500) := zrg _ 1500
theorem zi1 {l : List ze} (h : ∀ t ∈ l, t.text.length ≤ big ∧ t.unit.length ≤ big) : zX l = some (gluS l) := by
 unfold zX gluS
 rw [zm7]
 cases hl : decide (l.length ≤ 1500) with
 | false => rfl
 | true =>
  have hl := of_decide_eq_true hl
  simp only [Bool.not_true, cond_false, cond_true]
  refine (zlS l.length (zno l) 8 (fun i hi => ?_) ?_).trans ?_
  ·obtain ⟨g1, g2⟩ := h _ (List.getElem_mem hi)
   have hgd : l.getD i default = l[i] := by simp [hi]
   have hdr := List.drop_eq_getElem_cons hi
   obtain ⟨n, e1, e2⟩ := zi4 (t := l[i]) (r := l.drop (i + 1)) g1
   rw [← hdr] at e1 e2
   have e3 : decide ((i : Int) ≤ (l.length : Int)) = true := decide_eq_true (by omega)
   unfold zno
   simp only [zlT hi, cond_true, zlD hi, zb, Option.bind_some, zkj g1 g2, zmA, e3, Bool.true_and, Bool.true_or, QZ, Int.toNat_natCast, e1, zdH, zjF hi (show l.length ≤ big by unfold big; omega), hgd]
   cases zlC l[i] with
   | false => rfl
   | true =>
    simp only [Bool.not_true, Bool.not_false, cond_true, cond_false, e2, Bool.true_and]
    cases okAt (l.drop i) <;> rfl
  ·simp only [zoz, cond_false]
  ·cases (List.range l.length).all (zno l) <;> rfl
end Go.Lv.VT
