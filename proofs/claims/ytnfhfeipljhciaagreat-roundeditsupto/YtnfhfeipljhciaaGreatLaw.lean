/- Small functions of bytes and texts: small letters, names; the program's and the reference's are the same. -/
import Derived.Test.YtnfhfeipljhciaaGreatTx
import Derived.Test.YtnfhfeipljhciaaGreatMo
import Derived.Test.YtnfhfeipljhciaaGreatIp
import Derived.Test.YtnfhfeipljhciaaGreatLf
namespace Go.Lv.VT
def znF (n : Nat) : Nat := if 65 ≤ n ∧ n ≤ 90 then n + 32 else n
def zl2 (b : UInt8) : UInt8 := UInt8.ofNat (znF b.toNat)
theorem zBC {n : Nat} (h : n < 256) : znF n < 256 := by unfold znF; split <;> omega
theorem zzy (b : UInt8) : (zl2 b).toNat = znF b.toNat := by
 unfold zl2
 rw [UInt8.toNat_ofNat']
 exact Nat.mod_eq_of_lt (zBC (UInt8.toNat_lt b))
theorem zBn : ∀ n : Nat, n < 256 → Qk (n : Int) = some ((znF n : Nat) : Int) := by decide +kernel
theorem zEV : ∀ n : Nat, n < 256 → (bif decide (65 ≤ (n : Int)) then decide ((n : Int) ≤ 90) else false) = true → zbM (ibOr IntKind.u8 (n : Int) 32) = some (UInt8.ofNat (znF n)) := by decide +kernel
def lowS (l : Str) : Str := l.map zl2
theorem zum {α : Type} {l : List α} {i : Nat} (h : i < l.length) (f : α → α) : ((l.take i).map f ++ l.drop i).set i (f l[i]) = (l.take (i + 1)).map f ++ l.drop (i + 1) := by
 apply List.ext_getElem
 ·simp; omega
 ·intro j h1 h2
  rw [List.getElem_set]
  split
  ·rename_i hij; subst hij
   rw [List.getElem_append_left (by simp; omega)]
   simp
  ·rename_i hij
   simp only [List.getElem_append, List.length_map, List.length_take, List.getElem_map, List.getElem_take, List.getElem_drop]
   split
   ·rename_i hlt
    rw [dif_pos (by omega)]
   ·rename_i hlt
    rw [dif_neg (by omega)]
    congr 1; omega
theorem zxu {α : Type} {l : List α} {i : Nat} (h : i < l.length) (f : α → α) : ((l.take i).map f ++ l.drop i)[i]? = some l[i] := by
 rw [List.getElem?_append_right (by simp; omega)]
 simp [h, Nat.min_eq_left (Nat.le_of_lt h)]
theorem ztz {α : Type} {l : List α} {i : Nat} (h : i ≤ l.length) (f : α → α) : ((l.take i).map f ++ l.drop i).length = l.length := by
 simp; omega
theorem zCM {α : Type} {l : List α} {i : Nat} (h : i < l.length) (f : α → α) (e : f l[i] = l[i]) : (l.take i).map f ++ l.drop i = (l.take (i + 1)).map f ++ l.drop (i + 1) := by
 rw [← zum h f, e]
 apply List.ext_getElem?
 intro j
 rw [List.getElem?_set]
 split
 ·rename_i hij
  subst hij
  rw [zxu h, ztz (Nat.le_of_lt h), if_pos h]
 ·rfl
theorem zv1 (i : Nat) : decide ((0 : Int) ≤ (i : Int)) = true := decide_eq_true (by omega)
theorem ziY {l : Str} (h : l.length ≤ big) : ZZ l = some (lowS l) := by
 unfold ZZ
 rw [zpO (decide_eq_true (by unfold big at h; unfold maxLen; omega))]
 have key : ∀ (k i : Nat), i + k = l.length → ∃ n, Z8 (X := List UInt8) (R := Str) (fun (s1 : Int × List UInt8) =>
   bif decide (s1.1 < (s1.2.length : Int)) then
    need (decide (0 ≤ s1.1) && decide (s1.1 < (s1.2.length : Int))) <|
    za s1.2[s1.1.toNat]? fun y2 =>
    za (Qk (y2.toNat : Int)) fun y3 =>
    need (decide (0 ≤ s1.1) && decide (s1.1 < (s1.2.length : Int))) <|
    za s1.2[s1.1.toNat]? fun y4 =>
    za (zbM y3) fun y5 =>
    some (LO.again (w64 (s1.1 + 1), List.set s1.2 s1.1.toNat y5))
   else
    some (LO.out s1.2)) n ((i : Int), (l.take i).map zl2 ++ l.drop i) = some (.out (lowS l)) := by
  intro k
  induction k with
  | zero =>
   intro i hi
   have hi : i = l.length := by omega
   subst hi
   refine ⟨1, ?_⟩
   simp only [Z8, ztz (Nat.le_refl _), zF, cond_false]
   simp [lowS]
  | succ k ih =>
   intro i hi
   have hlt : i < l.length := by omega
   obtain ⟨n, hn⟩ := ih (i + 1) (by omega)
   refine ⟨n + 1, ?_⟩
   have hb := UInt8.toNat_lt l[i]
   simp only [Z8, ztz (Nat.le_of_lt hlt), zM hlt, cond_true, zv1, Bool.and_true, ZT, Int.toNat_natCast, zxu hlt, za, Option.bind_some, zBn _ hb]
   rw [← zzy, zB8, zw hlt h]
   simp only [Option.bind_some, zum hlt]
   exact hn
 obtain ⟨n, hn⟩ := key l.length 0 (by omega)
 replace hn := zbv hn
 simp only [List.take_zero, List.map_nil, List.nil_append, List.drop_zero] at hn
 exact (zb3 hn).trans rfl
theorem zg3 {l : Str} (h : l.length ≤ big) : qK l = some (lowS l) := by
 unfold qK
 rw [zpO (decide_eq_true (by unfold big at h; unfold maxLen; omega))]
 have key : ∀ (k i : Nat), i + k = l.length → ∃ n, Z8 (X := List UInt8) (R := Str) (fun (s1 : Int × List UInt8) =>
   bif decide (s1.1 < (l.length : Int)) then
    zZ (X := Int × List UInt8) (
      need (decide (0 ≤ s1.1) && decide (s1.1 < (s1.2.length : Int))) <|
      za s1.2[s1.1.toNat]? fun y2 =>
      bif bif decide (65 ≤ (y2.toNat : Int)) then decide ((y2.toNat : Int) ≤ 90) else false then
       need (decide (0 ≤ s1.1) && decide (s1.1 < (s1.2.length : Int))) <|
       za s1.2[s1.1.toNat]? fun y3 =>
       need (decide (0 ≤ s1.1) && decide (s1.1 < (s1.2.length : Int))) <|
       za s1.2[s1.1.toNat]? fun y4 =>
       za (zbM (ibOr IntKind.u8 (y3.toNat : Int) 32)) fun y5 =>
       some (LX.out (s1.1, List.set s1.2 s1.1.toNat y5))
      else
       some (LX.out (s1.1, s1.2))) fun j6 =>
    some (LO.again (w64 (j6.1 + 1), j6.2))
   else
    some (LO.out s1.2)) n ((i : Int), (l.take i).map zl2 ++ l.drop i) = some (.out (lowS l)) := by
  intro k
  induction k with
  | zero =>
   intro i hi
   have hi : i = l.length := by omega
   subst hi
   refine ⟨1, ?_⟩
   simp only [Z8, zF, cond_false]
   simp [lowS]
  | succ k ih =>
   intro i hi
   have hlt : i < l.length := by omega
   obtain ⟨n, hn⟩ := ih (i + 1) (by omega)
   refine ⟨n + 1, ?_⟩
   have hb := UInt8.toNat_lt l[i]
   simp only [Z8, ztz (Nat.le_of_lt hlt), zM hlt, cond_true, zv1, Bool.and_true, ZT, Int.toNat_natCast, zxu hlt, za, Option.bind_some]
   cases hc : (bif decide (65 ≤ (l[i].toNat : Int)) then decide ((l[i].toNat : Int) ≤ 90) else false) with
   | true =>
    have e := zEV _ hb hc
    simp only [e, cond_true, Option.bind_some, zJ, zw hlt h]
    rw [show UInt8.ofNat (znF l[i].toNat) = zl2 l[i] from rfl, zum hlt]
    exact hn
   | false =>
    have e : zl2 l[i] = l[i] := by
     unfold zl2 znF
     rw [if_neg, UInt8.ofNat_toNat]
     rintro ⟨h1, h2⟩
     rw [decide_eq_true (by omega), cond_true, decide_eq_true (by omega)] at hc
     cases hc
    simp only [cond_false, zJ, zw hlt h]
    rw [zCM hlt zl2 e]
    exact hn
 obtain ⟨n, hn⟩ := key l.length 0 (by omega)
 replace hn := zbv hn
 simp only [List.take_zero, List.map_nil, List.nil_append, List.drop_zero] at hn
 exact (zb3 hn).trans rfl
def Qf (l : Str) : Bool := l.all fun b => !(b == 0)
theorem zxj (c : UInt8) : ∀ l : Str, decide (Lib.indexByte l c ≥ 0) = l.any fun b => b == c
 | [] => rfl
 | b :: l => by
  have ih := zxj c l
  have hg := Lib.indexByte_ge l c
  rw [List.any_cons, Lib.indexByte]
  cases hb : (b == c) with
  | true => rfl
  | false =>
   rw [Bool.false_or, ← ih, if_neg (by simp)]
   by_cases h : Lib.indexByte l c = -1
   ·rw [if_pos (by rw [h]; rfl), h]
   ·rw [if_neg (by simpa using h)]
    rw [decide_eq_true (by omega), decide_eq_true (by omega)]
theorem zEj (l : Str) : (l.any fun b => b == 0) = !Qf l := by
 unfold Qf
 induction l with
 | nil => rfl
 | cons b l ih => rw [List.any_cons, List.all_cons, ih]; cases (b == 0) <;> simp
theorem zd9 (l : Str) (n : Int) : strings_IndexByte (l, n) = some (Lib.indexByte l n.toNat.toUInt8) := rfl
theorem zpp (l : Str) : decide (Lib.indexByte l (0 : Int).toNat.toUInt8 ≥ 0) = !Qf l := (zxj 0 l).trans (zEj l)
theorem zi3 (l : Str) (m : Int) : zaw (l, m) = some (decide ((l.length : Int) > m) || !Qf l) := by
 unfold zaw
 simp only [zd9, zD, za, Option.bind_some]
 cases decide ((l.length : Int) > m) with
 | true => rfl
 | false => exact congrArg some (zpp l)
def zgX (l : Str) : Bool := !(l == []) && (decide (l.length ≤ 64) && Qf l)
theorem Q6 (n m : Nat) : decide ((n : Int) > (m : Int)) = !decide (n ≤ m) := by
 by_cases h : n ≤ m
 ·rw [decide_eq_true h, decide_eq_false (by omega)]; rfl
 ·rw [decide_eq_false h, decide_eq_true (by omega)]; rfl
theorem zh1 (l : Str) : QH l = some (zgX l) := by
 unfold QH zgX
 simp only [zi3, zD, za, Option.bind_some]
 have : decide ((l.length : Int) > 64) = !decide (l.length ≤ 64) := Q6 _ 64
 rw [this]
 cases l == [] <;> cases decide (l.length ≤ 64) <;> cases Qf l <;> rfl
theorem byte_zero (b : UInt8) : ((b.toNat : Int) == 0) = (b == 0) := by
 by_cases h : b = 0
 ·subst h; rfl
 ·have h2 : b.toNat ≠ 0 := fun e => h (UInt8.toNat_inj.1 e)
  rw [beq_eq_false_iff_ne.2 h, beq_eq_false_iff_ne.2 (by omega)]
theorem zkc {l : Str} (m : Int) (h : l.length ≤ big) : zce (l, m) = some (Qf l && decide ((l.length : Int) ≤ m)) := by
 unfold zce
 refine (ZJ l (fun b => bif (!(b == 0)) then none else some false) () (fun i hi => ?_) ?_).trans ?_
 ·simp only [zM hi, cond_true, zH hi, za, Option.bind_some, byte_zero, zw hi h]
  cases l[i] == 0 <;> rfl
 ·simp only [zF, cond_false]
 ·rw [QV]
  show _ = some (Qf l && _)
  unfold Qf
  cases l.all (fun b => !(b == 0)) <;> rfl
theorem zgz {l : Str} (h : l.length ≤ big) : QS l = some (zgX l) := by
 unfold QS zgX
 simp only [zkc _ h, zD, za, Option.bind_some]
 have : decide ((l.length : Int) ≤ 64) = decide (l.length ≤ 64) := by
  by_cases h : l.length ≤ 64
  ·rw [decide_eq_true h, decide_eq_true (by omega)]
  ·rw [decide_eq_false h, decide_eq_false (by omega)]
 rw [this]
 cases l == [] <;> cases decide (l.length ≤ 64) <;> cases Qf l <;> rfl
def zki (l : Str) : Bool := zgX l && lowS l == l
theorem zh2 {l : Str} (h : l.length ≤ big) : QI l = some (zki l) := by
 unfold QI zki
 simp only [zh1, zg3 h, zD, za, Option.bind_some]
 cases zgX l <;> rfl
theorem zkJ (a b : Str) : (a == b) = (b == a) := by
 cases h : (a == b) with
 | true => rw [beq_iff_eq] at h; subst h; exact (beq_self_eq_true a).symm
 | false => rw [beq_eq_false_iff_ne] at h; exact (beq_eq_false_iff_ne.2 (Ne.symm h)).symm
theorem zkb {l : Str} (h : l.length ≤ big) : zcd l = some (zki l) := by
 unfold zcd zki
 simp only [zgz h, ziY h, zD, za, Option.bind_some]
 cases zgX l
 ·rfl
 ·exact congrArg some (zkJ l (lowS l))
theorem zn3 (l : Str) : zda l = some (!zgX l) := by
 unfold zda zgX
 simp only [zd9, zD, za, Option.bind_some]
 have : decide ((l.length : Int) > 64) = !decide (l.length ≤ 64) := Q6 _ 64
 rw [this]
 cases l == [] <;> cases decide (l.length ≤ 64) <;> first | rfl | exact congrArg some (zpp l)
theorem znz (n m : Nat) : decide ((n : Int) ≤ (m : Int)) = decide (n ≤ m) := by
 by_cases h : n ≤ m
 ·rw [decide_eq_true h, decide_eq_true (by omega)]
 ·rw [decide_eq_false h, decide_eq_false (by omega)]
theorem zfr {α : Type} (l : List α) : decide ((l.length : Int) < 1) = l.isEmpty := by
 cases l with
 | nil => rfl
 | cons a l => exact decide_eq_false (by simp only [List.length_cons]; omega)
theorem zeJ {f : Option Int} {p : Bool} {i : Int} (h : f = some i) (hp : decide (i ≥ 0) = p) : (za f fun y => some (decide (y ≥ 0))) = some p := by
 rw [h]; exact congrArg some hp
def zhH (l : List Str) : Bool := !l.isEmpty && (decide (l.length ≤ 16) && l.all zgX)
theorem zmi {α : Type} (p : α → Bool) (l : List α) : (l.any fun v => !p v) = !l.all p := by
 induction l with
 | nil => rfl
 | cons v l ih => rw [List.any_cons, List.all_cons, ih]; cases p v <;> rfl
theorem zvI {l : List Str} (h : l.length ≤ big) : ZV l = some (idxS (fun v => !zgX v) l) := by
 unfold ZV
 refine zeL l _ h (fun i hi => ?_) ?_
 ·simp only [zM hi, cond_true, zH hi, za, Option.bind_some, zn3]
 ·simp only [zF, cond_false]
theorem zmr {l : List Str} (h : l.length ≤ big) : Zx l = some (!l.all zgX) := by
 unfold Zx
 exact zeJ (zvI h) ((zdG _ _).trans (zmi _ _))
theorem zrW {l : List Str} (h : l.length ≤ big) : zfM l = some (zhH l) := by
 unfold zfM zhH
 have e1 : decide ((l.length : Int) > 0) = !l.isEmpty := by
  cases l with
  | nil => rfl
  | cons a l => exact decide_eq_true (by simp only [List.length_cons]; omega)
 have e2 : decide ((l.length : Int) ≤ 16) = decide (l.length ≤ 16) := znz _ 16
 simp only [zmr h, zD, za, Option.bind_some, e1, e2]
 cases l.isEmpty <;> cases decide (l.length ≤ 16) <;> cases l.all zgX <;> rfl
theorem zqk {l : List Str} (h : l.length ≤ big) (hv : ∀ v ∈ l, v.length ≤ big) : zbr l = some (zhH l) := by
 unfold zbr zhH
 have e2 : decide ((l.length : Int) > 16) = !decide (l.length ≤ 16) := Q6 _ 16
 rw [zfr, e2]
 have e3 : ∀ (k : Unit → Option Bool), k () = some true → zN (fun (s1 : Int) =>
    bif decide (s1 < (l.length : Int)) then
     za (geti l s1) fun y2 =>
     za (QS y2) fun y3 =>
     bif !y3 then
      some (LO.ret false)
     else
      some (LO.again (w64 (s1 + 1)))
    else
     some (LO.out ())) 0 k = some (l.all zgX) := by
  intro k hk
  refine (ZJ l (fun b => bif zgX b then none else some false) () (fun i hi => ?_) ?_).trans ?_
  ·simp only [zM hi, cond_true, zH hi, za, Option.bind_some, zgz (hv _ (List.getElem_mem hi)), zw hi h]
   cases zgX l[i] <;> rfl
  ·simp only [zF, cond_false]
  ·rw [QV]
   cases l.all zgX
   ·rfl
   ·exact hk
 rw [e3 _ rfl]
 cases l.isEmpty <;> cases decide (l.length ≤ 16) <;> rfl
theorem zf0 (l m : Str) : strings_HasPrefix (l, m) = some (m.isPrefixOf l) := by
 have key : ∀ m l : Str, m.isPrefixOf l = (decide (m.length ≤ l.length) && l.take m.length == m) := by
  intro m l
  rw [Bool.eq_iff_iff]
  simp only [List.isPrefixOf_iff_prefix, Bool.and_eq_true, decide_eq_true_eq, beq_iff_eq]
  constructor
  ·rintro ⟨t, rfl⟩
   exact ⟨by simp, by simp⟩
  ·rintro ⟨h1, h2⟩
   exact ⟨l.drop m.length, by rw [← h2, List.length_take, Nat.min_eq_left h1, List.take_append_drop]⟩
 unfold strings_HasPrefix stringslite_HasPrefix
 have e1 : decide ((l.length : Int) ≥ (m.length : Int)) = decide (m.length ≤ l.length) := znz _ _
 have e2 : decide ((m.length : Int) ≤ (l.length : Int)) = decide (m.length ≤ l.length) := znz _ _
 simp only [e1, e2, zv1, Bool.true_and, key]
 cases decide (m.length ≤ l.length) <;> rfl
theorem zuM (l m : Str) : strings_TrimPrefix (l, m) = some (bif m.isPrefixOf l then l.drop m.length else l) := by
 have h : stringslite_HasPrefix (l, m) = some (m.isPrefixOf l) := by
  have := zf0 l m
  unfold strings_HasPrefix at this
  cases hh : stringslite_HasPrefix (l, m) with
  | none => simp only [hh] at this; cases this
  | some b => simp only [hh] at this; exact this
 unfold strings_TrimPrefix stringslite_TrimPrefix
 simp only [h, za, Option.bind_some]
 cases hp : m.isPrefixOf l with
 | false => rfl
 | true =>
  have hl := (List.isPrefixOf_iff_prefix.1 hp).length_le
  simp only [cond_true, zv1, Bool.true_and]
  rw [zpO (decide_eq_true (by omega))]
  rfl
theorem zzp {a b : Str} (h1 : a.length ≤ big) (h2 : b.length ≤ big) : zfm (a, b) = some (lowS a == lowS b) := by
 unfold zfm
 simp only [zg3 h1, zg3 h2, za, Option.bind_some]
theorem zBk {a b : Str} (h1 : a.length ≤ big) (h2 : b.length ≤ big) : Qj (a, b) = some (lowS a == lowS b) := by
 unfold Qj
 simp only [ziY h1, ziY h2, za, Option.bind_some]
end Go.Lv.VT

namespace Go.Lv.VT
def zL {α : Type} (f : α → List PV) (l : List α) : Nat := zsX (l.map f)
theorem zqY {α : Type} (f : α → List PV) : zL f [] = 0 := rfl
theorem qX {α : Type} (f : α → List PV) (v : α) (l : List α) : zL f (v :: l) = zt (f v) + zL f l := rfl
theorem ZA {α : Type} {f : α → List PV} {v : α} : ∀ {l : List α}, v ∈ l → zt (f v) ≤ zL f l
 | [], h => by cases h
 | x :: l, h => by
  rw [qX]
  rcases List.mem_cons.1 h with rfl | h
  ·omega
  ·have := ZA (f := f) h; omega
theorem Zm {α : Type} {f : α → List PV} (hf : ∀ v, 1 ≤ zt (f v)) : ∀ (l : List α), l.length ≤ zL f l
 | [] => Nat.le_refl _
 | v :: l => by rw [qX, List.length_cons]; have := Zm hf l; have := hf v; omega
theorem zE9 {α : Type} {f : α → List PV} {a b : List α} (h : a.Sublist b) : zL f a ≤ zL f b := by
 induction h with
 | slnil => exact Nat.le_refl _
 | cons v _ ih => rw [qX]; omega
 | cons_cons v _ ih => rw [qX, qX]; omega
theorem zDF : ∀ l : List UInt8, zsX (l.map fun y => [PV.at (.int .u8 ((y.toNat : Nat) : Int))]) = l.length
 | [] => rfl
 | b :: l => by
  have := zDF l
  simp only [List.map_cons, zsX, zt, bPV, List.length_cons] at this ⊢
  omega
theorem qM (x : zb) : zt (ze x) = 3 + zL zI x.parts + x.combs.length := by
 rw [znH]
 simp only [zt, bPV, zDF, zL]
 omega
theorem Z6 (x : zA) : zt (zI x) = 2 + x.tag.length + zL zO x.simples := by
 rw [zmu]
 simp only [zt, bPV, zL]
 omega
theorem qI (x : zy) : zt (zO x) = 9 + x.name.length + x.value.length + zL ze x.list := by
 rw [zph]
 simp only [zt, bPV, zL]
 omega
theorem zBY (x : zf) : zt (zU x) = 6 + x.token.text.length + x.token.unit.length + zL zU x.list := by
 rw [zq3]
 simp only [zt, bPV, zL]
 omega
theorem QL (x : Zh) : zt (Zc x) = 3 + x.name.length + zL zU x.value := by
 unfold Zc
 simp only [zt, bPV, zL]
 omega
theorem zdb (x : zk) : zt (zq x) = 4 + x.name.length + zt (Zc x.decl) + zL zq x.list - 1 + 1 := by
 rw [QL]
 rw [zlf]
 simp only [zt, bPV, zL]
 omega
theorem zDg (x : List Str) : zt [.sl (x.map fun y => [.str y])] = 1 + zL (fun y => [.str y]) x := by
 simp only [zt, bPV, zL]
 omega
theorem zb8 (x : zu) : zt (zh x) = 5 + zL ze x.selectors + zL Zc x.decls + zt (zq x.cond) + zL (fun l => [.sl (l.map fun y => [.str y])]) x.names + zL zh x.rules := by
 rw [ztg, zdb, QL]
 simp only [zt, bPV, zL]
 omega
theorem qj (x : zb) : 1 ≤ zt (ze x) := by have := qM x; omega
theorem qW (x : zA) : 1 ≤ zt (zI x) := by have := Z6 x; omega
theorem zaH (x : zy) : 1 ≤ zt (zO x) := by have := qI x; omega
theorem zaS (x : Zh) : 1 ≤ zt (Zc x) := by have := QL x; omega
theorem zmf (x : zk) : 1 ≤ zt (zq x) := by have := zdb x; omega
theorem zan (x : zu) : 1 ≤ zt (zh x) := by have := zb8 x; omega
end Go.Lv.VT

namespace Go.Lv.VT
theorem zht (c : zb) : (⟨c.lead, c.parts, c.combs⟩ : zb) = c := by cases c; rfl
theorem znw (c : zA) : (⟨c.tag, c.simples⟩ : zA) = c := by cases c; rfl
theorem zgR (c : zy) : (⟨c.kind, c.name, c.op, c.value, c.fold, c.anb, c.of_, c.list⟩ : zy) = c := by cases c; rfl
def zuS (n : Int) : Bool := decide (-1000000000 ≤ n) && decide (n ≤ 1000000000)
def anbS (a : VAnb) : Bool := zuS a.a && zuS a.b
def anb0 (a : VAnb) : Bool := a.a == 0 && a.b == 0
def zyw (x : zy) : Bool := x.op == 0 && (x.value == [] && (!x.fold && (anb0 x.anb && !x.of_)))
def zxg (x : zy) : Bool :=
 bif x.kind == 1 || x.kind == 2 then zgX x.name && zyw x
 else bif x.kind == 3 then zki x.name && (decide (x.op ≤ 6) && ((Qf x.value && decide (x.value.length ≤ 400)) && ((!(x.op == 0) || x.value == [] && !x.fold) && (anb0 x.anb && !x.of_))))
 else bif x.kind == 9 || x.kind == 10 then anbS x.anb && (x.name == [] && (x.op == 0 && (x.value == [] && !x.fold)))
 else (decide (4 ≤ x.kind) && decide (x.kind ≤ 14)) && (x.name == [] && zyw x)
def hasS (x : zy) : Bool := bif x.kind == 9 || x.kind == 10 then x.of_ else decide (11 ≤ x.kind) && decide (x.kind ≤ 14)
def zsi (x : zy) : Bool := x.kind == 11 || x.kind == 12
def zo2 (b : UInt8) : Bool := decide (1 ≤ b.toNat) && decide (b.toNat ≤ 4)
def tagS (t : Str) : Bool := t == [] || (t == [42] || zki t)
def zCb (c : zA) : Bool := tagS c.tag && ((!(c.tag == []) || !c.simples.isEmpty) && decide (c.simples.length ≤ 64))
def zCw (c : zb) (b : Bool) : Bool := (b == (c.lead != 0)) && (decide (c.lead ≤ 4) && (decide (c.combs.length + 1 = c.parts.length) && (decide (c.parts.length ≤ 64) && c.combs.all zo2)))
mutual
def Qs : zb → Nat → Bool → Bool → Bool
 | ⟨lead, parts, combs⟩, d, h, b => zCw ⟨lead, parts, combs⟩ b && zwm parts d h
def zwm : List zA → Nat → Bool → Bool
 | [], _, _ => true
 | c :: r, d, h => qN c d h && zwm r d h
def qN : zA → Nat → Bool → Bool
 | ⟨tag, simples⟩, d, h => zCb ⟨tag, simples⟩ && zl1 simples d h
def zl1 : List zy → Nat → Bool → Bool
 | [], _, _ => true
 | x :: r, d, h => zci x d h && zl1 r d h
def zci : zy → Nat → Bool → Bool
 | ⟨kind, name, op, value, fold, anb, of_, list⟩, d, h => zxg ⟨kind, name, op, value, fold, anb, of_, list⟩ &&
   (bif hasS ⟨kind, name, op, value, fold, anb, of_, list⟩ then
    !(d == 3 || h && kind == 14) && ((zsi ⟨kind, name, op, value, fold, anb, of_, list⟩ || !list.isEmpty) && zAD list (d + 1) (h || kind == 14) (kind == 14))
   else list.isEmpty)
def zAD : List zb → Nat → Bool → Bool → Bool
 | [], _, _, _ => true
 | c :: r, d, h, b => Qs c d h b && zAD r d h b
end
theorem zwU (c : zb) (d : Nat) (h b : Bool) : Qs c d h b = (zCw c b && c.parts.all fun c => qN c d h) := by
 obtain ⟨lead, parts, combs⟩ := c
 rw [Qs]
 have : ∀ l, zwm l d h = l.all fun c => qN c d h := by
  intro l
  induction l with
  | nil => rw [zwm]; rfl
  | cons c l ih => rw [zwm, ih]; rfl
 rw [this]
theorem zns (c : zA) (d : Nat) (h : Bool) : qN c d h = (zCb c && c.simples.all fun x => zci x d h) := by
 obtain ⟨tag, simples⟩ := c
 rw [qN]
 have : ∀ l, zl1 l d h = l.all fun c => zci c d h := by
  intro l
  induction l with
  | nil => rw [zl1]; rfl
  | cons c l ih => rw [zl1, ih]; rfl
 rw [this]
theorem zAE (l : List zb) (d : Nat) (h b : Bool) : zAD l d h b = l.all fun c => Qs c d h b := by
 induction l with
 | nil => rw [zAD]; rfl
 | cons c l ih => rw [zAD, ih]; rfl
theorem zsH (x : zy) (d : Nat) (h : Bool) : zci x d h = (zxg x &&
   (bif hasS x then !(d == 3 || h && x.kind == 14) && ((zsi x || !x.list.isEmpty) && x.list.all fun c => Qs c (d + 1) (h || x.kind == 14) (x.kind == 14)) else x.list.isEmpty)) := by
 obtain ⟨kind, name, op, value, fold, anb, of_, list⟩ := x
 rw [zci, zAE]
theorem Zl {α : Type} (l : List α) : ((l.length : Int) == 0) = l.isEmpty := by
 cases l with
 | nil => rfl
 | cons a l => exact beq_eq_false_iff_ne.2 (by simp only [List.length_cons]; omega)
theorem ziS {α : Type} (l : List α) : decide ((l.length : Int) > 0) = !l.isEmpty := by
 cases l with
 | nil => rfl
 | cons a l => exact decide_eq_true (by simp only [List.length_cons]; omega)
theorem zuW (a : VAnb) : zgD a = some (bif anbS a then 0 else 8) := by
 unfold zgD zgE anbS zuS
 simp only [zD, za, Option.bind_some]
 cases decide (-1000000000 ≤ a.a) <;> cases decide (a.a ≤ 1000000000) <;> cases decide (-1000000000 ≤ a.b) <;> cases decide (a.b ≤ 1000000000) <;> rfl
theorem zxD {d : Nat} (hd : d ≤ 3) (h : Bool) (k : Int) : zaR (⟨(d : Int), h⟩, k) = some (bif d == 3 || h && k == 14 then (⟨0, false⟩, false) else (⟨((d + 1 : Nat) : Int), h || k == 14⟩, true)) := by
 unfold zaR
 have e1 : ((d : Int) == 3) = (d == 3) := by
  by_cases hh : d = 3
  ·subst hh; rfl
  ·rw [beq_eq_false_iff_ne.2 hh, beq_eq_false_iff_ne.2 (by omega)]
 simp only [e1]
 have e2 : d ≠ 3 → w64 ((d : Int) + 1) = ((d + 1 : Nat) : Int) := fun hh => zw (n := 4) (by omega) (by decide)
 cases hb : (d == 3) with
 | true => rfl
 | false =>
  rw [e2 (by simpa using hb)]
  cases h <;> cases (k == 14) <;> rfl
theorem zCJ (x : zy) : zc7 x = some (hasS x, bif x.kind == 9 || x.kind == 10 then false else !(x.kind == 13 || x.kind == 14)) := by
 unfold zc7 hasS
 by_cases h9 : x.kind = 9
 ·simp [h9]
 by_cases h10 : x.kind = 10
 ·simp [h10]
 by_cases h11 : x.kind = 11
 ·simp [h11]
 by_cases h12 : x.kind = 12
 ·simp [h12]
 by_cases h13 : x.kind = 13
 ·simp [h13]
 by_cases h14 : x.kind = 14
 ·simp [h14]
 have e : (decide (11 ≤ x.kind) && decide (x.kind ≤ 14)) = false := by
  rw [Bool.and_eq_false_iff]
  by_cases hh : 11 ≤ x.kind
  ·exact .inr (decide_eq_false (by omega))
  ·exact .inl (decide_eq_false hh)
 have b9 := beq_eq_false_iff_ne.2 h9
 have b10 := beq_eq_false_iff_ne.2 h10
 have b11 := beq_eq_false_iff_ne.2 h11
 have b12 := beq_eq_false_iff_ne.2 h12
 have b13 := beq_eq_false_iff_ne.2 h13
 have b14 := beq_eq_false_iff_ne.2 h14
 simp only [b9, b10, b11, b12, b13, b14, e, cond_false, zJ, Bool.or_self, Bool.not_false]
theorem zAq {x : zy} (h1 : x.name.length ≤ big) (k : Option Bool) (hk : k = some true) :
  ((bif bif bif !(x.kind == 3) then bif bif x.op != 0 then true else !(x.value == []) then true else x.fold else false then true else bif !(bif x.kind == 9 then true else x.kind == 10) then bif x.of_ then true else !(x.anb.a == 0 && (x.anb.b == 0 && true)) else false then
  some false
 else
  zZ (X := Bool) (
    bif x.kind == 1 then
     some (LX.out (x.kind == 1))
    else
     some (LX.out (x.kind == 2))) fun j5 =>
  bif j5 then
   za (QH x.name) fun y6 =>
   some y6
  else
   bif x.kind == 3 then
    za (QI x.name) fun y7 =>
    za (zz (bif y7 then decide (x.op ≤ 6) else false) (zaw (x.value, 400)) (default : Bool)) fun y8 =>
    some (bif bif bif y7 then decide (x.op ≤ 6) else false then !y8 else false then bif x.op != 0 then true else bif x.value == [] then !x.fold else false else false)
   else
    za (zz (!(!(bif x.kind == 9 then true else x.kind == 10)) && (bif bif x.name == [] then decide (x.kind ≥ 4) else false then decide (x.kind ≤ 14) else false)) (zgD x.anb) (default : Int)) fun y9 =>
    some (bif bif bif x.name == [] then decide (x.kind ≥ 4) else false then decide (x.kind ≤ 14) else false then bif !(bif x.kind == 9 then true else x.kind == 10) then true else y9 == 0 else false)) : Option Bool) = some (zxg x) := by
 have e400 : decide ((x.value.length : Int) > 400) = !decide (x.value.length ≤ 400) := Q6 _ 400
 simp only [zh1, zh2 h1, zi3, zuW, zD, za, Option.bind_some, e400, bne, ge_iff_le]
 unfold zxg zyw anb0
 generalize zgX x.name = a1
 generalize zki x.name = a2
 generalize Qf x.value = a3
 generalize decide (x.value.length ≤ 400) = a4
 generalize decide (x.op ≤ 6) = a5
 generalize (x.op == 0) = a6
 generalize (x.value == []) = a7
 generalize (x.name == []) = a8
 generalize (x.anb.a == 0) = a9
 generalize (x.anb.b == 0) = a10
 generalize anbS x.anb = a11
 generalize x.fold = a12
 generalize x.of_ = a13
 have fin : ∀ kd : Int, kd = 1 ∨ kd = 2 ∨ kd = 3 ∨ kd = 9 ∨ kd = 10 → x.kind = kd → True := fun _ _ _ => trivial
 clear e400 hk fin h1
 by_cases k1 : x.kind = 1
 ·simp only [k1]; revert a1 a2 a3 a4 a5 a6 a7 a8 a9 a10 a11 a12 a13; clear k1 k x; decide +kernel
 by_cases k2 : x.kind = 2
 ·simp only [k2]; revert a1 a2 a3 a4 a5 a6 a7 a8 a9 a10 a11 a12 a13; clear k1 k2 k x; decide +kernel
 by_cases k3 : x.kind = 3
 ·simp only [k3]; revert a1 a2 a3 a4 a5 a6 a7 a8 a9 a10 a11 a12 a13; clear k1 k2 k3 k x; decide +kernel
 by_cases k9 : x.kind = 9
 ·simp only [k9]; revert a1 a2 a3 a4 a5 a6 a7 a8 a9 a10 a11 a12 a13; clear k1 k2 k3 k9 k x; decide +kernel
 by_cases k10 : x.kind = 10
 ·simp only [k10]; revert a1 a2 a3 a4 a5 a6 a7 a8 a9 a10 a11 a12 a13; clear k1 k2 k3 k9 k10 k x; decide +kernel
 simp only [beq_eq_false_iff_ne.2 k1, beq_eq_false_iff_ne.2 k2, beq_eq_false_iff_ne.2 k3, beq_eq_false_iff_ne.2 k9, beq_eq_false_iff_ne.2 k10]
 generalize decide (4 ≤ x.kind) = a14
 generalize decide (x.kind ≤ 14) = a15
 clear k1 k2 k3 k9 k10 k x
 revert a1 a2 a3 a4 a5 a6 a7 a8 a9 a10 a11 a12 a13 a14 a15
 decide +kernel
end Go.Lv.VT

namespace Go.Lv.VT
def fP (z : zb × zn × Bool) : Bool := Qs z.1 z.2.1.deep.toNat z.2.1.has z.2.2
def okPl (z : zb × zn × Bool) : Prop := zt (ze z.1) ≤ big ∧ ∃ d : Nat, d ≤ 3 ∧ z.2.1.deep = (d : Int)
section
variable {S : zb × zn × Bool → Option Bool} {N : Nat} (hS : ∀ z, okPl z → zt (ze z.1) < N → S z = some (fP z)) (hN : N ≤ big)
include hS hN
theorem hSel {c : zb} {d : Nat} {h b : Bool} (hc : zt (ze c) < N) (hd : d ≤ 3) : S (c, ⟨(d : Int), h⟩, b) = some (Qs c d h b) :=
 hS (c, ⟨(d : Int), h⟩, b) ⟨by show zt (ze c) ≤ big; omega, d, hd, rfl⟩ hc
theorem zxa {x : zy} (hx : zt (zO x) ≤ N) {d : Nat} (hd : d ≤ 3) (h : Bool) :
  Zq S (x.list, ⟨(d : Int), h⟩, x) = some (!x.list.all fun c => Qs c d h (x.kind == 14)) := by
 have hz := qI x
 have hlen := Zm qj x.list
 unfold Zq qm
 refine zeJ (zeL x.list (fun c => !Qs c d h (x.kind == 14)) (by omega) (fun i hi => ?_) ?_) ((zdG _ _).trans (zmi _ _))
 ·have hm := ZA (f := ze) (List.getElem_mem hi)
  simp only [zM hi, cond_true, zH hi, za, Option.bind_some, zb6, zht]
  rw [hSel hS hN (by omega) hd]
  rfl
 ·simp only [zF, cond_false]
theorem zxP {x : zy} (hx : zt (zO x) ≤ N) {d : Nat} (hd : d ≤ 3) (h : Bool) : za1 S (x, ⟨(d : Int), h⟩) = some (zci x d h) := by
 have hz := qI x
 rw [zsH]
 unfold za1
 simp only [zgR, zCJ, za, Option.bind_some, zxD hd, Zl, ziS]
 have hflat := zAq (x := x) (by omega) (some true) rfl
 simp only [za] at hflat
 have go : ∀ (j : Option (LX Unit Bool)) (b : Bool), j = some (bif b then .out () else .ret false) → (zZ j fun _ => some (zxg x)) = some (zxg x && b) := by
  intro j b hj
  subst hj
  cases b with
  | true => simp only [cond_true, zJ, Bool.and_true]
  | false => simp only [cond_false, zvN, Bool.and_false]
 rw [hflat]
 refine go _ _ ?_
 cases hh : hasS x with
 | false => cases x.list.isEmpty <;> rfl
 | true =>
  simp only [cond_true]
  have he : (bif x.kind == 9 || x.kind == 10 then false else !(x.kind == 13 || x.kind == 14)) = zsi x := by
   unfold zsi
   unfold hasS at hh
   by_cases h9 : x.kind = 9
   ·simp only [h9]; rfl
   by_cases h10 : x.kind = 10
   ·simp only [h10]; rfl
   simp only [beq_eq_false_iff_ne.2 h9, beq_eq_false_iff_ne.2 h10, Bool.or_self, cond_false, Bool.and_eq_true, decide_eq_true_eq] at hh ⊢
   have : x.kind = 11 ∨ x.kind = 12 ∨ x.kind = 13 ∨ x.kind = 14 := by omega
   rcases this with h | h | h | h <;> (rw [h]; rfl)
  cases hp : (d == 3 || h && x.kind == 14) with
  | true => rfl
  | false =>
   have hd3 : d ≠ 3 := by
    intro hc; rw [hc] at hp; cases hp
   simp only [cond_false, zxa hS hN hx (show d + 1 ≤ 3 by omega), zD, Option.bind_some, he]
   cases zsi x <;> cases x.list.isEmpty <;> cases x.list.all (fun c => Qs c (d + 1) (h || x.kind == 14) (x.kind == 14)) <;> rfl
theorem zs6 {c : zA} (hx : zt (zI c) ≤ N) {d : Nat} (hd : d ≤ 3) (h : Bool) : zaQ S (c, ⟨(d : Int), h⟩) = some (qN c d h) := by
 have hz := Z6 c
 have hlen := Zm zaH c.simples
 have e64 : decide ((c.simples.length : Int) > 64) = !decide (c.simples.length ≤ 64) := Q6 _ 64
 rw [zns]
 unfold zaQ zCb tagS
 have hl : ∀ b : Bool, zN (fun (s2 : Int) =>
    bif decide (s2 < (c.simples.length : Int)) then
     za (geti c.simples s2) fun y3 =>
     za (za1 S ((⟨y3.kind, y3.name, y3.op, y3.value, y3.fold, y3.anb, y3.of_, y3.list⟩ : zy), ⟨(d : Int), h⟩)) fun y4 =>
     bif !y4 then
      some (LO.ret false)
     else
      some (LO.again (w64 (s2 + 1)))
    else
     some (LO.out ())) 0 (fun _ => some b) = some (b && c.simples.all fun x => zci x d h) := by
  intro b
  refine (ZJ c.simples (fun x => bif zci x d h then none else some false) () (fun i hi => ?_) ?_).trans ?_
  ·have hm := ZA (f := zO) (List.getElem_mem hi)
   simp only [zM hi, cond_true, zH hi, za, Option.bind_some, zgR, zxP hS hN (show zt (zO c.simples[i]) ≤ N by omega) hd h, zw hi (show c.simples.length ≤ big by omega)]
   cases zci c.simples[i] d h <;> rfl
  ·simp only [zF, cond_false]
  ·rw [QV]
   cases c.simples.all fun x => zci x d h
   ·cases b <;> rfl
   ·cases b <;> rfl
 simp only [zh2 (show c.tag.length ≤ big by omega), zD, za, Option.bind_some, e64, ziS] at hl ⊢
 rw [hl]
 cases c.tag == [] <;> cases c.tag == [42] <;> cases zki c.tag <;> cases decide (c.simples.length ≤ 64) <;> cases c.simples.isEmpty <;> rfl
end
theorem zzq {c : zb} {d : Nat} {h b : Bool} (hc : zt (ze c) ≤ big) (hd : d ≤ 3) : zl (c, ⟨(d : Int), h⟩, b) = some (Qs c d h b) := by
 refine Zg (fun z => zt (ze z.1)) okPl fP (fun S z hz hS => ?_) (x := (c, ⟨(d : Int), h⟩, b)) ⟨hc, d, hd, rfl⟩
 obtain ⟨c, ⟨dp, h⟩, b⟩ := z
 obtain ⟨hc, d, hd, he⟩ := hz
 have he : dp = (d : Int) := he
 subst he
 have hc : zt (ze c) ≤ big := hc
 have hzc := qM c
 have hlen := Zm qW c.parts
 show _ = some (Qs c ((d : Int).toNat) h b)
 rw [Int.toNat_natCast, zwU]
 unfold zc9 zCw
 have e1 : decide (c.lead > 4) = !decide (c.lead ≤ 4) := by
  by_cases hh : c.lead ≤ 4
  ·rw [decide_eq_true hh, decide_eq_false (by omega)]; rfl
  ·rw [decide_eq_false hh, decide_eq_true (by omega)]; rfl
 have e2 : (w64 ((c.combs.length : Int) + 1) != (c.parts.length : Int)) = !decide (c.combs.length + 1 = c.parts.length) := by
  rw [zw (n := big) (i := c.combs.length) (by omega) (Nat.le_refl _)]
  by_cases hh : c.combs.length + 1 = c.parts.length
  ·rw [decide_eq_true hh, hh]; simp
  ·rw [decide_eq_false hh]; simp; omega
 have e3 : decide ((c.parts.length : Int) > 64) = !decide (c.parts.length ≤ 64) := Q6 _ 64
 have hcon : Zw S (c.parts, ⟨(d : Int), h⟩) = some (!c.parts.all fun x => qN x d h) := by
  unfold Zw qC
  refine zeJ (zeL c.parts (fun x => !qN x d h) (by omega) (fun i hi => ?_) ?_) ((zdG _ _).trans (zmi _ _))
  ·have hm := ZA (f := zI) (List.getElem_mem hi)
   simp only [zM hi, cond_true, zH hi, za, Option.bind_some, zc8, znw]
   rw [zs6 (N := zt (ze c)) hS (by omega) (by omega) hd]
   rfl
  ·simp only [zF, cond_false]
 have hl : ∀ p : Bool, zN (fun (s1 : Int) =>
    bif decide (s1 < (c.combs.length : Int)) then
     za (geti c.combs s1) fun y2 =>
     bif bif decide ((y2.toNat : Int) < 1) then true else decide ((y2.toNat : Int) > 4) then
      some (LO.ret false)
     else
      some (LO.again (w64 (s1 + 1)))
    else
     some (LO.out ())) 0 (fun _ => some p) = some (c.combs.all zo2 && p) := by
  intro p
  refine (ZJ c.combs (fun b => bif zo2 b then none else some false) () (fun i hi => ?_) ?_).trans ?_
  ·simp only [zM hi, cond_true, zH hi, za, Option.bind_some, zw hi (show c.combs.length ≤ big by omega)]
   have g1 : decide ((c.combs[i].toNat : Int) < 1) = !decide (1 ≤ c.combs[i].toNat) := by
    by_cases hh : 1 ≤ c.combs[i].toNat
    ·rw [decide_eq_true hh, decide_eq_false (by omega)]; rfl
    ·rw [decide_eq_false hh, decide_eq_true (by omega)]; rfl
   have g2 : decide ((c.combs[i].toNat : Int) > 4) = !decide (c.combs[i].toNat ≤ 4) := Q6 _ 4
   rw [g1, g2]
   unfold zo2
   cases decide (1 ≤ c.combs[i].toNat) <;> cases decide (c.combs[i].toNat ≤ 4) <;> rfl
  ·simp only [zF, cond_false]
  ·rw [QV]
   cases c.combs.all zo2 <;> rfl
 simp only [hcon, za, Option.bind_some, e1, e2, e3, Bool.not_not] at hl ⊢
 rw [hl]
 cases (b == (c.lead != 0)) <;> cases decide (c.lead ≤ 4) <;> cases decide (c.combs.length + 1 = c.parts.length) <;> cases decide (c.parts.length ≤ 64) <;> rfl
end Go.Lv.VT

namespace Go.Lv.VT
def fR (z : zb × zK × Bool) : Bool := Qs z.1 z.2.1.deep.toNat z.2.1.has z.2.2
def okR (z : zb × zK × Bool) : Prop := zt (ze z.1) ≤ big ∧ ∃ d : Nat, d ≤ 3 ∧ z.2.1.deep = (d : Int)
theorem zB4 {d : Nat} (hd : d ≤ 3) (h : Bool) (k : Int) : zfH (⟨(d : Int), h⟩, k) = some (bif d == 3 || h && k == 14 then (⟨(d : Int), h⟩, false) else (⟨((d + 1 : Nat) : Int), h || k == 14⟩, true)) := by
 unfold zfH
 have e1 : ((d : Int) == 3) = (d == 3) := by
  by_cases hh : d = 3
  ·subst hh; rfl
  ·rw [beq_eq_false_iff_ne.2 hh, beq_eq_false_iff_ne.2 (by omega)]
 simp only [e1]
 have e2 : d ≠ 3 → w64 ((d : Int) + 1) = ((d + 1 : Nat) : Int) := fun hh => zw (n := 4) (by omega) (by decide)
 cases hb : (d == 3) with
 | true => rfl
 | false =>
  rw [e2 (by simpa using hb)]
  cases h <;> cases (k == 14) <;> rfl
theorem valid_eq (a : VAnb) : zfD a = some (anbS a) := by
 unfold zfD anbS zuS
 simp only [ge_iff_le]
 cases decide (-1000000000 ≤ a.a) <;> cases decide (a.a ≤ 1000000000) <;> cases decide (-1000000000 ≤ a.b) <;> cases decide (a.b ≤ 1000000000) <;> rfl
section
variable {S : zb × zK × Bool → Option Bool} {N : Nat} (hS : ∀ z, okR z → zt (ze z.1) < N → S z = some (fR z)) (hN : N ≤ big)
include hS hN
theorem hSr {c : zb} {d : Nat} {h b : Bool} (hc : zt (ze c) < N) (hd : d ≤ 3) : S (c, ⟨(d : Int), h⟩, b) = some (Qs c d h b) :=
 hS (c, ⟨(d : Int), h⟩, b) ⟨by show zt (ze c) ≤ big; omega, d, hd, rfl⟩ hc
theorem zAF {x : zy} (hx : zt (zO x) ≤ N) {d : Nat} (hd : d ≤ 3) (h : Bool) :
  zbo S (x.list, ⟨(d : Int), h⟩, x.kind) = some (!(d == 3 || h && x.kind == 14) && x.list.all fun c => Qs c (d + 1) (h || x.kind == 14) (x.kind == 14)) := by
 have hz := qI x
 have hlen := Zm qj x.list
 unfold zbo
 simp only [zB4 hd, za, Option.bind_some]
 cases hp : (d == 3 || h && x.kind == 14) with
 | true => rfl
 | false =>
  have hd3 : d ≠ 3 := by
   intro hc; rw [hc] at hp; cases hp
  simp only [cond_false, Bool.not_true, Bool.not_false, Bool.true_and]
  refine (ZJ x.list (fun c => bif Qs c (d + 1) (h || x.kind == 14) (x.kind == 14) then none else some false) () (fun i hi => ?_) ?_).trans ?_
  ·have hm := ZA (f := ze) (List.getElem_mem hi)
   simp only [zM hi, cond_true, zH hi, Option.bind_some, zht, zw hi (show x.list.length ≤ big by omega)]
   rw [hSr hS hN (by omega) (show d + 1 ≤ 3 by omega)]
   simp only [Option.bind_some]
   cases Qs x.list[i] (d + 1) (h || x.kind == 14) (x.kind == 14) <;> rfl
  ·simp only [zF, cond_false]
  ·rw [QV]
   cases x.list.all fun c => Qs c (d + 1) (h || x.kind == 14) (x.kind == 14) <;> rfl
theorem zzu {x : zy} (hx : zt (zO x) ≤ N) {d : Nat} (hd : d ≤ 3) (h : Bool) : zcv S (x, ⟨(d : Int), h⟩) = some (zci x d h) := by
 have hz := qI x
 have h400 : decide ((x.value.length : Int) ≤ 400) = decide (x.value.length ≤ 400) := znz _ 400
 rw [zsH]
 unfold zcv zav
 simp only [za, Option.bind_some, zgR, zAF hS hN hx hd, zgz (show x.name.length ≤ big by omega), zkb (show x.name.length ≤ big by omega), zkc _ (show x.value.length ≤ big by omega), h400, valid_eq, zD, Zl, ziS, bne, ge_iff_le]
 generalize x.list.all (fun c => Qs c (d + 1) (h || x.kind == 14) (x.kind == 14)) = b1
 generalize hb2 : (d == 3 || h && x.kind == 14) = b2
 unfold zxg zyw anb0 hasS zsi
 generalize x.list.isEmpty = b3
 generalize zgX x.name = a1
 generalize zki x.name = a2
 generalize Qf x.value = a3
 generalize decide (x.value.length ≤ 400) = a4
 generalize decide (x.op ≤ 6) = a5
 generalize (x.op == 0) = a6
 generalize (x.value == []) = a7
 generalize (x.name == []) = a8
 generalize (x.anb.a == 0) = a9
 generalize (x.anb.b == 0) = a10
 generalize anbS x.anb = a11
 generalize x.fold = a12
 generalize x.of_ = a13
 simp only [beq_self_eq_true]
 clear hb2 h400 hz hx hS
 by_cases k1 : x.kind = 1
 ·simp only [k1]; cases a1 <;> cases a6 <;> cases a7 <;> cases a9 <;> cases a10 <;> cases a12 <;> cases a13 <;> rfl
 by_cases k2 : x.kind = 2
 ·simp only [k2]; cases a1 <;> cases a6 <;> cases a7 <;> cases a9 <;> cases a10 <;> cases a12 <;> cases a13 <;> rfl
 by_cases k3 : x.kind = 3
 ·simp only [k3]; cases a2 <;> cases a3 <;> cases a4 <;> cases a5 <;> cases a6 <;> cases a7 <;> cases a9 <;> cases a10 <;> cases a12 <;> cases a13 <;> rfl
 by_cases k9 : x.kind = 9
 ·simp only [k9]; cases a6 <;> cases a7 <;> cases a8 <;> cases a11 <;> cases a12 <;> cases a13 <;> cases b1 <;> cases b2 <;> cases b3 <;> rfl
 by_cases k10 : x.kind = 10
 ·simp only [k10]; cases a6 <;> cases a7 <;> cases a8 <;> cases a11 <;> cases a12 <;> cases a13 <;> cases b1 <;> cases b2 <;> cases b3 <;> rfl
 by_cases k11 : x.kind = 11
 ·simp only [k11]; cases a6 <;> cases a7 <;> cases a8 <;> cases a9 <;> cases a10 <;> cases a12 <;> cases a13 <;> cases b1 <;> cases b2 <;> cases b3 <;> rfl
 by_cases k12 : x.kind = 12
 ·simp only [k12]; cases a6 <;> cases a7 <;> cases a8 <;> cases a9 <;> cases a10 <;> cases a12 <;> cases a13 <;> cases b1 <;> cases b2 <;> cases b3 <;> rfl
 by_cases k13 : x.kind = 13
 ·simp only [k13]; cases a6 <;> cases a7 <;> cases a8 <;> cases a9 <;> cases a10 <;> cases a12 <;> cases a13 <;> cases b1 <;> cases b2 <;> cases b3 <;> rfl
 by_cases k14 : x.kind = 14
 ·simp only [k14]; cases a6 <;> cases a7 <;> cases a8 <;> cases a9 <;> cases a10 <;> cases a12 <;> cases a13 <;> cases b1 <;> cases b2 <;> cases b3 <;> rfl
 have d1 : decide (4 ≤ x.kind) = true ∨ decide (4 ≤ x.kind) = false := (Bool.eq_false_or_eq_true _)
 simp only [beq_eq_false_iff_ne.2 k1, beq_eq_false_iff_ne.2 k2, beq_eq_false_iff_ne.2 k3, beq_eq_false_iff_ne.2 k9, beq_eq_false_iff_ne.2 k10, beq_eq_false_iff_ne.2 k11, beq_eq_false_iff_ne.2 k12, beq_eq_false_iff_ne.2 k13, beq_eq_false_iff_ne.2 k14]
 have e11 : (decide (11 ≤ x.kind) && decide (x.kind ≤ 14)) = false := by
  rw [Bool.and_eq_false_iff]
  by_cases hh : 11 ≤ x.kind
  ·exact .inr (decide_eq_false (by omega))
  ·exact .inl (decide_eq_false hh)
 rw [e11]
 by_cases k4 : x.kind = 4
 ·simp only [k4]; cases a6 <;> cases a7 <;> cases a8 <;> cases a9 <;> cases a10 <;> cases a12 <;> cases a13 <;> cases b3 <;> rfl
 by_cases k5 : x.kind = 5
 ·simp only [k5]; cases a6 <;> cases a7 <;> cases a8 <;> cases a9 <;> cases a10 <;> cases a12 <;> cases a13 <;> cases b3 <;> rfl
 by_cases k6 : x.kind = 6
 ·simp only [k6]; cases a6 <;> cases a7 <;> cases a8 <;> cases a9 <;> cases a10 <;> cases a12 <;> cases a13 <;> cases b3 <;> rfl
 by_cases k7 : x.kind = 7
 ·simp only [k7]; cases a6 <;> cases a7 <;> cases a8 <;> cases a9 <;> cases a10 <;> cases a12 <;> cases a13 <;> cases b3 <;> rfl
 by_cases k8 : x.kind = 8
 ·simp only [k8]; cases a6 <;> cases a7 <;> cases a8 <;> cases a9 <;> cases a10 <;> cases a12 <;> cases a13 <;> cases b3 <;> rfl
 have e4 : (decide (4 ≤ x.kind) && decide (x.kind ≤ 14)) = false := by
  rw [Bool.and_eq_false_iff]
  by_cases hh : 4 ≤ x.kind
  ·exact .inr (decide_eq_false (by omega))
  ·exact .inl (decide_eq_false hh)
 rw [e4]
 simp only [beq_eq_false_iff_ne.2 k4, beq_eq_false_iff_ne.2 k5, beq_eq_false_iff_ne.2 k6, beq_eq_false_iff_ne.2 k7, beq_eq_false_iff_ne.2 k8]
 rfl
end
end Go.Lv.VT

namespace Go.Lv.VT
section
variable {S : zb × zK × Bool → Option Bool} {N : Nat} (hS : ∀ z, okR z → zt (ze z.1) < N → S z = some (fR z)) (hN : N ≤ big)
include hS hN
theorem zvj {c : zA} (hx : zt (zI c) ≤ N) {d : Nat} (hd : d ≤ 3) (h : Bool) : zaZ S (c, ⟨(d : Int), h⟩) = some (qN c d h) := by
 have hz := Z6 c
 have hlen := Zm zaH c.simples
 have e64 : decide ((c.simples.length : Int) > 64) = !decide (c.simples.length ≤ 64) := Q6 _ 64
 rw [zns]
 unfold zaZ zCb tagS
 have hl : zN (fun (s2 : Int) =>
    bif decide (s2 < (c.simples.length : Int)) then
     za (geti c.simples s2) fun y3 =>
     za (zcv S ((⟨y3.kind, y3.name, y3.op, y3.value, y3.fold, y3.anb, y3.of_, y3.list⟩ : zy), ⟨(d : Int), h⟩)) fun y4 =>
     bif !y4 then
      some (LO.ret false)
     else
      some (LO.again (w64 (s2 + 1)))
    else
     some (LO.out ())) 0 (fun _ => some true) = some (c.simples.all fun x => zci x d h) := by
  refine (ZJ c.simples (fun x => bif zci x d h then none else some false) () (fun i hi => ?_) ?_).trans ?_
  ·have hm := ZA (f := zO) (List.getElem_mem hi)
   simp only [zM hi, cond_true, zH hi, za, Option.bind_some, zgR, zzu hS hN (show zt (zO c.simples[i]) ≤ N by omega) hd h, zw hi (show c.simples.length ≤ big by omega)]
   cases zci c.simples[i] d h <;> rfl
  ·simp only [zF, cond_false]
  ·rw [QV]
   cases c.simples.all fun x => zci x d h <;> rfl
 simp only [zkb (show c.tag.length ≤ big by omega), zD, za, Option.bind_some, e64, Zl] at hl ⊢
 rw [hl]
 cases c.tag == [] <;> cases c.tag == [42] <;> cases zki c.tag <;> cases decide (c.simples.length ≤ 64) <;> cases c.simples.isEmpty <;> rfl
end
theorem zDI {α β : Type} (p : α → Bool) (q : β → Bool) : ∀ (l : List α) (m : List β), m.length + 1 = l.length →
  ((∀ i (h : i < l.length), p l[i] = true ∧ (∀ (h' : i - 1 < m.length), 0 < i → q m[i - 1] = true)) ↔ (l.all p = true ∧ m.all q = true)) := by
 intro l m hlm
 simp only [List.all_eq_true]
 constructor
 ·intro hh
  refine ⟨fun v hv => ?_, fun v hv => ?_⟩
  ·obtain ⟨i, hi, rfl⟩ := List.getElem_of_mem hv
   exact (hh i hi).1
  ·obtain ⟨i, hi, rfl⟩ := List.getElem_of_mem hv
   exact (hh (i + 1) (by omega)).2 (by omega) (by omega)
 ·rintro ⟨h1, h2⟩ i hi
  exact ⟨h1 _ (List.getElem_mem hi), fun h' _ => h2 _ (List.getElem_mem h')⟩
theorem zfp {R : Type} {step : Int → Option (LO Int Unit R)} {k : Unit → Option R} (n : Nat) (p : Nat → Bool) (r : R)
  (hg : ∀ (i : Nat), i < n → step (i : Int) = some (bif p i then .again ((i + 1 : Nat) : Int) else .ret r)) (hf : step (n : Int) = some (.out ())) :
  zN step 0 k = bif (List.range n).all p then k () else some r := by
 have e := ZJ (k := k) (List.range n) (fun i => bif p i then none else some r) () (fun i hi => ?_) (by simpa using hf)
 ·rw [e, QV]
  cases (List.range n).all p <;> rfl
 ·have hi' : i < n := by simpa using hi
  rw [hg i hi']
  simp only [List.getElem_range]
  cases p i <;> rfl
theorem zBo {c : zb} {d : Nat} {h b : Bool} (hc : zt (ze c) ≤ big) (hd : d ≤ 3) : zQ (c, ⟨(d : Int), h⟩, b) = some (Qs c d h b) := by
 refine Zg (fun z => zt (ze z.1)) okR fR (fun S z hz hS => ?_) (x := (c, ⟨(d : Int), h⟩, b)) ⟨hc, d, hd, rfl⟩
 obtain ⟨c, ⟨dp, h⟩, b⟩ := z
 obtain ⟨hc, d, hd, he⟩ := hz
 have he : dp = (d : Int) := he
 subst he
 have hc : zt (ze c) ≤ big := hc
 have hzc := qM c
 have hlen := Zm qW c.parts
 show _ = some (Qs c ((d : Int).toNat) h b)
 rw [Int.toNat_natCast, zwU]
 unfold zeT zCw
 have e1 : decide (c.lead > 4) = !decide (c.lead ≤ 4) := by
  by_cases hh : c.lead ≤ 4
  ·rw [decide_eq_true hh, decide_eq_false (by omega)]; rfl
  ·rw [decide_eq_false hh, decide_eq_true (by omega)]; rfl
 have e3 : decide ((c.parts.length : Int) > 64) = !decide (c.parts.length ≤ 64) := Q6 _ 64
 have e4 : ((c.lead != 0) == b) = (b == (c.lead != 0)) := by cases b <;> cases (c.lead != 0) <;> rfl
 simp only [e1, e3, e4, Zl, Bool.not_not]
 cases hp : c.parts with
 | nil => simp
 | cons p ps =>
  rw [← hp]
  have hne : c.parts.isEmpty = false := by rw [hp]; rfl
  have hpos : 0 < c.parts.length := by rw [hp]; simp
  have e2 : ((c.combs.length : Int) != w64 ((c.parts.length : Int) - 1)) = !decide (c.combs.length + 1 = c.parts.length) := by
   have : w64 ((c.parts.length : Int) - 1) = ((c.parts.length - 1 : Nat) : Int) := by
    rw [w64, ZL (by omega) (by unfold big at hc; omega)]; omega
   rw [this]
   by_cases hh : c.combs.length + 1 = c.parts.length
   ·rw [decide_eq_true hh]; simp; omega
   ·rw [decide_eq_false hh]; simp; omega
  rw [e2, hne]
  cases hlm : decide (c.combs.length + 1 = c.parts.length) with
  | false => cases (b == (c.lead != 0)) <;> cases decide (c.lead ≤ 4) <;> cases decide (c.parts.length ≤ 64) <;> rfl
  | true =>
   have hlm := of_decide_eq_true hlm
   have hl : zN (fun (s1 : Int) =>
    bif decide (s1 < (c.parts.length : Int)) then
     za (geti c.parts s1) fun y2 =>
     za (zaZ S ((⟨y2.tag, y2.simples⟩ : zA), ⟨(d : Int), h⟩)) fun y3 =>
     za (zz (decide (s1 > 0) && !(!y3)) (geti c.combs (w64 (s1 - 1))) (default : UInt8)) fun y4 =>
     za (zz (!(decide ((y4.toNat : Int) < 1)) && (decide (s1 > 0) && !(!y3))) (geti c.combs (w64 (s1 - 1))) (default : UInt8)) fun y5 =>
     bif bif !y3 then true else bif decide (s1 > 0) then bif decide ((y4.toNat : Int) < 1) then true else decide ((y5.toNat : Int) > 4) else false then
      some (LO.ret false)
     else
      some (LO.again (w64 (s1 + 1)))
    else
     some (LO.out ())) 0 (fun _ => some true) = some (c.combs.all zo2 && c.parts.all fun x => qN x d h) := by
    refine (zfp c.parts.length (fun i => qN (c.parts.getD i default) d h && (i == 0 || zo2 (c.combs.getD (i - 1) 0))) false (fun i hi => ?_) ?_).trans ?_
    ·have hm := ZA (f := zI) (List.getElem_mem hi)
     have hgd : c.parts.getD i default = c.parts[i] := by simp [hi]
     simp only [zM hi, cond_true, zH hi, za, Option.bind_some, znw, zvj (N := zt (ze c)) hS hc (show zt (zI c.parts[i]) ≤ zt (ze c) by omega) hd, zw hi (show c.parts.length ≤ big by omega), hgd]
     cases i with
     | zero => cases qN c.parts[0] d h <;> rfl
     | succ i =>
      have hi2 : i < c.combs.length := by omega
      have g0 : decide (((i + 1 : Nat) : Int) > 0) = true := decide_eq_true (by omega)
      have g3 : w64 (((i + 1 : Nat) : Int) - 1) = (i : Int) := by rw [w64, ZL (by omega) (by unfold big at hc; omega)]; omega
      have g4 : c.combs.getD (i + 1 - 1) 0 = c.combs[i] := by simp [hi2]
      have g1 : decide ((c.combs[i].toNat : Int) < 1) = !decide (1 ≤ c.combs[i].toNat) := by
       by_cases hh : 1 ≤ c.combs[i].toNat
       ·rw [decide_eq_true hh, decide_eq_false (by omega)]; rfl
       ·rw [decide_eq_false hh, decide_eq_true (by omega)]; rfl
      have g2 : decide ((c.combs[i].toNat : Int) > 4) = !decide (c.combs[i].toNat ≤ 4) := Q6 _ 4
      rw [g0, g3, g4, zH hi2]
      cases qN c.parts[i + 1] d h with
      | false => rfl
      | true =>
       simp only [Bool.not_true, Bool.not_false, Bool.and_true, Bool.true_and, zT, Option.bind_some, cond_false, cond_true, g1, zD, g2]
       unfold zo2
       cases h1 : decide (1 ≤ c.combs[i].toNat) <;> cases h2 : decide (c.combs[i].toNat ≤ 4) <;> simp [h2, g2] <;> omega
    ·simp only [zF, cond_false]
    ·have : (List.range c.parts.length).all (fun i => qN (c.parts.getD i default) d h && (i == 0 || zo2 (c.combs.getD (i - 1) 0))) = (c.combs.all zo2 && c.parts.all fun x => qN x d h) := by
      rw [Bool.eq_iff_iff, Bool.and_eq_true, and_comm, ← zDI _ _ _ _ hlm, List.all_eq_true]
      constructor
      ·intro hh i hi
       have := hh i (List.mem_range.2 hi)
       rw [Bool.and_eq_true, Bool.or_eq_true] at this
       refine ⟨by have h1 := this.1; simpa [hi] using h1, fun h' h0 => ?_⟩
       rcases this.2 with h2 | h2
       ·rw [beq_iff_eq] at h2; omega
       ·simpa [h'] using h2
      ·intro hh i hi
       have hi := List.mem_range.1 hi
       obtain ⟨h1, h2⟩ := hh i hi
       rw [Bool.and_eq_true, Bool.or_eq_true]
       refine ⟨by simpa [hi] using h1, ?_⟩
       by_cases h0 : i = 0
       ·exact .inl (by simp [h0])
       ·have h' : i - 1 < c.combs.length := by omega
        exact .inr (by have := h2 h' (by omega); simpa [h'] using this)
     rw [this]
     cases (c.combs.all zo2 && c.parts.all fun x => qN x d h) <;> rfl
   simp only [Bool.not_not] at hl
   rw [hl]
   cases (b == (c.lead != 0)) <;> cases decide (c.lead ≤ 4) <;> cases decide (c.parts.length ≤ 64) <;> rfl
end Go.Lv.VT

namespace Go.Lv.VT
theorem zhA {α R : Type} {step : Int × Int → Option (LO (Int × Int) Int R)} {k : Int → Option R} (l : List α) (f : α → Nat) (a0 M : Nat) (hb : a0 + (l.map f).sum ≤ M)
  (hg : ∀ (i a : Nat) (h : i < l.length), a + f l[i] ≤ M → step ((a : Int), (i : Int)) = some (.again (((a + f l[i] : Nat) : Int), ((i + 1 : Nat) : Int))))
  (hf : ∀ a : Nat, step ((a : Int), (l.length : Int)) = some (.out (a : Int))) : zN step ((a0 : Int), 0) k = k ((a0 + (l.map f).sum : Nat) : Int) := by
 have key : ∀ (m : List α) (i a : Nat), l.drop i = m → i ≤ l.length → a + (m.map f).sum ≤ M → ∃ n, Z8 step n ((a : Int), (i : Int)) = some (.out ((a + (m.map f).sum : Nat) : Int)) := by
  intro m
  induction m with
  | nil =>
   intro i a hd hi _
   have : i = l.length := by have := List.drop_eq_nil_iff.1 hd; omega
   subst this
   exact ⟨1, by simp only [Z8, hf]; simp⟩
  | cons v m ih =>
   intro i a hd hi hM
   have hlt : i < l.length := by
    rcases Nat.lt_or_ge i l.length with h | h
    ·exact h
    ·rw [List.drop_eq_nil_of_le h] at hd; cases hd
   have hv : l[i] = v := by
    have := List.drop_eq_getElem_cons hlt
    rw [hd] at this
    injection this with h1 _
    exact h1.symm
   rw [List.map_cons, List.sum_cons] at hM ⊢
   have hs := hg i a hlt (by rw [hv]; omega)
   rw [hv] at hs
   obtain ⟨n, hn⟩ := ih (i + 1) (a + f v) (by rw [List.drop_eq_getElem_cons hlt] at hd; injection hd) (by omega) (by omega)
   refine ⟨n + 1, ?_⟩
   simp only [Z8, hs]
   rw [hn, Nat.add_assoc]
 obtain ⟨n, hn⟩ := key l 0 a0 rfl (by omega) hb
 replace hn : Z8 step n ((a0 : Int), 0) = _ := hn
 rw [zb3 (zbv hn)]
 rfl
mutual
/-- How many complex ones there are, in all. -/
def numL : List zb → Nat
 | [] => 0
 | ⟨_, parts, _⟩ :: r => 1 + numP parts + numL r
def numP : List zA → Nat
 | [] => 0
 | ⟨_, simples⟩ :: r => numI simples + numP r
def numI : List zy → Nat
 | [] => 0
 | ⟨_, _, _, _, _, _, _, list⟩ :: r => numL list + numI r
end
theorem zAX (l : List zy) : numI l = (l.map fun x => numL x.list).sum := by
 induction l with
 | nil => rw [numI]; rfl
 | cons x l ih => obtain ⟨⟩ := x; rw [numI, ih]; rfl
theorem zA0 (l : List zA) : numP l = (l.map fun x => numI x.simples).sum := by
 induction l with
 | nil => rw [numP]; rfl
 | cons x l ih => obtain ⟨⟩ := x; rw [numP, ih]; rfl
theorem zAZ (l : List zb) : numL l = l.length + (l.map fun x => numP x.parts).sum := by
 induction l with
 | nil => rw [numL]; rfl
 | cons x l ih => obtain ⟨⟩ := x; rw [numL, ih, List.map_cons, List.sum_cons, List.length_cons]; dsimp only; omega
mutual
theorem ztE : ∀ l : List zb, numL l ≤ zL ze l
 | [] => by rw [numL]; exact Nat.zero_le _
 | ⟨a, parts, b⟩ :: r => by
  rw [numL, qX, qM]
  have := zA1 parts
  have := ztE r
  show 1 + numP parts + numL r ≤ 3 + zL zI parts + b.length + _
  omega
theorem zA1 : ∀ l : List zA, numP l ≤ zL zI l
 | [] => by rw [numP]; exact Nat.zero_le _
 | ⟨a, simples⟩ :: r => by
  rw [numP, qX, Z6]
  have := zAY simples
  have := zA1 r
  show numI simples + numP r ≤ 2 + a.length + zL zO simples + _
  omega
theorem zAY : ∀ l : List zy, numI l ≤ zL zO l
 | [] => by rw [numI]; exact Nat.zero_le _
 | ⟨a, b, c, d, e, f, g, list⟩ :: r => by
  rw [numI, qX, qI]
  have := ztE list
  have := zAY r
  show numL list + numI r ≤ 9 + b.length + d.length + zL ze list + _
  omega
end
theorem zm8 {a b : Nat} (h : a + b ≤ big) : w64 ((a : Int) + (b : Int)) = ((a + b : Nat) : Int) := by
 rw [w64, ZL (by omega) (by unfold big at h; omega)]; omega
theorem zn2 {l : List zb} (h : zL ze l ≤ big) : qA l = some (numL l : Int) := by
 refine Zg (fun l => zL ze l) (fun l => zL ze l ≤ big) (fun l => (numL l : Int)) (fun S l hl hS => ?_) h
 unfold zc6
 have hn := ztE l
 have hlen := Zm qj l
 rw [zAZ] at hn ⊢
 refine (zhA l (fun x => numP x.parts) l.length big (by omega) (fun i a hi ha => ?_) (fun a => ?_)).trans rfl
 ·have hm := ZA (f := ze) (List.getElem_mem hi)
  have hz := qM l[i]
  have hlen2 := Zm qW l[i].parts
  simp only [zM hi, cond_true, zH hi, za, Option.bind_some, zw hi (show l.length ≤ big by omega)]
  rw [zA0] at ha ⊢
  refine (zhA l[i].parts (fun x => numI x.simples) a big ha (fun j b hj hb => ?_) (fun a => ?_)).trans rfl
  ·have hm2 := ZA (f := zI) (List.getElem_mem hj)
   have hz2 := Z6 l[i].parts[j]
   have hlen3 := Zm zaH l[i].parts[j].simples
   simp only [zM hj, cond_true, zH hj, Option.bind_some, zw hj (show l[i].parts.length ≤ big by omega)]
   rw [zAX] at hb ⊢
   refine (zhA l[i].parts[j].simples (fun x => numL x.list) b big hb (fun m c hm3 hc => ?_) (fun a => ?_)).trans rfl
   ·have hm4 := ZA (f := zO) (List.getElem_mem hm3)
    have hz3 := qI l[i].parts[j].simples[m]
    simp only [zM hm3, cond_true, zH hm3, Option.bind_some, zw hm3 (show l[i].parts[j].simples.length ≤ big by omega)]
    rw [hS _ (by show zL ze l[i].parts[j].simples[m].list ≤ big; omega) (by show zL ze l[i].parts[j].simples[m].list < zL ze l; omega)]
    simp only [Option.bind_some, zm8 hc]
   ·simp only [zF, cond_false]
  ·simp only [zF, cond_false]
 ·simp only [zF, cond_false]
theorem zqh {l : List zb} (h : zL ze l ≤ big) : Qc l = some (numL l : Int) := by
 refine Zg (fun l => zL ze l) (fun l => zL ze l ≤ big) (fun l => (numL l : Int)) (fun S l hl hS => ?_) h
 unfold zdP
 have hn := ztE l
 have hlen := Zm qj l
 rw [zAZ] at hn ⊢
 refine (zhA l (fun x => numP x.parts) l.length big (by omega) (fun i a hi ha => ?_) (fun a => ?_)).trans rfl
 ·have hm := ZA (f := ze) (List.getElem_mem hi)
  have hz := qM l[i]
  have hlen2 := Zm qW l[i].parts
  simp only [zM hi, cond_true, zH hi, za, Option.bind_some, zw hi (show l.length ≤ big by omega)]
  rw [zA0] at ha ⊢
  refine (zhA l[i].parts (fun x => numI x.simples) a big ha (fun j b hj hb => ?_) (fun a => ?_)).trans rfl
  ·have hm2 := ZA (f := zI) (List.getElem_mem hj)
   have hz2 := Z6 l[i].parts[j]
   have hlen3 := Zm zaH l[i].parts[j].simples
   simp only [zM hj, cond_true, zH hj, Option.bind_some, zw hj (show l[i].parts.length ≤ big by omega)]
   rw [zAX] at hb ⊢
   refine (zhA l[i].parts[j].simples (fun x => numL x.list) b big hb (fun m c hm3 hc => ?_) (fun a => ?_)).trans rfl
   ·have hm4 := ZA (f := zO) (List.getElem_mem hm3)
    have hz3 := qI l[i].parts[j].simples[m]
    simp only [zM hm3, cond_true, zH hm3, Option.bind_some, zw hm3 (show l[i].parts[j].simples.length ≤ big by omega)]
    rw [hS _ (by show zL ze l[i].parts[j].simples[m].list ≤ big; omega) (by show zL ze l[i].parts[j].simples[m].list < zL ze l; omega)]
    simp only [Option.bind_some, zm8 hc]
   ·simp only [zF, cond_false]
  ·simp only [zF, cond_false]
 ·simp only [zF, cond_false]
def selS (l : List zb) : Int := bif l.isEmpty || !(l.all fun c => Qs c 0 false false) then 8 else bif decide (numL l ≤ 64) then 0 else 4
theorem zn1 {l : List zb} (h : zL ze l ≤ big) : zc4 l = some (selS l) := by
 have hlen := Zm qj l
 have e64 : decide ((numL l : Int) > 64) = !decide (numL l ≤ 64) := Q6 _ 64
 have hc : ZG l = some (!l.all fun c => Qs c 0 false false) := by
  unfold ZG qG
  refine zeJ (zeL l (fun x => !Qs x 0 false false) (by omega) (fun i hi => ?_) ?_) ((zdG _ _).trans (zmi _ _))
  ·have hm := ZA (f := ze) (List.getElem_mem hi)
   simp only [zM hi, cond_true, zH hi, za, Option.bind_some, zc5, zht]
   have := zzq (c := l[i]) (d := 0) (h := false) (b := false) (by omega) (by omega)
   simp only [Int.natCast_zero] at this
   rw [this]
   rfl
  ·simp only [zF, cond_false]
 unfold zc4 selS
 simp only [hc, zn2 h, zD, za, Option.bind_some, Zl, e64]
 cases l.isEmpty <;> cases l.all (fun c => Qs c 0 false false) <;> cases decide (numL l ≤ 64) <;> rfl
theorem zrM {l : List zb} (h : zL ze l ≤ big) : zfE l = some (selS l) := by
 have hlen := Zm qj l
 have e64 : decide ((numL l : Int) > 64) = !decide (numL l ≤ 64) := Q6 _ 64
 have hc : zha l = some ((l.all fun c => Qs c 0 false false) && !l.isEmpty) := by
  unfold zha
  refine (ZJ l (fun c => bif Qs c 0 false false then none else some false) () (fun i hi => ?_) ?_).trans ?_
  ·have hm := ZA (f := ze) (List.getElem_mem hi)
   simp only [zM hi, cond_true, zH hi, za, Option.bind_some, zht, zw hi (show l.length ≤ big by omega)]
   have := zBo (c := l[i]) (d := 0) (h := false) (b := false) (by omega) (by omega)
   simp only [Int.natCast_zero] at this
   rw [this]
   simp only [Option.bind_some]
   cases Qs l[i] 0 false false <;> rfl
  ·simp only [zF, cond_false]
  ·rw [QV, ziS]
   cases l.all fun c => Qs c 0 false false <;> rfl
 unfold zfE selS
 simp only [hc, zqh h, za, Option.bind_some, e64]
 cases l.isEmpty <;> cases l.all (fun c => Qs c 0 false false) <;> cases decide (numL l ≤ 64) <;> rfl
end Go.Lv.VT

namespace Go.Lv.VT
mutual
/-- How large values are. -/
def szV : zf → Nat
 | ⟨t, l⟩ => 1 + t.text.length + t.unit.length + szL l
def szL : List zf → Nat
 | [] => 0
 | v :: r => szV v + szL r
end
theorem zhe (v : zf) : szV v = 1 + v.token.text.length + v.token.unit.length + szL v.list := by
 obtain ⟨t, l⟩ := v; rw [szV]
theorem zet {v : zf} : ∀ {l : List zf}, v ∈ l → szV v ≤ szL l
 | [], h => by cases h
 | x :: l, h => by
  rw [szL]
  rcases List.mem_cons.1 h with rfl | h
  ·omega
  ·have := zet h; omega
theorem zcj : ∀ (l : List zf), l.length ≤ szL l
 | [] => Nat.le_refl _
 | v :: r => by rw [szL, zhe, List.length_cons]; have := zcj r; omega
theorem zt5 (n : Nat) : decide ((n : Int) > 0) = decide (0 < n) := by
 by_cases h : 0 < n
 ·rw [decide_eq_true h, decide_eq_true (by omega)]
 ·rw [decide_eq_false h, decide_eq_false (by omega)]
def Z7 (k : Int) : Int := if k = 19 then 20 else if k = 21 ∨ k = 2 then 22 else if k = 23 then 24 else 0
theorem zmW (k : Int) : QG k = some (Z7 k) := by
 unfold QG Z7
 by_cases h1 : k = 19
 ·subst h1; rfl
 by_cases h2 : k = 21
 ·subst h2; rfl
 by_cases h3 : k = 2
 ·subst h3; rfl
 by_cases h4 : k = 23
 ·subst h4; rfl
 have e1 : (k == 19) = false := beq_eq_false_iff_ne.2 h1
 have e2 : (k == 21) = false := beq_eq_false_iff_ne.2 h2
 have e3 : (k == 2) = false := beq_eq_false_iff_ne.2 h3
 have e4 : (k == 23) = false := beq_eq_false_iff_ne.2 h4
 simp only [e1, e2, e3, e4, cond_false, zJ, h1, h2, h3, h4, if_false, or_self]
theorem zgo (k : Int) : zaC k = some (Z7 k) := by
 unfold zaC Z7
 by_cases h1 : k = 19
 ·subst h1; rfl
 by_cases h2 : k = 21
 ·subst h2; rfl
 by_cases h3 : k = 2
 ·subst h3; rfl
 by_cases h4 : k = 23
 ·subst h4; rfl
 have e1 : (k == 19) = false := beq_eq_false_iff_ne.2 h1
 have e2 : (k == 21) = false := beq_eq_false_iff_ne.2 h2
 have e3 : (k == 2) = false := beq_eq_false_iff_ne.2 h3
 have e4 : (k == 23) = false := beq_eq_false_iff_ne.2 h4
 simp only [e1, e2, e3, e4, cond_false, zJ, h1, h2, h3, h4, if_false, or_self]
mutual
/-- The depth of values. -/
def zpc : zf → Nat
 | ⟨t, l⟩ => if Z7 t.kind = 0 then 0 else 1 + qO l
def qO : List zf → Nat
 | [] => 0
 | v :: r => max (zpc v) (qO r)
end
theorem zya (v : zf) : zpc v = if Z7 v.token.kind = 0 then 0 else 1 + qO v.list := by
 obtain ⟨t, l⟩ := v; rw [zpc]
mutual
theorem zCk : ∀ v : zf, zpc v ≤ szV v
 | ⟨t, l⟩ => by
  rw [zpc, szV]
  have := zeG l
  split <;> omega
theorem zeG : ∀ l : List zf, qO l ≤ szL l
 | [] => Nat.le_refl _
 | v :: r => by
  rw [qO, szL]
  have := zCk v
  have := zeG r
  omega
end
theorem zvA (f : zf → Nat) : ∀ (l : List zf) (a : Nat), l.foldl (fun a v => max a (f v)) a = max a (l.foldr (fun v a => max (f v) a) 0)
 | [], a => by simp
 | v :: l, a => by rw [List.foldl_cons, zvA f l, List.foldr_cons]; omega
theorem zx9 : ∀ (l : List zf), qO l = l.foldr (fun v a => max (zpc v) a) 0
 | [] => by rw [qO]; rfl
 | v :: l => by rw [qO, zx9 l]; rfl
theorem zor {l : List zf} (h : szL l ≤ big) : ZP l = some (qO l : Int) := by
 refine Zg (fun l => szL l) (fun l => szL l ≤ big) (fun l => (qO l : Int)) (fun S l hl hS => ?_) h
 unfold zf5
 have hlen := zcj l
 refine (zon l (fun i (a : Nat) => ((a : Int), (i : Int))) (fun v a => some (.again (max a (zpc v)))) (fun a => some (.out (a : Int))) (a := 0) rfl (fun i a hi => ?_) (fun a => ?_) (r := .out (qO l : Int)) ?_)
 ·have hsz := zet (List.getElem_mem hi)
  have hv2 := zhe l[i]
  have hd := zya l[i]
  have hd2 := zeG l[i].list
  simp only [zM hi, cond_true, za, zH hi, Option.bind_some, zmW]
  by_cases hc : Z7 l[i].token.kind = 0
  ·rw [if_pos hc] at hd
   simp [hc, hd, zw hi (by omega)]
  ·rw [if_neg hc] at hd
   rw [hS l[i].list (by omega) (by omega)]
   have hw : w64 (1 + (qO l[i].list : Int)) = ((1 + qO l[i].list : Nat) : Int) := by
    rw [w64, ZL (by omega) (by unfold big at hl; omega)]; omega
   simp only [bne_iff_ne.2 hc, cond_true, Option.bind_some, zJ, zw hi (by omega), hw, hd, Option.map_some]
   congr 3
   split <;> omega
 ·simp only [zF, cond_false]
  rfl
 ·rw [zct (fun a v => max a (zpc v)) (fun v a => rfl), zvA, ← zx9]
  simp
theorem zov {l : List zf} : ∀ {i : Nat} (h : i < l.length), szL (l.take (i + 1)) = szL (l.take i) + szV l[i] := by
 induction l with
 | nil => intro i h; cases h
 | cons v r ih =>
  intro i h
  cases i with
  | zero => simp [szL]
  | succ i =>
   simp only [List.take_succ_cons, szL, List.getElem_cons_succ]
   rw [ih (by simpa using h)]
   omega
theorem zhP (l : List zf) (i : Nat) : szL (l.take i) ≤ szL l := by
 induction l generalizing i with
 | nil => simp
 | cons v r ih =>
  cases i with
  | zero => simp [szL]
  | succ i => simp only [List.take_succ_cons, szL]; have := ih i; omega
mutual
/-- The tokens of values. -/
def tokV : zf → List zm
 | ⟨t, l⟩ => t :: if Z7 t.kind = 0 then [] else tokL l ++ [⟨Z7 t.kind, [], 0, [], false⟩]
def tokL : List zf → List zm
 | [] => []
 | v :: r => tokV v ++ tokL r
end
theorem zuE (v : zf) : tokV v = v.token :: if Z7 v.token.kind = 0 then [] else tokL v.list ++ [⟨Z7 v.token.kind, [], 0, [], false⟩] := by
 obtain ⟨t, l⟩ := v; rw [tokV]
mutual
theorem zqK : ∀ v : zf, (tokV v).length ≤ 2 * szV v
 | ⟨t, l⟩ => by
  rw [tokV, szV]
  have := zm1 l
  split
  ·simp; omega
  ·simp; omega
theorem zm1 : ∀ l : List zf, (tokL l).length ≤ 2 * szL l
 | [] => Nat.le_refl _
 | v :: r => by
  rw [tokL, szL, List.length_append]
  have := zqK v
  have := zm1 r
  omega
end
theorem zl9 : ∀ (l : List zf) (a : List zm), l.foldl (fun a v => a ++ tokV v) a = a ++ tokL l
 | [], a => by simp [tokL]
 | v :: l, a => by rw [List.foldl_cons, zl9 l, tokL, List.append_assoc]
theorem zsF {l : List zf} (h : szL l ≤ big) : qi l = some (tokL l) := by
 refine Zg (fun l => szL l) (fun l => szL l ≤ big) (fun l => tokL l) (fun S l hl hS => ?_) h
 unfold zdN
 have hlen := zcj l
 refine (zls l (fun i (a : List zm) => ((i : Int), a)) (fun v a => some (.again (a ++ tokV v))) (fun a => some (.out a)) (fun i a => a.length ≤ 2 * szL (l.take i)) (a := []) rfl (by simp) (fun i a hi hI => ?_) (fun a _ => ?_) (r := .out (tokL l)) ?_)
 ·have hsz := zet (List.getElem_mem hi)
  have hv2 := zhe l[i]
  have hd := zuE l[i]
  have hd2 := zm1 l[i].list
  have ht := zov hi
  have ht2 := zhP l (i + 1)
  have hv3 := zqK l[i]
  unfold big at hl
  have hap : ∀ n m : Nat, n + m ≤ 100000000 → qw n m 56 = true := fun n m h => zdA (by omega)
  refine ⟨?_, fun a' ha => ?_⟩
  ·simp only [zM hi, cond_true, za, zH hi, Option.bind_some, zmW]
   by_cases hc : Z7 l[i].token.kind = 0
   ·rw [if_pos hc] at hd
    simp [hc, hd, zw hi (by unfold big; omega), hap a.length 1 (by omega)]
   ·rw [if_neg hc] at hd
    rw [hS l[i].list (by unfold big; omega) (by omega)]
    have hb : (Z7 l[i].token.kind != 0) = true := bne_iff_ne.2 hc
    simp [hb, hd, zw hi (by unfold big; omega), hap a.length 1 (by omega), hap (a.length + 1) (tokL l[i].list).length (by omega), hap (a.length + ((tokL l[i].list).length + 1)) 1 (by omega)]
  ·cases ha
   rw [List.length_append, ht]
   omega
 ·simp only [zF, cond_false]
  rfl
 ·rw [zct (fun a v => a ++ tokV v) (fun v a => rfl), zl9]
  simp
mutual
/-- Whether lists are those of blocks, and have not their closers. -/
def shV : zf → Int → Bool
 | ⟨t, l⟩, c => !((Z7 t.kind == 0 && decide (0 < l.length)) || (c != 0 && t.kind == c) || (Z7 t.kind != 0 && !(shL l (Z7 t.kind))))
def shL : List zf → Int → Bool
 | [], _ => true
 | v :: r, c => shV v c && shL r c
end
theorem zDA (v : zf) (c : Int) : shV v c = !((Z7 v.token.kind == 0 && decide (0 < v.list.length)) || (c != 0 && v.token.kind == c) || (Z7 v.token.kind != 0 && !(shL v.list (Z7 v.token.kind)))) := by
 obtain ⟨t, l⟩ := v; rw [shV]
theorem zzs {l : List zf} {c : Int} (h : szL l ≤ big) : Qb (l, c) = some (shL l c) := by
 refine Zg (fun x : List zf × Int => szL x.1) (fun x => szL x.1 ≤ big) (fun x => shL x.1 x.2) (fun S x hl hS => ?_) h
 obtain ⟨l, c⟩ := x
 simp only at hl hS ⊢
 unfold zdO
 have hlen := zcj l
 have hov : ∀ l : List zf, zmT (fun v (_ : Unit) => if shV v c = true then some (.again ()) else some (.ret false)) (fun _ => some (.out ())) l () = some (if shL l c = true then .out () else .ret false) := by
  intro l
  induction l with
  | nil => simp [zmT, shL]
  | cons v r ih =>
   by_cases hv : shV v c = true
   ·simpa [zmT, shL, hv] using ih
   ·simp [zmT, shL, hv]
 refine (zon l (fun i (_ : Unit) => (i : Int)) (fun v (_ : Unit) => if shV v c = true then some (.again ()) else some (.ret false)) (fun _ => some (.out ())) (a := ()) rfl (fun i a hi => ?_) (fun a => ?_) (hov l)).trans ?_
 ·have hsz := zet (List.getElem_mem hi)
  have hv2 := zhe l[i]
  have hd := zDA l[i] c
  simp only [zM hi, cond_true, za, zH hi, Option.bind_some, zmW]
  have hs1 : szL l[i].list ≤ big := by omega
  have hs2 : szL l[i].list < szL l := by omega
  have hSq : ∀ c', S (l[i].list, c') = some (shL l[i].list c') := fun c' => hS (l[i].list, c') hs1 hs2
  rw [hd]
  have hp : decide ((l[i].list.length : Int) > 0) = decide (0 < l[i].list.length) := zt5 _
  have hw := zw hi (by omega)
  simp only [bne, hp]
  rcases Bool.eq_false_or_eq_true (Z7 l[i].token.kind == 0) with h1 | h1 <;> rcases Bool.eq_false_or_eq_true (decide (0 < l[i].list.length)) with h2 | h2 <;> rcases Bool.eq_false_or_eq_true (c == 0) with h3 | h3 <;> rcases Bool.eq_false_or_eq_true (l[i].token.kind == c) with h4 | h4 <;> rcases Bool.eq_false_or_eq_true (shL l[i].list (Z7 l[i].token.kind)) with h5 | h5 <;>
   simp only [hSq, hp, h1, h2, h3, h4, h5, hw, cond_true, cond_false, Bool.not_true, Bool.not_false, Bool.and_true, Bool.and_false, Bool.true_and, Bool.false_and, Bool.or_true, Bool.or_false, Bool.true_or, Bool.false_or, zT, ZY, Option.bind_some, if_true, if_false, Option.map_some, Bool.false_eq_true]
 ·simp only [zF, cond_false]
  rfl
 ·cases h : shL l c <;> simp
def znx (l : List zf) (c : Int) : zS := ⟨qO l, (tokL l).length, !(shL l c)⟩
theorem zvS (c : Int) : ∀ (l : List zf) (a : Nat × Nat × Bool), l.foldl (fun a v => (max a.1 (zpc v), a.2.1 + (tokV v).length, a.2.2 || !(shV v c))) a = (max a.1 (qO l), a.2.1 + (tokL l).length, a.2.2 || !(shL l c))
 | [], a => by simp [qO, tokL, shL]
 | v :: l, a => by
  rw [List.foldl_cons, zvS c l, qO, tokL, shL, List.length_append]
  simp only [Prod.mk.injEq]
  refine ⟨by omega, by omega, ?_⟩
  cases a.2.2 <;> cases shV v c <;> cases shL l c <;> rfl
theorem zDS (a b : Bool) : (bif a then true else b) = (a || b) := by cases a <;> rfl
theorem zCd (a b : Bool) : (bif a then b else false) = (a && b) := by cases a <;> rfl
theorem znC {l : List zf} {c : Int} (h : szL l ≤ big) : zaN (l, c) = some (znx l c) := by
 refine Zg (fun x : List zf × Int => szL x.1) (fun x => szL x.1 ≤ big) (fun x => znx x.1 x.2) (fun S x hl hS => ?_) h
 obtain ⟨l, c⟩ := x
 simp only at hl hS ⊢
 unfold zhE
 have hlen := zcj l
 refine (zls l (fun i (a : Nat × Nat × Bool) => ((i : Int), (⟨(a.1 : Int), (a.2.1 : Int), a.2.2⟩ : zS))) (fun v a => some (.again (max a.1 (zpc v), a.2.1 + (tokV v).length, a.2.2 || !(shV v c)))) (fun a => some (.out (⟨(a.1 : Int), (a.2.1 : Int), a.2.2⟩ : zS))) (fun i a => a.2.1 ≤ 2 * szL (l.take i)) (a := (0, 0, false)) rfl (by simp) (fun i a hi hI => ?_) (fun a _ => ?_) (r := .out (znx l c)) ?_)
 ·have hsz := zet (List.getElem_mem hi)
  have hv2 := zhe l[i]
  have hd := zya l[i]
  have hd2 := zeG l[i].list
  have ht := zuE l[i]
  have ht2 := zm1 l[i].list
  have hsh := zDA l[i] c
  have htk := zov hi
  have htk2 := zhP l (i + 1)
  have hv3 := zqK l[i]
  have hs1 : szL l[i].list ≤ big := by omega
  have hs2 : szL l[i].list < szL l := by omega
  have hSq : S (l[i].list, Z7 l[i].token.kind) = some (znx l[i].list (Z7 l[i].token.kind)) := hS (l[i].list, Z7 l[i].token.kind) hs1 hs2
  obtain ⟨d, n, b⟩ := a
  simp only at hI
  have hw := zw hi (by omega)
  unfold big at hl
  have hw1 : w64 ((n : Int) + 1) = ((n + 1 : Nat) : Int) := by rw [w64, ZL (by omega) (by omega)]; omega
  refine ⟨?_, fun a' ha => ?_⟩
  ·have hp : decide ((l[i].list.length : Int) > 0) = decide (0 < l[i].list.length) := zt5 _
   simp only [zM hi, cond_true, za, zH hi, Option.bind_some, zgo, Option.map_some, hw1, bne, hp, zDS, zCd]
   by_cases hc : Z7 l[i].token.kind = 0
   ·rw [if_pos hc] at hd ht
    simp only [hc, beq_self_eq_true, Bool.true_and, Bool.not_true, Bool.false_and, Bool.or_false, bne] at hsh ⊢
    rw [hsh, hd, ht]
    rcases Bool.eq_false_or_eq_true (decide (0 < l[i].list.length)) with h2 | h2 <;> rcases Bool.eq_false_or_eq_true (c == 0) with h3 | h3 <;> rcases Bool.eq_false_or_eq_true (l[i].token.kind == c) with h4 | h4 <;>
     simp [h2, h3, h4, hw, cond_true, cond_false]
   ·rw [if_neg hc] at hd ht
    have hcb : (Z7 l[i].token.kind == 0) = false := beq_eq_false_iff_ne.2 hc
    have hw2 : w64 ((qO l[i].list : Int) + 1) = ((1 + qO l[i].list : Nat) : Int) := by rw [w64, ZL (by omega) (by omega)]; omega
    have hw3 : w64 (((n + 1 : Nat) : Int) + ((tokL l[i].list).length : Int)) = ((n + 1 + (tokL l[i].list).length : Nat) : Int) := by rw [w64, ZL (by omega) (by omega)]; omega
    have hw4 : w64 (((n + 1 + (tokL l[i].list).length : Nat) : Int) + 1) = ((n + (1 + ((tokL l[i].list).length + 1)) : Nat) : Int) := by rw [w64, ZL (by omega) (by omega)]; omega
    have htl : (tokV l[i]).length = 1 + ((tokL l[i].list).length + 1) := by rw [ht]; simp; omega
    have hm : (if ((1 + qO l[i].list : Nat) : Int) > (d : Int) then ((1 + qO l[i].list : Nat) : Int) else (d : Int)) = ((max d (1 + qO l[i].list) : Nat) : Int) := by split <;> omega
    rw [hsh, hd, htl]
    simp only [hcb, hSq, Bool.false_and, Bool.not_false, Bool.true_and, Bool.or_false, Bool.false_or, cond_false, bne, Option.bind_some, znx]
    rcases Bool.eq_false_or_eq_true (c == 0) with h3 | h3 <;> rcases Bool.eq_false_or_eq_true (l[i].token.kind == c) with h4 | h4 <;>
     simp only [h3, h4, hw, hw2, hw3, hw4, hm, cond_true, cond_false, zJ, Bool.not_true, Bool.not_false, Bool.true_and, Bool.and_true, Bool.and_false, Bool.false_and, Bool.or_true, Bool.or_false, Bool.true_or, Bool.false_or, Bool.not_not]
  ·cases ha
   simp only
   omega
 ·simp only [zF, cond_false]
  rfl
 ·rw [zct (fun a v => (max a.1 (zpc v), a.2.1 + (tokV v).length, a.2.2 || !(shV v c))) (fun v a => rfl), zvS]
  simp [znx]
end Go.Lv.VT

namespace Go.Lv.VT
theorem zBG {a b : List zf} (h : a.Sublist b) : szL a ≤ szL b := by
 induction h with
 | slnil => exact Nat.le_refl _
 | cons v _ ih => rw [szL]; omega
 | cons_cons v _ ih => rw [szL, szL]; omega
theorem zpP (l : List zf) : l = [] ∨ ∃ t v, l = t ++ [v] := by
 rcases List.eq_nil_or_concat l with h | ⟨t, v, h⟩
 ·exact .inl h
 ·exact .inr ⟨t, v, by rw [h, List.concat_eq_append]⟩
def isSp (v : zf) : Bool := v.token.kind == 13
def trimB (l : List zf) : List zf := (l.reverse.dropWhile isSp).reverse
theorem zm2 (t : List zf) (v : zf) : trimB (t ++ [v]) = if isSp v then trimB t else t ++ [v] := by
 unfold trimB
 rw [List.reverse_append]
 simp only [List.reverse_cons, List.reverse_nil, List.nil_append, List.cons_append, List.dropWhile_cons]
 split
 ·rfl
 ·simp
theorem zBM (l : List zf) : (trimB l).Sublist l := by
 unfold trimB
 have := List.dropWhile_sublist isSp (l := l.reverse)
 simpa using this.reverse
def trimS (l : List zf) : List zf := trimB (l.dropWhile isSp)
theorem zxH {l : List zf} (h : szL l ≤ big) : zc1 l = some (trimS l) := by
 unfold zc1
 refine (zb3 (r := .out (l.dropWhile isSp)) (zvU (fun s => s.dropWhile isSp = l.dropWhile isSp) (fun s => s.length) _ (fun s hs => ?_) rfl)).trans ?_
 ·cases s with
  | nil => exact .inr (.inl ⟨[], by simp, by rw [← hs]; rfl⟩)
  | cons v t =>
   have h1 : decide (((v :: t).length : Int) > 0) = true := by rw [zt5]; simp
   have h2 : geti (v :: t) 0 = some v := rfl
   have h3 : decide ((1 : Int) ≤ ((v :: t).length : Int)) = true := by simp; omega
   rw [List.dropWhile_cons] at hs
   cases hv : isSp v with
   | true =>
    rw [hv] at hs
    unfold isSp at hv
    refine .inl ⟨t, ?_, by simpa using hs, by simp⟩
    simp only [h1, h2, h3, zT, za, Option.bind_some, hv, cond_true, ZT]
    rfl
   | false =>
    rw [hv] at hs
    unfold isSp at hv
    refine .inr (.inl ⟨v :: t, ?_, by rw [← hs]; rfl⟩)
    simp only [h1, h2, zT, za, Option.bind_some, hv, cond_true, cond_false]
 ·rw [zDp]
  have hd : szL (l.dropWhile isSp) ≤ big := Nat.le_trans (zBG (List.dropWhile_sublist _)) h
  unfold trimS
  generalize l.dropWhile isSp = d at hd
  refine (zb3 (r := .out (trimB d)) (zvU (fun s => trimB s = trimB d ∧ szL s ≤ big) (fun s => s.length) _ (fun s hs => ?_) ⟨rfl, hd⟩)).trans ?_
  ·rcases zpP s with rfl | ⟨t, v, rfl⟩
   ·exact .inr (.inl ⟨[], by simp, by rw [← hs.1]; rfl⟩)
   ·have hlen := zcj (t ++ [v])
    have hl2 : (t ++ [v]).length = t.length + 1 := by simp
    have hb := hs.2
    unfold big at hb
    have h1 : decide (((t ++ [v]).length : Int) > 0) = true := by rw [zt5]; simp
    have h4 : w64 (((t ++ [v]).length : Int) - 1) = (t.length : Int) := by rw [w64, ZL (by omega) (by omega)]; omega
    have h2 : geti (t ++ [v]) (t.length : Int) = some v := by rw [zH (by omega)]; simp
    have h3 : (decide ((0 : Int) ≤ (t.length : Int)) && decide ((t.length : Int) ≤ ((t ++ [v]).length : Int))) = true := by simp; omega
    have hs1 := hs.1
    rw [zm2] at hs1
    cases hv : isSp v with
    | true =>
     rw [if_pos hv] at hs1
     unfold isSp at hv
     refine .inl ⟨t, ?_, ⟨hs1, Nat.le_trans (zBG (List.sublist_append_left t [v])) hs.2⟩, by simp⟩
     simp only [h1, h4, h2, h3, zT, za, Option.bind_some, hv, cond_true, ZT, Int.toNat_natCast]
     simp
    | false =>
     rw [if_neg (by rw [hv]; simp)] at hs1
     unfold isSp at hv
     refine .inr (.inl ⟨t ++ [v], ?_, by rw [← hs1]⟩)
     simp only [h1, h4, h2, zT, za, Option.bind_some, hv, cond_true, cond_false]
  ·rw [zDp]
def errS (l : List zf) : Int := if 16 < qO l then 20 else if 1500 < (tokL l).length then 4 else if shL l 0 then 0 else 8
theorem zBm {l : List zf} (h : szL l ≤ big) : zfB l = some (errS l) := by
 unfold zfB errS
 simp only [za, zor h, zsF h, zzs h, Option.bind_some]
 by_cases h1 : 16 < qO l
 ·have : decide ((qO l : Int) > 16) = true := decide_eq_true (by omega)
  simp [this, h1]
 ·have : decide ((qO l : Int) > 16) = false := decide_eq_false (by omega)
  by_cases h2 : 1500 < (tokL l).length
  ·have h3 : decide (((tokL l).length : Int) > 1500) = true := decide_eq_true (by omega)
   simp [this, h1, h2, h3]
  ·have h3 : decide (((tokL l).length : Int) > 1500) = false := decide_eq_false (by omega)
   cases h4 : shL l 0 <;> simp [this, h1, h2, h3]
theorem zsA {l : List zf} (h : szL l ≤ big) : zdq l = some (errS l) := by
 unfold zdq errS
 simp only [za, znC h, Option.bind_some, znx]
 by_cases h1 : 16 < qO l
 ·have : decide ((qO l : Int) > 16) = true := decide_eq_true (by omega)
  simp [this, h1]
 ·have : decide ((qO l : Int) > 16) = false := decide_eq_false (by omega)
  by_cases h2 : 1500 < (tokL l).length
  ·have h3 : decide (((tokL l).length : Int) > 1500) = true := decide_eq_true (by omega)
   simp [this, h1, h2, h3]
  ·have h3 : decide (((tokL l).length : Int) > 1500) = false := decide_eq_false (by omega)
   cases h4 : shL l 0 <;> simp [this, h1, h2, h3]
theorem zmH {l : List zf} (h : szL l ≤ big) : Q9 l = some (if errS l = 0 then ((qO l : Int), 0) else (0, errS l)) := by
 unfold Q9
 simp only [za, zsA h, znC h, Option.bind_some, znx]
 by_cases h1 : errS l = 0
 ·simp [h1]
 ·have h2 : (errS l != 0) = true := bne_iff_ne.2 h1
  simp [h1, h2]
theorem zhd : ∀ l : List zf, szL l ≤ zL zU l := by
 have key : ∀ (n : Nat) (l : List zf), zL zU l < n → szL l ≤ zL zU l := by
  intro n
  induction n with
  | zero => intro l h; omega
  | succ n ih =>
   intro l
   induction l with
   | nil => intro _; rw [szL]; exact Nat.zero_le _
   | cons v l ihl =>
    intro h
    rw [qX] at h ⊢
    rw [szL, zhe]
    have hz := zBY v
    have h1 := ih v.list (by omega)
    have h2 := ihl (by omega)
    omega
 exact fun l => key _ l (Nat.lt_succ_self _)
theorem zCt {l : List zf} {a : List zm} (h : szL l ≤ big) (ha : a.length + 2 * szL l ≤ 4 * big) : QN (l, a) = some (a ++ tokL l) := by
 refine Zg (fun z => szL z.1) (fun z => szL z.1 ≤ big ∧ z.2.length + 2 * szL z.1 ≤ 4 * big) (fun z => z.2 ++ tokL z.1) (fun S z hz hS => ?_) (x := (l, a)) ⟨h, ha⟩
 obtain ⟨l, a⟩ := z
 obtain ⟨h, ha⟩ := hz
 have h : szL l ≤ big := h
 have ha : a.length + 2 * szL l ≤ 4 * big := ha
 have hlen := zcj l
 unfold zeN
 refine (zls l (fun i (b : List zm) => ((i : Int), b)) (fun v b => some (.again (b ++ tokV v))) (fun b => some (.out b)) (fun i b => b.length ≤ a.length + 2 * szL (l.take i)) (a := a) rfl (by simp) (fun i b hi hI => ?_) (fun b _ => ?_) (r := .out (a ++ tokL l)) ?_).trans rfl
 ·have hsz := zet (List.getElem_mem hi)
  have hv2 := zhe l[i]
  have hd := zuE l[i]
  have hd2 := zm1 l[i].list
  have ht := zov hi
  have ht2 := zhP l (i + 1)
  have hv3 := zqK l[i]
  unfold big at h ha
  have hap : ∀ n m : Nat, n + m ≤ 100000000 → qw n m 56 = true := fun n m h => zdA (by omega)
  refine ⟨?_, fun a' ha' => ?_⟩
  ·simp only [zM hi, cond_true, za, zH hi, Option.bind_some, zgo]
   by_cases hc : Z7 l[i].token.kind = 0
   ·rw [if_pos hc] at hd
    simp [hc, hd, zw hi (by unfold big; omega), hap b.length 1 (by omega)]
   ·rw [if_neg hc] at hd
    rw [hS (l[i].list, b ++ [l[i].token]) ⟨by show szL l[i].list ≤ big; unfold big; omega, by show (b ++ [l[i].token]).length + 2 * szL l[i].list ≤ 4 * big; unfold big; rw [List.length_append, List.length_singleton]; omega⟩ (by show szL l[i].list < szL l; omega)]
    have hb : (Z7 l[i].token.kind != 0) = true := bne_iff_ne.2 hc
    simp [hb, hd, zw hi (by unfold big; omega), hap b.length 1 (by omega), hap (b.length + ((tokL l[i].list).length + 1)) 1 (by omega)]
  ·cases ha'
   rw [List.length_append, ht]
   omega
 ·simp only [zF, cond_false]; rfl
 ·rw [zct (fun a v => a ++ tokV v) (fun v a => rfl), zl9]
theorem zCs {l : List zf} (h : szL l ≤ big) : zfq l = some (tokL l) := by
 have hlen := zcj l
 unfold zfq
 refine (zls l (fun i (b : List zm) => ((i : Int), b)) (fun v b => some (.again (b ++ tokV v))) (fun b => some (.out b)) (fun i b => b.length ≤ 2 * szL (l.take i)) (a := []) rfl (by simp) (fun i b hi hI => ?_) (fun b _ => ?_) (r := .out (tokL l)) ?_).trans rfl
 ·have hsz := zet (List.getElem_mem hi)
  have hv2 := zhe l[i]
  have hd := zuE l[i]
  have hd2 := zm1 l[i].list
  have ht := zov hi
  have ht2 := zhP l (i + 1)
  have hv3 := zqK l[i]
  unfold big at h
  have hap : ∀ n m : Nat, n + m ≤ 100000000 → qw n m 56 = true := fun n m h => zdA (by omega)
  refine ⟨?_, fun a' ha' => ?_⟩
  ·simp only [zM hi, cond_true, za, zH hi, Option.bind_some, zgo]
   by_cases hc : Z7 l[i].token.kind = 0
   ·rw [if_pos hc] at hd
    simp [hc, hd, zw hi (by unfold big; omega), hap b.length 1 (by omega)]
   ·rw [if_neg hc] at hd
    rw [zCt (a := b ++ [l[i].token]) (show szL l[i].list ≤ big by unfold big; omega) (by unfold big; rw [List.length_append, List.length_singleton]; omega)]
    have hb : (Z7 l[i].token.kind != 0) = true := bne_iff_ne.2 hc
    simp [hb, hd, zw hi (by unfold big; omega), hap b.length 1 (by omega), hap (b.length + ((tokL l[i].list).length + 1)) 1 (by omega)]
  ·cases ha'
   rw [List.length_append, ht]
   omega
 ·simp only [zF, cond_false]; rfl
 ·rw [zct (fun a v => a ++ tokV v) (fun v a => rfl), zl9]
  simp
theorem zvY {l : List zf} (h : szL l ≤ big) : ziE l = some (if errS l = 0 then (tokL l, 0) else ([], errS l)) := by
 unfold ziE
 simp only [zsA h, za, Option.bind_some]
 by_cases he : errS l = 0
 ·have : (errS l != 0) = false := by rw [he]; rfl
  rw [this, cond_false, zCs h, if_pos he]
  rfl
 ·rw [bne_iff_ne.2 he, cond_true, if_neg he]
end Go.Lv.VT

namespace Go.Lv.VT
def zpd (n : Nat) : Bool :=
 !(n == 0 || n == 9 || n == 10 || n == 12 || n == 13 || n == 32 || n == 34 || n == 39 || n == 40 || n == 41 || n == 44 || n == 58 || n == 59 || n == 91 || n == 93 || n == 95 || n == 123 || n == 125) &&
  (decide (n < 128) && !((decide (48 ≤ n) && decide (n ≤ 57)) || (decide (65 ≤ n) && decide (n ≤ 90)) || (decide (97 ≤ n) && decide (n ≤ 122))))
set_option maxRecDepth 100000 in
theorem zDV : ∀ n : Nat, n < 256 → zhM 40 (n : Int) = some (zpd n) := by decide +kernel
theorem zrK (b : UInt8) : Qm (b.toNat : Int) = some (zpd b.toNat) :=
 zre 40 _ _ (zDV _ (UInt8.toNat_lt b))
def digN (n : Nat) : Bool := decide (48 ≤ n) && decide (n ≤ 57)
theorem zxG : ∀ n : Nat, n < 256 → qc 1 (n : Int) = some (digN n) := by decide +kernel
theorem zwq (b : UInt8) : Zi (b.toNat : Int) = some (digN b.toNat) := qy 1 _ _ (zxG _ (UInt8.toNat_lt b))
theorem zvE : ∀ n : Nat, n < 256 → zfZ 1 (n : Int) = some (digN n) := by decide +kernel
theorem ztl (b : UInt8) : zbu (b.toNat : Int) = some (digN b.toNat) := zln 1 _ _ (zvE _ (UInt8.toNat_lt b))
def namN (n : Nat) : Bool := digN n || (decide (65 ≤ n) && decide (n ≤ 90)) || (decide (97 ≤ n) && decide (n ≤ 122)) || n == 95 || n == 45 || decide (128 ≤ n)
theorem zvG : ∀ n : Nat, n < 256 → zix 1 (n : Int) = some (namN n) := by decide +kernel
theorem ztm (b : UInt8) : ze0 (b.toNat : Int) = some (namN b.toNat) := ztv 1 _ _ (zvG _ (UInt8.toNat_lt b))
def zuZ : Str → Bool
 | [] => false
 | b :: r => digN b.toNat || (b == 45 && (r == [] || digN (r.headD 0).toNat))
theorem zDQ (b c : UInt8) : ((b.toNat : Int) == (c.toNat : Int)) = (b == c) := by
 by_cases h : b = c
 ·subst h; simp
 ·have h2 : b.toNat ≠ c.toNat := fun e => h (UInt8.toNat_inj.1 e)
  rw [beq_eq_false_iff_ne.2 h, beq_eq_false_iff_ne.2 (by omega)]
theorem zDP (b : UInt8) : ((b.toNat : Int) == 45) = (b == 45) := zDQ b 45
theorem zt7 (l : Str) : zg8 l = some (zuZ l) := by
 unfold zg8
 cases l with
 | nil => rfl
 | cons b r =>
  have h0 : geti (b :: r) 0 = some b := rfl
  have hn : (b :: r == ([] : Str)) = false := rfl
  simp only [hn, cond_false, h0, za, Option.bind_some, zwq, zD, zDP]
  cases r with
  | nil =>
   have e : (([b] : Str) == [45]) = (b == 45) := by
    show ((b == 45) && true) = _
    rw [Bool.and_true]
   simp only [e]
   unfold zuZ
   cases hb : (b == 45) with
   | false => cases h2 : digN b.toNat <;> simp [hb, zz, h2]
   | true => cases h2 : digN b.toNat <;> simp [hb, zz, h2]
  | cons d r =>
   have h1 : geti (b :: d :: r) 1 = some d := rfl
   have e : ((b :: d :: r : Str) == [45]) = false := by
    show ((b == 45) && false) = _
    rw [Bool.and_false]
   simp only [h1, e, zD, Option.bind_some, zwq, zuZ, List.headD_cons]
   cases hb : (b == 45) <;> cases h2 : digN b.toNat <;> simp [hb]
def numS : Str → Bool
 | [] => false
 | b :: r => bif b == 45 then !(r == []) && digN (r.headD 0).toNat else digN b.toNat
theorem zpn (l : Str) : zd8 l = some (numS l) := by
 unfold zd8
 simp only [zuM, za, Option.bind_some]
 have key : ∀ m : Str, ((zz (!(m == [])) (geti m 0) 0).bind fun y2 => (zz (!(m == [])) (zbu (y2.toNat : Int)) (default : Bool)).bind fun y3 => some (bif !(m == []) then y3 else false)) = some (!(m == []) && digN (m.headD 0).toNat) := by
  intro m
  cases m with
  | nil => rfl
  | cons b r =>
   have h0 : geti (b :: r) 0 = some b := rfl
   have hn : (b :: r == ([] : Str)) = false := rfl
   simp only [hn, Bool.not_false, zT, h0, Option.bind_some, ztl, cond_true, List.headD_cons, Bool.true_and]
 rw [key]
 cases l with
 | nil => rfl
 | cons b r =>
  have e : List.isPrefixOf [45] (b :: r) = (b == 45) := by
   show ((45 == b) && true) = _
   rw [Bool.and_true]
   cases hb : (b == 45) with
   | true => rw [beq_iff_eq] at hb; subst hb; rfl
   | false => rw [beq_eq_false_iff_ne] at hb; exact beq_eq_false_iff_ne.2 (Ne.symm hb)
  rw [e]
  show _ = some (bif b == 45 then !(r == []) && digN (r.headD 0).toNat else digN b.toNat)
  cases b == 45 <;> rfl
theorem zCR (l : Str) : ((numS l && !(List.isPrefixOf [45, 45] l)) || l == [45]) = zuZ l := by
 cases l with
 | nil => rfl
 | cons b r =>
  cases hb : (b == 45) with
  | false =>
   have e1 : List.isPrefixOf [45, 45] (b :: r) = false := by
    show ((45 == b) && _) = _
    rw [beq_eq_false_iff_ne] at hb
    rw [beq_eq_false_iff_ne.2 (Ne.symm hb)]; rfl
   have e2 : ((b :: r : Str) == [45]) = false := by
    show ((b == 45) && _) = _
    rw [hb]; rfl
   rw [e1, e2]
   unfold numS zuZ
   simp [hb]
  | true =>
   rw [beq_iff_eq] at hb
   subst hb
   cases r with
   | nil => rfl
   | cons d r =>
    have e2 : ((45 :: d :: r : Str) == [45]) = false := rfl
    rw [e2]
    unfold numS zuZ
    have e1 : List.isPrefixOf [45, 45] (45 :: d :: r) = (45 == d) := by
     show ((45 == (45 : UInt8)) && ((45 == d) && true)) = _
     rw [Bool.and_true]; rfl
    rw [e1]
    simp only [List.headD_cons]
    have hd : digN 45 = false := by decide
    cases h : (45 == d) with
    | false => simp [hd]
    | true => rw [beq_iff_eq] at h; subst h; rfl
end Go.Lv.VT

namespace Go.Lv.VT
def delS (l : Str) : Bool := match l with
 | [b] => zpd b.toNat
 | _ => false
def rngS (x : zm) : Bool := decide (-1000000000000 ≤ x.num) && (decide (x.num ≤ 1000000000000) && (!x.flag || Int.tmod x.num 1000 == 0))
def zxf (x : zm) : Bool :=
 bif x.kind == 1 || x.kind == 2 || x.kind == 3 then !(x.text == []) && (Qf x.text && (x.num == 0 && (x.unit == [] && !x.flag)))
 else bif x.kind == 4 then !(x.text == []) && (Qf x.text && ((x.flag || zuZ x.text) && (x.num == 0 && x.unit == [])))
 else bif x.kind == 5 || x.kind == 7 then Qf x.text && (x.num == 0 && (x.unit == [] && !x.flag))
 else bif x.kind == 9 then delS x.text && (x.num == 0 && (x.unit == [] && !x.flag))
 else bif x.kind == 10 || x.kind == 11 || x.kind == 12 then rngS x && ((!(x.unit == []) == (x.kind == 12)) && (Qf x.unit && ((!(x.kind == 11) || !x.flag) && x.text == [])))
 else (decide (13 ≤ x.kind) && decide (x.kind ≤ 24)) && (x.text == [] && (x.num == 0 && (x.unit == [] && !x.flag)))
theorem zj8 {l : Str} (h : l.length ≤ big) : zbl l = some (Qf l) := by
 unfold zbl
 refine (ZJ l (fun b => bif (!(b == 0)) then none else some false) () (fun i hi => ?_) ?_).trans ?_
 ·simp only [zM hi, cond_true, zH hi, za, Option.bind_some, byte_zero, zw hi h]
  cases l[i] == 0 <;> rfl
 ·simp only [zF, cond_false]
 ·rw [QV]
  show _ = some (Qf l)
  unfold Qf
  cases l.all (fun b => !(b == 0)) <;> rfl
theorem one_byte (l : Str) (p : Nat → Bool) (d : Bool) (f : Int → Option Bool) (hf : ∀ b : UInt8, f (b.toNat : Int) = some (p b.toNat)) (g : Bool) :
  ((zz (g && (l.length : Int) == 1) (geti l 0) (0 : UInt8)).bind fun y => zz (g && (l.length : Int) == 1) (f (y.toNat : Int)) d) = some (bif g && (l.length : Int) == 1 then (match l with | [b] => p b.toNat | _ => false) else d) := by
 cases g with
 | false => rfl
 | true =>
  cases l with
  | nil => rfl
  | cons b r =>
   cases r with
   | nil =>
    show ((geti [b] 0).bind fun y => f (y.toNat : Int)) = some (p b.toNat)
    rw [show geti [b] 0 = some b from rfl]
    exact hf b
   | cons c r =>
    have : (((b :: c :: r).length : Int) == 1) = false := beq_eq_false_iff_ne.2 (by simp only [List.length_cons]; omega)
    rw [this]; rfl
theorem zyZ (l : Str) (g : Bool) : ((zz (g && (l.length : Int) == 1) (geti l 0) (0 : UInt8)).bind fun y => zz (g && (l.length : Int) == 1) (Qm (y.toNat : Int)) (default : Bool)) = some (bif g && (l.length : Int) == 1 then delS l else default) :=
 one_byte l zpd default Qm zrK g
theorem zCl (l : Str) : (((l.length : Int) == 1) && delS l) = delS l := by
 cases l with
 | nil => rfl
 | cons b r =>
  cases r with
  | nil => rfl
  | cons c r =>
   have : (((b :: c :: r).length : Int) == 1) = false := beq_eq_false_iff_ne.2 (by simp only [List.length_cons]; omega)
   rw [this]; rfl
theorem zt8 {x : zm} (h1 : x.text.length ≤ big) (h2 : x.unit.length ≤ big) : zg9 x = some (zxf x) := by
 have hd := zyZ x.text true
 simp only [Bool.true_and] at hd
 have hd' : ((zz ((x.text.length : Int) == 1) (geti x.text 0) (0 : UInt8)).bind fun y7 => (zz ((x.text.length : Int) == 1) (Qm (y7.toNat : Int)) (default : Bool)).bind fun y8 => some (bif bif (x.text.length : Int) == 1 then y8 else false then x.kind == x.kind && (([] : Str) == [] && (x.num == 0 && (x.unit == [] && (x.flag == false && true)))) else false)) = some (delS x.text && (x.num == 0 && (x.unit == [] && !x.flag))) := by
  have e : ∀ (k : Bool → Option Bool), ((zz ((x.text.length : Int) == 1) (geti x.text 0) (0 : UInt8)).bind fun y7 => (zz ((x.text.length : Int) == 1) (Qm (y7.toNat : Int)) (default : Bool)).bind k) = (((zz ((x.text.length : Int) == 1) (geti x.text 0) (0 : UInt8)).bind fun y => zz ((x.text.length : Int) == 1) (Qm (y.toNat : Int)) (default : Bool))).bind k := by
   intro k; rw [Option.bind_assoc]
  rw [e, hd, Option.bind_some, ← zCl x.text]
  simp only [beq_self_eq_true]
  cases (x.text.length : Int) == 1 <;> cases delS x.text <;> cases x.flag <;> rfl
 unfold zg9
 simp only [za, zj8 h1, zj8 h2, zt7, zD, Option.bind_some, ge_iff_le]
 unfold zxf rngS
 by_cases k9 : x.kind = 9
 ·simp only [k9, Int.reduceBEq, cond_true, cond_false, zJ, Bool.or_false, Bool.false_or] at hd' ⊢
  exact hd'
 clear hd hd'
 have b9 := beq_eq_false_iff_ne.2 k9
 generalize delS x.text = a0
 generalize Qf x.text = a1
 generalize Qf x.unit = a2
 generalize zuZ x.text = a3
 generalize hc1 : (x.text == []) = a4
 generalize hc2 : (x.unit == []) = a5
 generalize hc3 : (x.num == 0) = a6
 generalize hc4 : x.flag = a7
 generalize decide (-1000000000000 ≤ x.num) = a8
 generalize decide (x.num ≤ 1000000000000) = a9
 generalize (Int.tmod x.num 1000 == 0) = a10
 by_cases k1 : x.kind = 1
 ·simp only [k1, zJ, cond_true, cond_false, hc1, hc2, hc3, hc4, Int.reduceBEq]
  cases a1 <;> cases a4 <;> cases a5 <;> cases a6 <;> cases a7 <;> rfl
 by_cases k2 : x.kind = 2
 ·simp only [k2, zJ, cond_true, cond_false, hc1, hc2, hc3, hc4, Int.reduceBEq]
  cases a1 <;> cases a4 <;> cases a5 <;> cases a6 <;> cases a7 <;> rfl
 by_cases k3 : x.kind = 3
 ·simp only [k3, zJ, cond_true, cond_false, hc1, hc2, hc3, hc4, Int.reduceBEq]
  cases a1 <;> cases a4 <;> cases a5 <;> cases a6 <;> cases a7 <;> rfl
 by_cases k4 : x.kind = 4
 ·simp only [k4, zJ, cond_true, cond_false, hc1, hc2, hc3, hc4, Int.reduceBEq]
  cases a1 <;> cases a3 <;> cases a4 <;> cases a5 <;> cases a6 <;> cases a7 <;> rfl
 by_cases k5 : x.kind = 5
 ·simp only [k5, zJ, cond_true, cond_false, hc1, hc2, hc3, hc4, Int.reduceBEq]
  cases a1 <;> cases a4 <;> cases a5 <;> cases a6 <;> cases a7 <;> rfl
 by_cases k7 : x.kind = 7
 ·simp only [k7, zJ, cond_true, cond_false, hc1, hc2, hc3, hc4, Int.reduceBEq]
  cases a1 <;> cases a4 <;> cases a5 <;> cases a6 <;> cases a7 <;> rfl
 by_cases k10 : x.kind = 10
 ·simp only [k10, zJ, cond_true, cond_false, hc1, hc2, hc3, hc4, Int.reduceBEq]
  cases a2 <;> cases a4 <;> cases a5 <;> cases a7 <;> cases a8 <;> cases a9 <;> cases a10 <;> rfl
 by_cases k11 : x.kind = 11
 ·simp only [k11, zJ, cond_true, cond_false, hc1, hc2, hc3, hc4, Int.reduceBEq]
  cases a2 <;> cases a4 <;> cases a5 <;> cases a7 <;> cases a8 <;> cases a9 <;> cases a10 <;> rfl
 by_cases k12 : x.kind = 12
 ·simp only [k12, zJ, cond_true, cond_false, hc1, hc2, hc3, hc4, Int.reduceBEq]
  cases a2 <;> cases a4 <;> cases a5 <;> cases a7 <;> cases a8 <;> cases a9 <;> cases a10 <;> rfl
 simp only [b9, beq_eq_false_iff_ne.2 k1, beq_eq_false_iff_ne.2 k2, beq_eq_false_iff_ne.2 k3, beq_eq_false_iff_ne.2 k4, beq_eq_false_iff_ne.2 k5, beq_eq_false_iff_ne.2 k7, beq_eq_false_iff_ne.2 k10, beq_eq_false_iff_ne.2 k11, beq_eq_false_iff_ne.2 k12, zJ, cond_true, cond_false, hc1, hc2, hc3, hc4, beq_self_eq_true, Bool.or_self]
 by_cases k6 : x.kind = 6
 ·simp only [k6, zJ, cond_true, cond_false, Int.reduceBEq]; rfl
 by_cases k8 : x.kind = 8
 ·simp only [k8, zJ, cond_true, cond_false, Int.reduceBEq]; rfl
 simp only [beq_eq_false_iff_ne.2 k6, beq_eq_false_iff_ne.2 k8, zJ, cond_true, cond_false]
 have e : (decide (1 ≤ x.kind) && decide (x.kind ≤ 24)) = (decide (13 ≤ x.kind) && decide (x.kind ≤ 24)) := by
  by_cases hh : 13 ≤ x.kind
  ·rw [decide_eq_true hh, decide_eq_true (by omega)]
  ·rw [decide_eq_false hh]
   by_cases h1 : 1 ≤ x.kind
   ·omega
   ·rw [decide_eq_false h1]
 rw [← e]
 cases decide (1 ≤ x.kind) <;> cases decide (x.kind ≤ 24) <;> cases a4 <;> cases a5 <;> cases a6 <;> cases a7 <;> rfl
abbrev zys : Str := [32, 9, 10, 12, 13, 34, 39, 58, 59, 44, 91, 93, 40, 41, 123, 125]
theorem contains_one (m : Str) (c : UInt8) : strings_Contains (m, [c]) = some (m.any fun b => b == c) := by
 show some (decide (Lib.indexByte m c ≥ 0)) = _
 rw [zxj]
theorem zyY : ∀ n : Nat, n < 256 → ((bif bif !(UInt8.ofNat n == 0) then !namN n else false then true else UInt8.ofNat n == 45) && (!(zys.any fun b => b == UInt8.ofNat n))) = zpd n := by decide +kernel
theorem zCm (b : UInt8) : ((bif bif !(b == 0) then !namN b.toNat else false then true else b == 45) && (!(zys.any fun c => c == b))) = zpd b.toNat := by
 have := zyY b.toNat (UInt8.toNat_lt b)
 rwa [UInt8.ofNat_toNat] at this
theorem zv2 (a b : Str) : Qf (a ++ b) = (Qf a && Qf b) := by
 unfold Qf; rw [List.all_append]
theorem zAT (n : Int) : decide (n < 0) = !decide (n ≥ 0) := by
 by_cases h : n < 0
 ·rw [decide_eq_true h, decide_eq_false (by omega)]; rfl
 ·rw [decide_eq_false h, decide_eq_true (by omega)]; rfl
end Go.Lv.VT

namespace Go.Lv.VT
theorem zEW (g d : Bool) (b c : UInt8) : (bif g then namN (bif g then b else c).toNat else d) = bif g then namN b.toNat else d := by cases g <;> rfl
theorem zvF {x : zm} (h1 : x.text.length ≤ big) (h2 : x.unit.length ≤ big) : ziw x = some (zxf x) := by
 unfold ziw
 rw [zpO (decide_eq_true (by unfold big at h1 h2; omega))]
 simp only [za, zd9, Option.bind_some]
 have hn : decide (Lib.indexByte (x.text ++ x.unit) (0 : Int).toNat.toUInt8 < 0) = (Qf x.text && Qf x.unit) := by
  rw [zAT, zpp, zv2, Bool.not_not]
 simp only [hn, zpn, zf0, zD, Option.bind_some, ge_iff_le, bne]
 have hb := zCR x.text
 unfold zxf rngS
 by_cases k9 : x.kind = 9
 ·simp only [k9, Int.reduceBEq, cond_true, cond_false, zJ, Bool.or_false, Bool.false_or]
  cases ht : x.text with
  | nil =>
   have : Qf ([] : Str) = true := rfl
   simp only [this, Bool.true_and]
   cases Qf x.unit <;> rfl
  | cons b r =>
   cases r with
   | nil =>
    have hd := zCm b
    have e1 : ((([b] : Str).length : Int) == 1) = true := rfl
    have e2 : geti [b] 0 = some b := rfl
    have e3 : (([b] : Str) == [45]) = (b == 45) := by
     show ((b == 45) && true) = _
     rw [Bool.and_true]
    have e4 : Qf [b] = !(b == 0) := by show ((!(b == 0)) && true) = _; rw [Bool.and_true]
    have e5 : delS [b] = zpd b.toNat := rfl
    simp only [e1, e2, e3, e4, e5, contains_one, ztm, zD, Option.bind_some, zEW, ← hd]
    cases hu : x.unit with
    | nil =>
     have : Qf ([] : Str) = true := rfl
     simp only [this, Bool.and_true]
     generalize (zys.any fun c => c == b) = a1
     cases namN b.toNat <;> cases (b == 0) <;> cases (b == 45) <;> cases a1 <;> cases (x.num == 0) <;> cases x.flag <;> rfl
    | cons c s =>
     have : ((c :: s : Str) == []) = false := rfl
     simp only [this]
     generalize Qf (c :: s) = a2
     generalize (zys.any fun c => c == b) = a1
     cases a2 <;> cases namN b.toNat <;> cases (b == 0) <;> cases (b == 45) <;> cases a1 <;> cases (x.num == 0) <;> cases x.flag <;> rfl
   | cons c r =>
    have e1 : (((b :: c :: r : Str).length : Int) == 1) = false := beq_eq_false_iff_ne.2 (by simp only [List.length_cons]; omega)
    have e3 : ((b :: c :: r : Str) == [45]) = false := by
     show ((b == 45) && false) = _
     rw [Bool.and_false]
    have e5 : delS (b :: c :: r) = false := rfl
    simp only [e1, e3, e5]
    cases (Qf (b :: c :: r) && Qf x.unit) <;> rfl
 have b9 := beq_eq_false_iff_ne.2 k9
 have hu : (x.unit == []) = true → Qf x.unit = true := fun h => by rw [beq_iff_eq] at h; rw [h]; rfl
 have htx : (x.text == []) = true → Qf x.text = true := fun h => by rw [beq_iff_eq] at h; rw [h]; rfl
 rw [← hb]
 generalize hl45 : (x.text == [45]) = a11 at *
 generalize (List.isPrefixOf [45, 45] x.text) = a12 at *
 generalize numS x.text = a3 at *
 generalize Qf x.text = a1 at *
 generalize Qf x.unit = a2 at *
 generalize (x.text == []) = a4 at *
 generalize (x.unit == []) = a5 at *
 generalize (x.num == 0) = a6 at *
 generalize x.flag = a7 at *
 generalize decide (-1000000000000 ≤ x.num) = a8 at *
 generalize decide (x.num ≤ 1000000000000) = a9 at *
 generalize (Int.tmod x.num 1000 == 0) = a10 at *
 clear hb hn hl45
 have K : ∀ k : Int, k ∈ [1, 2, 3, 4, 5, 7, 10, 11, 12] → x.kind = k → True := fun _ _ _ => trivial
 clear K
 by_cases k1 : x.kind = 1
 ·simp only [k1, zJ, cond_true, cond_false, Int.reduceBEq]
  cases a1 <;> cases a2 <;> cases a4 <;> cases a5 <;> cases a6 <;> cases a7 <;> first | rfl | (simp at hu htx; done) | simp_all
 by_cases k2 : x.kind = 2
 ·simp only [k2, zJ, cond_true, cond_false, Int.reduceBEq]
  cases a1 <;> cases a2 <;> cases a4 <;> cases a5 <;> cases a6 <;> cases a7 <;> first | rfl | (simp at hu htx; done) | simp_all
 by_cases k3 : x.kind = 3
 ·simp only [k3, zJ, cond_true, cond_false, Int.reduceBEq]
  cases a1 <;> cases a2 <;> cases a4 <;> cases a5 <;> cases a6 <;> cases a7 <;> first | rfl | (simp at hu htx; done) | simp_all
 by_cases k4 : x.kind = 4
 ·simp only [k4, zJ, cond_true, cond_false, Int.reduceBEq]
  cases a1 <;> cases a2 <;> cases a3 <;> cases a4 <;> cases a5 <;> cases a6 <;> cases a7 <;> cases a11 <;> cases a12 <;> first | rfl | (simp at hu htx; done) | simp_all
 by_cases k5 : x.kind = 5
 ·simp only [k5, zJ, cond_true, cond_false, Int.reduceBEq]
  cases a1 <;> cases a2 <;> cases a5 <;> cases a6 <;> cases a7 <;> first | rfl | (simp at hu htx; done) | simp_all
 by_cases k7 : x.kind = 7
 ·simp only [k7, zJ, cond_true, cond_false, Int.reduceBEq]
  cases a1 <;> cases a2 <;> cases a5 <;> cases a6 <;> cases a7 <;> first | rfl | (simp at hu htx; done) | simp_all
 by_cases k10 : x.kind = 10
 ·simp only [k10, zJ, cond_true, cond_false, Int.reduceBEq]
  cases a1 <;> cases a2 <;> cases a4 <;> cases a5 <;> cases a7 <;> cases a8 <;> cases a9 <;> cases a10 <;> first | rfl | (simp at hu htx; done) | simp_all
 by_cases k11 : x.kind = 11
 ·simp only [k11, zJ, cond_true, cond_false, Int.reduceBEq]
  cases a1 <;> cases a2 <;> cases a4 <;> cases a5 <;> cases a7 <;> cases a8 <;> cases a9 <;> cases a10 <;> first | rfl | (simp at hu htx; done) | simp_all
 by_cases k12 : x.kind = 12
 ·simp only [k12, zJ, cond_true, cond_false, Int.reduceBEq]
  cases a1 <;> cases a2 <;> cases a4 <;> cases a5 <;> cases a7 <;> cases a8 <;> cases a9 <;> cases a10 <;> first | rfl | (simp at hu htx; done) | simp_all
 simp only [b9, beq_eq_false_iff_ne.2 k1, beq_eq_false_iff_ne.2 k2, beq_eq_false_iff_ne.2 k3, beq_eq_false_iff_ne.2 k4, beq_eq_false_iff_ne.2 k5, beq_eq_false_iff_ne.2 k7, beq_eq_false_iff_ne.2 k10, beq_eq_false_iff_ne.2 k11, beq_eq_false_iff_ne.2 k12, zJ, cond_true, cond_false, Bool.or_self]
 cases decide (13 ≤ x.kind) <;> cases decide (x.kind ≤ 24) <;> cases a4 <;> cases a5 <;> cases a6 <;> cases a7 <;> rfl
end Go.Lv.VT

namespace Go.Lv.VT
def zxU : List zm → Bool
 | [] => false
 | s :: r => bif s.kind == 13 then (match r with | u :: _ => u.kind == 5 | [] => false) else s.kind == 5
def zsB : List zm → Bool
 | [] => false
 | s :: _ => s.kind == 13
def zAw (t : zm) : Bool := t.kind == 2 && lowS t.text == [117, 114, 108]
def okAt : List zm → Bool
 | [] => true
 | t :: r => (!(t.kind == 9 && t.text == [92]) || zsB r) && (!(zAw t) || zxU r)
def zxy (l : List zm) (i : Nat) : Bool := zxf (l.getD i default) && okAt (l.drop i)
def gluS (l : List zm) : Int := bif decide (l.length ≤ 1500) then (bif (List.range l.length).all (zxy l) then 0 else 8) else 4
theorem zxC (l : List zm) (i : Nat) (k : Int) : QC (((i : Int), k), l) = some (match l[i]? with | some t => t.kind == k | none => false) := by
 unfold QC
 by_cases h : i < l.length
 ·simp only [zM h, zT, zH h, za, Option.bind_some, cond_true, List.getElem?_eq_getElem h]
 ·have e : decide ((i : Int) < (l.length : Int)) = false := decide_eq_false (by omega)
  simp only [e, ZY, za, Option.bind_some, cond_false, List.getElem?_eq_none (Nat.le_of_not_lt h)]
theorem zAO : lowS [117, 114, 108] = [117, 114, 108] := by decide
theorem ztn {t : zm} {r : List zm} (h : t.text.length ≤ big) : ∃ n : Int, zgT (t :: r) = some n ∧ (n == 0) = !okAt (t :: r) := by
 have e0 : geti (t :: r) 0 = some t := rfl
 have p1 := zxC (t :: r) 1 13
 have p15 := zxC (t :: r) 1 5
 have p25 := zxC (t :: r) 2 5
 unfold zgT
 simp only [e0, za, Option.bind_some, zzp h (show ([117, 114, 108] : Str).length ≤ big by decide), zAO, zD]
 simp only [Int.natCast_one] at p1 p15
 replace p25 : QC ((2, 5), t :: r) = _ := p25
 rw [p1]
 unfold okAt zAw
 cases hd : (t.kind == 9 && t.text == [92]) with
 | true =>
  have hk : t.kind = 9 := by rw [Bool.and_eq_true, beq_iff_eq] at hd; exact hd.1
  have ht : (t.text == [92]) = true := by rw [Bool.and_eq_true] at hd; exact hd.2
  simp only [hk, ht, Int.reduceBEq, cond_true, cond_false, Option.bind_some]
  cases r with
  | nil => exact ⟨_, rfl, rfl⟩
  | cons s r =>
   show ∃ n : Int, (bif !(s.kind == 13) then some 0 else some 2) = some n ∧ (n == 0) = !((!true || s.kind == 13) && _)
   cases s.kind == 13
   ·exact ⟨0, rfl, rfl⟩
   ·exact ⟨2, rfl, rfl⟩
 | false =>
  have hc : (bif t.kind == 9 then t.text == [92] else false) = false := by
   cases h9 : t.kind == 9
   ·rfl
   ·rw [h9] at hd; exact hd
  simp only [hc, hd, cond_false, Bool.not_false, Bool.true_or, Bool.true_and]
  cases hu : (t.kind == 2 && lowS t.text == [117, 114, 108]) with
  | false =>
   have : (bif t.kind == 2 then bif t.kind == 2 then lowS t.text == [117, 114, 108] else default else false) = false := by
    cases h2 : t.kind == 2
    ·rfl
    ·rw [h2] at hu; exact hu
   rw [this]
   exact ⟨1, rfl, rfl⟩
  | true =>
   rw [Bool.and_eq_true] at hu
   rw [hu.1, hu.2]
   simp only [cond_true, Option.bind_some]
   cases r with
   | nil => exact ⟨0, by simp [p15], rfl⟩
   | cons s r =>
    cases hs : s.kind == 13 with
    | false =>
     have e1 : (match (t :: s :: r)[1]? with | some t => t.kind == 13 | none => false) = false := hs
     have e5 : QC ((1, 5), t :: s :: r) = some (s.kind == 5) := p15
     simp only [e1, cond_false, zJ, e5, Option.bind_some, zxU, hs]
     cases s.kind == 5
     ·exact ⟨0, rfl, rfl⟩
     ·exact ⟨2, by rfl, rfl⟩
    | true =>
     have e1 : (match (t :: s :: r)[1]? with | some t => t.kind == 13 | none => false) = true := hs
     simp only [e1, cond_true, zJ, p25, Option.bind_some, zxU, hs]
     cases r with
     | nil => exact ⟨0, rfl, rfl⟩
     | cons u r =>
      show ∃ n : Int, (bif !(u.kind == 5) then some 0 else some (w64 (2 + 1))) = some n ∧ (n == 0) = !(!true || u.kind == 5)
      cases u.kind == 5
      ·exact ⟨0, rfl, rfl⟩
      ·exact ⟨3, rfl, rfl⟩
theorem zsq (l : List zm) : decide ((l.length : Int) > 1500) = !decide (l.length ≤ 1500) := Q6 _ 1500
theorem ztk {l : List zm} (h : ∀ t ∈ l, t.text.length ≤ big ∧ t.unit.length ≤ big) : zeZ l = some (gluS l) := by
 unfold zeZ gluS
 rw [zsq]
 cases hl : decide (l.length ≤ 1500) with
 | false => rfl
 | true =>
  have hl := of_decide_eq_true hl
  simp only [Bool.not_true, cond_false, cond_true]
  refine (zfp l.length (zxy l) 8 (fun i hi => ?_) ?_).trans ?_
  ·obtain ⟨g1, g2⟩ := h _ (List.getElem_mem hi)
   have hgd : l.getD i default = l[i] := by simp [hi]
   have hdr := List.drop_eq_getElem_cons hi
   obtain ⟨n, e1, e2⟩ := ztn (t := l[i]) (r := l.drop (i + 1)) g1
   rw [← hdr] at e1 e2
   have e3 : decide ((i : Int) ≤ (l.length : Int)) = true := decide_eq_true (by omega)
   unfold zxy
   simp only [zM hi, cond_true, zH hi, za, Option.bind_some, zvF g1 g2, zv1, e3, Bool.true_and, Bool.true_or, ZT, Int.toNat_natCast, e1, zD, zw hi (show l.length ≤ big by unfold big; omega), hgd]
   cases zxf l[i] with
   | false => rfl
   | true =>
    simp only [Bool.not_true, Bool.not_false, cond_true, cond_false, e2, Bool.true_and]
    cases okAt (l.drop i) <;> rfl
  ·simp only [zF, cond_false]
  ·cases (List.range l.length).all (zxy l) <;> rfl
end Go.Lv.VT

namespace Go.Lv.VT
theorem zpf {α : Type} {l : List α} {i : Nat} {s : α} {r : List α} (h : l.drop i = s :: r) : i < l.length ∧ geti l (i : Int) = some s ∧ l.drop (i + 1) = r := by
 have hi : i < l.length := by
  rcases Nat.lt_or_ge i l.length with h' | h'
  ·exact h'
  ·rw [List.drop_eq_nil_of_le h'] at h; cases h
 rw [List.drop_eq_getElem_cons hi] at h
 injection h with h1 h2
 exact ⟨hi, by rw [zH hi, h1], h2⟩
theorem zpg {α : Type} {l : List α} {i : Nat} (h : l.drop i = []) (hi : i ≤ l.length) : i = l.length := by
 have := List.drop_eq_nil_iff.1 h; omega
theorem zyd (n m : Int) : decide (n ≥ m) = !decide (n < m) := by
 by_cases h : n < m
 ·rw [decide_eq_true h, decide_eq_false (by omega)]; rfl
 ·rw [decide_eq_false h, decide_eq_true (by omega)]; rfl
theorem zDe {l : List zm} {i : Nat} (hi : i < l.length) (hl : l.length ≤ 1500) :
  zZ (X := Int) (R := LX Unit (LO Int Unit Int)) (za (zz (decide (((i + 1 : Nat) : Int) < (l.length : Int))) (geti l ((i + 1 : Nat) : Int)) (default : zm)) fun y7 => bif bif decide (((i + 1 : Nat) : Int) < (l.length : Int)) then y7.kind == 13 else false then some (LX.out (w64 (((i + 1 : Nat) : Int) + 1))) else some (LX.out ((i + 1 : Nat) : Int)))
   (fun j8 => za (zz (!(decide (j8 ≥ (l.length : Int)))) (geti l j8) (default : zm)) fun y9 => bif bif decide (j8 ≥ (l.length : Int)) then true else y9.kind != 5 then some (LX.ret (LO.ret 8)) else some (LX.out ())) = bif zxU (l.drop (i + 1)) then some (LX.out ()) else some (LX.ret (LO.ret 8)) := by
 cases hr : l.drop (i + 1) with
 | nil =>
  have he := zpg hr (by omega)
  have e1 : decide (((i + 1 : Nat) : Int) < (l.length : Int)) = false := decide_eq_false (by omega)
  have e2 : decide (((i + 1 : Nat) : Int) ≥ (l.length : Int)) = true := decide_eq_true (by omega)
  simp only [e1, e2, ZY, za, Option.bind_some, cond_false, cond_true, zJ, Bool.not_true, zxU]
 | cons s r =>
  obtain ⟨h1, h2, h3⟩ := zpf hr
  have e2 : decide (((i + 1 : Nat) : Int) ≥ (l.length : Int)) = false := decide_eq_false (by omega)
  have hw : w64 (((i + 1 : Nat) : Int) + 1) = ((i + 1 + 1 : Nat) : Int) := zw h1 (by unfold big; omega)
  simp only [zM h1, zT, h2, za, Option.bind_some, cond_true, hw, zxU]
  cases hs : s.kind == 13 with
  | false =>
   simp only [cond_false, zJ, e2, Bool.not_false, zT, h2, Option.bind_some, bne]
   cases s.kind == 5 <;> rfl
  | true =>
   simp only [cond_true, zJ]
   cases r with
   | nil =>
    have he := zpg h3 (by omega)
    have e3 : decide (((i + 1 + 1 : Nat) : Int) ≥ (l.length : Int)) = true := decide_eq_true (by omega)
    simp only [e3, Bool.not_true, ZY, Option.bind_some, cond_true, cond_false]
   | cons u r =>
    obtain ⟨g1, g2, g3⟩ := zpf h3
    have e3 : decide (((i + 1 + 1 : Nat) : Int) ≥ (l.length : Int)) = false := decide_eq_false (by omega)
    simp only [e3, Bool.not_false, zT, g2, Option.bind_some, cond_false, bne]
    cases u.kind == 5 <;> rfl
theorem zCn {l : List zm} {i : Nat} (hi : i < l.length) (d : Bool) (A B : Option (LO Int Unit Int)) :
  (za (zz (!(((i + 1 : Nat) : Int) == (l.length : Int)) && d) (geti l ((i + 1 : Nat) : Int)) (default : zm)) fun y13 => bif bif d then bif ((i + 1 : Nat) : Int) == (l.length : Int) then true else y13.kind != 13 else false then A else B) = bif !d || zsB (l.drop (i + 1)) then B else A := by
 cases d with
 | false => simp only [Bool.and_false, ZY, za, Option.bind_some, cond_false, Bool.not_false, Bool.true_or, cond_true]
 | true =>
  cases hr : l.drop (i + 1) with
  | nil =>
   have he := zpg hr (by omega)
   have e1 : (((i + 1 : Nat) : Int) == (l.length : Int)) = true := beq_iff_eq.2 (by omega)
   simp only [e1, Bool.not_true, Bool.false_and, ZY, za, Option.bind_some, cond_true, zsB, Bool.or_self, cond_false]
  | cons s r =>
   obtain ⟨h1, h2, h3⟩ := zpf hr
   have e1 : (((i + 1 : Nat) : Int) == (l.length : Int)) = false := beq_eq_false_iff_ne.2 (by omega)
   simp only [e1, Bool.not_false, Bool.true_and, zT, h2, za, Option.bind_some, cond_true, zsB, cond_false, Bool.not_true, Bool.false_or, bne]
   cases s.kind == 13 <;> rfl
theorem zDL (b : Bool) (t u : zm) (p : zm → Bool) : (bif b then p (bif b then t else u) else false) = (b && p t) := by cases b <;> rfl
theorem zrJ {l : List zm} (h : ∀ t ∈ l, t.text.length ≤ big ∧ t.unit.length ≤ big) : zdv l = some (gluS l) := by
 unfold zdv gluS
 rw [zsq]
 cases hl : decide (l.length ≤ 1500) with
 | false => rfl
 | true =>
  have hl := of_decide_eq_true hl
  simp only [Bool.not_true, cond_false, cond_true]
  refine (zfp l.length (zxy l) 8 (fun i hi => ?_) ?_).trans ?_
  ·obtain ⟨g1, g2⟩ := h _ (List.getElem_mem hi)
   have hgd : l.getD i default = l[i] := by simp [hi]
   have hdr := List.drop_eq_getElem_cons hi
   have hw : w64 ((i : Int) + 1) = ((i + 1 : Nat) : Int) := zw hi (by unfold big; omega)
   have hw2 : w64 (((i + 1 : Nat) : Int) + 1) = ((i + 2 : Nat) : Int) := zw (n := i + 2) (by omega) (by unfold big; omega)
   unfold zxy
   rw [hdr, hgd]
   simp only [zM hi, cond_true, zH hi, za, Option.bind_some, zt8 g1 g2, hw]
   cases hf : zxf l[i] with
   | false => rfl
   | true =>
    simp only [Bool.not_true, cond_false, zD, Option.bind_some, Bool.true_and]
    have hu := zDe hi hl
    have hd := zCn hi (l[i].kind == 9 && l[i].text == [92]) (some (LO.ret 8)) (some (LO.again ((i + 1 : Nat) : Int)))
    simp only [za] at hu hd
    have hlow : (bif l[i].kind == 2 then bif l[i].kind == 2 then lowS (bif l[i].kind == 2 then l[i] else default).text == [117, 114, 108] else default else false) = zAw l[i] := by
     unfold zAw
     cases l[i].kind == 2 <;> rfl
    have ha : (zz (l[i].kind == 2) (Qj ((bif l[i].kind == 2 then l[i] else default).text, [117, 114, 108])) (default : Bool)) = some (bif l[i].kind == 2 then lowS (bif l[i].kind == 2 then l[i] else default).text == [117, 114, 108] else default) := by
     cases h2 : l[i].kind == 2 with
     | false => rfl
     | true =>
      show Qj (l[i].text, [117, 114, 108]) = some (lowS l[i].text == [117, 114, 108])
      rw [zBk g1 (by decide), zAO]
    have hdl : (bif l[i].kind == 9 then (bif l[i].kind == 9 then l[i] else default).text == [92] else false) = (l[i].kind == 9 && l[i].text == [92]) := zDL (l[i].kind == 9) l[i] default fun t => t.text == [92]
    simp only [ha, Option.bind_some, hlow, hdl, hu, okAt]
    cases zAw l[i] with
    | false =>
     simp only [cond_false, zJ, Bool.not_false, Bool.true_or, Bool.and_true]
     refine hd.trans ?_
     cases (!(l[i].kind == 9 && l[i].text == [92]) || zsB (l.drop (i + 1))) <;> rfl
    | true =>
     simp only [cond_true, Bool.not_true, Bool.false_or]
     cases zxU (l.drop (i + 1)) with
     | false => simp only [cond_false, zvN, Bool.and_false]
     | true =>
      simp only [cond_true, zJ, Bool.and_true]
      refine hd.trans ?_
      cases (!(l[i].kind == 9 && l[i].text == [92]) || zsB (l.drop (i + 1))) <;> rfl
  ·simp only [zF, cond_false]
  ·cases (List.range l.length).all (zxy l) <;> rfl
end Go.Lv.VT
