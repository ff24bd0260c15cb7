/- Laws for the plain texts: loops that look for something; bytes. -/
import Derived.Test.YtnfhfeipljhciaaGreatDoorLf
import Derived.Test.YtnfhfeipljhciaaGreatDoorTx
namespace Go.Lv.VT
abbrev big : Nat := 4194304
theorem zlT {i n : Nat} (h : i < n) : decide ((i : Int) < (n : Int)) = true := decide_eq_true (by omega)
theorem zoz (n : Nat) : decide ((n : Int) < (n : Int)) = false := decide_eq_false (by omega)
theorem zjF {i n : Nat} (h : i < n) (hn : n ≤ big) : w64 ((i : Int) + 1) = ((i + 1 : Nat) : Int) := by
 rw [w64, zlf (by omega) (by unfold big at hn; omega)]; omega
theorem zdH {α : Type} (b : Bool) (v d : α) : zx b (some v) d = some (bif b then v else d) := by cases b <;> rfl
theorem ziw {α X R : Type} {step : Int → Option (LO Int X R)} {k : X → Option R} (l : List α) (q : α → Option R) (x : X)
  (hg : ∀ (i : Nat) (h : i < l.length), step (i : Int) = some (match q l[i] with | some r => .ret r | none => .again ((i + 1 : Nat) : Int)))
  (hf : step (l.length : Int) = some (.out x)) : Qs step 0 k = match l.findSome? q with | some r => some r | none => k x := by
 have key : ∀ (m : List α) (i : Nat), l.drop i = m → i ≤ l.length → ∃ n, zaM step n (i : Int) = some (match m.findSome? q with | some r => .ret r | none => .out x) := by
  intro m
  induction m with
  | nil =>
   intro i hd hi
   have : i = l.length := by have := List.drop_eq_nil_iff.1 hd; omega
   subst this
   exact ⟨1, by simp only [zaM, hf, List.findSome?_nil]⟩
  | cons v m ih =>
   intro i hd hi
   have hlt : i < l.length := by
    rcases Nat.lt_or_ge i l.length with h | h
    ·exact h
    ·rw [List.drop_eq_nil_of_le h] at hd; cases hd
   have hv : l[i] = v := by
    have := List.drop_eq_getElem_cons hlt
    rw [hd] at this
    injection this with h1 _
    exact h1.symm
   have hs := hg i hlt
   rw [hv] at hs
   cases hq : q v with
   | some r =>
    rw [hq] at hs
    exact ⟨1, by simp only [zaM, hs, List.findSome?_cons, hq]⟩
   | none =>
    rw [hq] at hs
    obtain ⟨n, hn⟩ := ih (i + 1) (by rw [List.drop_eq_getElem_cons hlt] at hd; injection hd) (by omega)
    refine ⟨n + 1, ?_⟩
    simp only [zaM, hs, List.findSome?_cons, hq]
    exact hn
 obtain ⟨n, hn⟩ := key l 0 rfl (by omega)
 replace hn : zaM step n 0 = _ := hn
 rw [zjc (ze0 hn)]
 cases l.findSome? q <;> rfl
theorem zml {α R : Type} (p : α → Bool) (r : R) : ∀ (l : List α), l.findSome? (fun v => bif p v then none else some r) = bif l.all p then none else some r
 | [] => rfl
 | v :: l => by
  rw [List.findSome?_cons, List.all_cons]
  cases p v with
  | false => rfl
  | true => exact zml p r l
end Go.Lv.VT

namespace Go.Lv.VT
set_option maxRecDepth 100000
def zmg (n : Nat) := zgH
theorem zoq (n : Nat) (x) : Le (zmg n x) (zgH x) := .rfl
def zkn (n : Nat) := zet
theorem zni (n : Nat) (x) : Le (zkn n x) (zet x) := .rfl
def zi7 (n : Nat) := zeT
theorem zkx (n : Nat) (x) : Le (zi7 n x) (zeT x) := .rfl
def zjB (n : Nat) := zhx
theorem zkz (n : Nat) (x) : Le (zjB n x) (zhx x) := .rfl
def zjD (n : Nat) := zej
theorem zkA (n : Nat) (x) : Le (zjD n x) (zej x) := .rfl
def zgU (n : Nat) := zcm
theorem zkw (n : Nat) (x) : Le (zgU n x) (zcm x) := .rfl
def zqe (n : Nat) := cutF
theorem zqI (n : Nat) (x) : Le (zqe n x) (cutF x) := .rfl
def zgO (n : Nat) := zdg
theorem ziv (n : Nat) (x) : Le (zgO n x) (zdg x) := .rfl
def zhZ (n : Nat) := zdD
theorem zlN (n : Nat) (x) : Le (zhZ n x) (zdD x) := .rfl
def zfl (n : Nat) := zbR
theorem zg0 (n : Nat) (x) : Le (zfl n x) (zbR x) := .rfl
def QH (n : Nat) (x : Str) : Option ze :=
 some (⟨1, x, 0, [], false⟩ : ze)
theorem zaU (n : Nat) (x : Str) : Le (QH n x) (Zn x) := by
 unfold QH Zn
 exact .rfl
def zN (n : Nat) (x : Str × Int) : Option Int :=
 zb (zkn n (x.1, x.2)) fun y1 =>
 some y1
theorem Za (n : Nat) (x : Str × Int) : Le (zN n x) (strings_IndexByte x) := by
 unfold zN strings_IndexByte
 exact (.bind (zni n _) fun _ => .rfl)
def Z7 (n : Nat) (x : Str × Str) : Option Bool :=
 need (decide (0 ≤ (x.2.length : Int)) && decide ((x.2.length : Int) ≤ (x.1.length : Int)) || !(decide ((x.1.length : Int) ≥ (x.2.length : Int)))) <|
 some (bif decide ((x.1.length : Int) ≥ (x.2.length : Int)) then List.take x.2.length x.1 == x.2 else false)
theorem zai (n : Nat) (x : Str × Str) : Le (Z7 n x) (stringslite_HasPrefix x) := by
 unfold Z7 stringslite_HasPrefix
 exact (.need .rfl)
def qO (n : Nat) (x : Str × Str) : Option Str :=
 zb (Z7 n (x.1, x.2)) fun y1 =>
 bif y1 then
  need (decide (0 ≤ (x.2.length : Int)) && decide ((x.2.length : Int) ≤ (x.1.length : Int))) <|
  some (List.drop x.2.length x.1)
 else
  some x.1
theorem zcb (n : Nat) (x : Str × Str) : Le (qO n x) (stringslite_TrimPrefix x) := by
 unfold qO stringslite_TrimPrefix
 exact (.bind (zai n _) fun _ => (.bif (.need .rfl) .rfl))
def QR (n : Nat) (x : Str × Str) : Option Str :=
 zb (qO n (x.1, x.2)) fun y1 =>
 some y1
theorem zdj (n : Nat) (x : Str × Str) : Le (QR n x) (strings_TrimPrefix x) := by
 unfold QR strings_TrimPrefix
 exact (.bind (zcb n _) fun _ => .rfl)
def qU (n : Nat) (x : Int) : Option Bool :=
 some (bif decide (48 ≤ x) then decide (x ≤ 57) else false)
theorem QI (n : Nat) (x : Int) : Le (qU n x) (ZH x) := by
 unfold qU ZH
 exact .rfl
def QV (n : Nat) (x : Str) : Option Bool :=
 zb (QR n (x, [45])) fun y1 =>
 zb (zx (!(y1 == [])) (geti y1 0) 0) fun y2 =>
 zb (zx (!(y1 == [])) (qU n (y2.toNat : Int)) (default : Bool)) fun y3 =>
 some (bif !(y1 == []) then y3 else false)
theorem zbJ (n : Nat) (x : Str) : Le (QV n x) (ZM x) := by
 unfold QV ZM
 exact (.bind (zdj n _) fun _ => (.bind .rfl fun _ => (.bind (.cond (QI n _)) fun _ => .rfl)))
def zM (n : Nat) (x : Str × Str) : Option Bool :=
 zb (Z7 n (x.1, x.2)) fun y1 =>
 some y1
theorem zZ (n : Nat) (x : Str × Str) : Le (zM n x) (strings_HasPrefix x) := by
 unfold zM strings_HasPrefix
 exact (.bind (zai n _) fun _ => .rfl)
def zbg (n : Nat) (x : Int) : Option Bool :=
 some (bif bif decide (97 ≤ ibOr IntKind.u8 x 32) then decide (ibOr IntKind.u8 x 32 ≤ 122) else false then decide (x < 128) else false)
theorem zd6 (n : Nat) (x : Int) : Le (zbg n x) (Q8 x) := by
 unfold zbg Q8
 exact .rfl
def zah (n : Nat) (x : Int) : Option Bool :=
 zb (zbg n x) fun y1 =>
 zb (zx (!y1) (qU n x) (default : Bool)) fun y2 =>
 some (bif bif bif bif y1 then true else y2 then true else x == 95 then true else x == 45 then true else decide (x ≥ 128))
theorem zbm (n : Nat) (x : Int) : Le (zah n x) (Ql x) := by
 unfold zah Ql
 exact (.bind (zd6 n _) fun _ => (.bind (.cond (QI n _)) fun _ => .rfl))
def zaA (n : Nat) (x : Str × Str) : Option Bool :=
 zb (zi7 n (x.1, x.2)) fun y1 =>
 some (decide (y1 ≥ 0))
theorem zew (n : Nat) (x : Str × Str) : Le (zaA n x) (strings_Contains x) := by
 unfold zaA strings_Contains
 exact (.bind (zkx n _) fun _ => .rfl)
def zcJ (n : Nat) (x : ze) : Option Bool :=
 need (zhW x.text.length x.unit.length) <|
 zb (zN n (x.text ++ x.unit, 0)) fun y1 =>
 zH (X := Bool × Bool × Bool × Bool × Bool) (
   zH (X := Bool × Bool × Bool × Bool × Bool × Bool) (
     bif x.kind == 1 then
      some (LX.out (false, false, false, false, decide (y1 < 0), x.kind == 1))
     else
      bif x.kind == 2 then
       some (LX.out (false, false, false, false, decide (y1 < 0), x.kind == 2))
      else
       some (LX.out (false, false, false, false, decide (y1 < 0), x.kind == 3))) fun j2 =>
   bif j2.2.2.2.2.2 then
    some (LX.out (true, j2.2.1, j2.2.2.1, j2.2.2.2.1, bif j2.2.2.2.2.1 then !(x.text == []) else false))
   else
    bif x.kind == 4 then
     zb (zx (!x.flag && (bif j2.2.2.2.2.1 then !(x.text == []) else false)) (QV n x.text) (default : Bool)) fun y3 =>
     zb (zx (y3 && (!x.flag && (bif j2.2.2.2.2.1 then !(x.text == []) else false))) (zM n (x.text, [45, 45])) (default : Bool)) fun y4 =>
     some (LX.out (true, j2.2.1, j2.2.2.1, true, bif bif j2.2.2.2.2.1 then !(x.text == []) else false then bif bif x.flag then true else bif y3 then !y4 else false then true else x.text == [45] else false))
    else
     zH (X := Bool × Bool × Bool × Bool × Bool × Bool) (
       bif x.kind == 5 then
        some (LX.out (j2.1, j2.2.1, j2.2.2.1, j2.2.2.2.1, j2.2.2.2.2.1, x.kind == 5))
       else
        some (LX.out (j2.1, j2.2.1, j2.2.2.1, j2.2.2.2.1, j2.2.2.2.2.1, x.kind == 7))) fun j5 =>
     bif j5.2.2.2.2.2 then
      some (LX.out (true, j5.2.1, j5.2.2.1, j5.2.2.2.1, j5.2.2.2.2.1))
     else
      bif x.kind == 9 then
       zb (zx (bif j5.2.2.2.2.1 then (x.text.length : Int) == 1 else false) (geti x.text 0) 0) fun y6 =>
       zb (zx (bif j5.2.2.2.2.1 then (x.text.length : Int) == 1 else false) (zah n (y6.toNat : Int)) (default : Bool)) fun y7 =>
       zb (zx (bif bif bif j5.2.2.2.2.1 then (x.text.length : Int) == 1 else false then !y7 else false then true else x.text == [45]) (zaA n ([32, 9, 10, 12, 13, 34, 39, 58, 59, 44, 91, 93, 40, 41, 123, 125], x.text)) (default : Bool)) fun y8 =>
       some (LX.out (true, j5.2.1, j5.2.2.1, j5.2.2.2.1, bif bif bif bif j5.2.2.2.2.1 then (x.text.length : Int) == 1 else false then !y7 else false then true else x.text == [45] then !y8 else false))
      else
       zH (X := Bool × Bool × Bool × Bool × Bool) (
         bif x.kind == 10 then
          some (LX.out (j5.2.1, j5.2.2.1, j5.2.2.2.1, j5.2.2.2.2.1, x.kind == 10))
         else
          bif x.kind == 11 then
           some (LX.out (j5.2.1, j5.2.2.1, j5.2.2.2.1, j5.2.2.2.2.1, x.kind == 11))
          else
           some (LX.out (j5.2.1, j5.2.2.1, j5.2.2.2.1, j5.2.2.2.2.1, x.kind == 12))) fun j9 =>
       bif j9.2.2.2.2 then
        some (LX.out (j5.1, x.kind == 12, true, x.kind != 11, bif bif bif bif j9.2.2.2.1 then decide (x.num ≥ (-1000000000000)) else false then decide (x.num ≤ 1000000000000) else false then bif !x.flag then true else Int.tmod x.num 1000 == 0 else false then bif !(x.kind == 12) then true else !(x.unit == []) else false))
       else
        some (LX.out (j5.1, j9.1, j9.2.1, j9.2.2.1, bif decide (x.kind ≥ 13) then decide (x.kind ≤ 24) else false))) fun j10 =>
 some (bif bif bif bif j10.2.2.2.2 then bif j10.1 then true else x.text == [] else false then bif j10.2.1 then true else x.unit == [] else false then bif j10.2.2.1 then true else x.num == 0 else false then bif j10.2.2.2.1 then true else !x.flag else false)
theorem zfX (n : Nat) (x : ze) : Le (zcJ n x) (zaq x) := by
 unfold zcJ zaq
 exact (.need (.bind (Za n _) fun _ => (.join (.join (.bif .rfl (.bif .rfl .rfl)) fun _ => (.bif .rfl (.bif (.bind (.cond (zbJ n _)) fun _ => (.bind (.cond (zZ n _)) fun _ => .rfl)) (.join (.bif .rfl .rfl) fun _ => (.bif .rfl (.bif (.bind .rfl fun _ => (.bind (.cond (zbm n _)) fun _ => (.bind (.cond (zew n _)) fun _ => .rfl))) (.join (.bif .rfl (.bif .rfl .rfl)) fun _ => (.bif .rfl .rfl)))))))) fun _ => .rfl)))
def QW (n : Nat) (x : (Int × Int) × List ze) : Option Bool :=
 zb (zx (decide (x.1.1 < (x.2.length : Int))) (geti x.2 x.1.1) (default : ze)) fun y1 =>
 some (bif decide (x.1.1 < (x.2.length : Int)) then y1.kind == x.1.2 else false)
theorem zbK (n : Nat) (x : (Int × Int) × List ze) : Le (QW n x) (ZN x) := by
 unfold QW ZN
 exact (.bind .rfl fun _ => .rfl)
def zbk (n : Nat) (x : Str) : Option Str :=
 need (decide (x.length ≤ maxLen)) <|
 za0 n (fun (s1 : Int × List UInt8) =>
   bif decide (s1.1 < (x.length : Int)) then
    zH (X := Int × List UInt8) (
      need (decide (0 ≤ s1.1) && decide (s1.1 < (s1.2.length : Int))) <|
      zb s1.2[s1.1.toNat]? fun y2 =>
      bif bif decide (65 ≤ (y2.toNat : Int)) then decide ((y2.toNat : Int) ≤ 90) else false then
       need (decide (0 ≤ s1.1) && decide (s1.1 < (s1.2.length : Int))) <|
       zb s1.2[s1.1.toNat]? fun y3 =>
       need (decide (0 ≤ s1.1) && decide (s1.1 < (s1.2.length : Int))) <|
       zb s1.2[s1.1.toNat]? fun y4 =>
       zb (zT (ibOr IntKind.u8 (y3.toNat : Int) 32)) fun y5 =>
       some (LX.out (s1.1, List.set s1.2 s1.1.toNat y5))
      else
       some (LX.out (s1.1, s1.2))) fun j6 =>
    some (LO.again (w64 (j6.1 + 1), j6.2))
   else
    some (LO.out s1.2) : Int × List UInt8 → Option (LO (Int × List UInt8) (List UInt8) _)) (0, x) fun o7 =>
 some o7
theorem zd9 (n : Nat) (x : Str) : Le (zbk n x) (Qz x) := by
 unfold zbk Qz
 exact (.need (.loop (fun _ => (.bif (.join (.need (.bind .rfl fun _ => (.bif (.need (.bind .rfl fun _ => (.need (.bind .rfl fun _ => (.bind .rfl fun _ => .rfl))))) .rfl))) fun _ => .rfl) .rfl)) fun _ => .rfl))
def zbj (n : Nat) (x : Str × Str) : Option Bool :=
 zb (zbk n x.1) fun y1 =>
 zb (zbk n x.2) fun y2 =>
 some (y1 == y2)
theorem zd8 (n : Nat) (x : Str × Str) : Le (zbj n x) (Qa x) := by
 unfold zbj Qa
 exact (.bind (zd9 n _) fun _ => (.bind (zd9 n _) fun _ => .rfl))
def zb0 (n : Nat) (x : List ze) : Option Int :=
 zb (geti x 0) fun y1 =>
 bif bif y1.kind == 9 then y1.text == [92] else false then
  zb (QW n ((1, 13), x)) fun y2 =>
  bif !y2 then
   some 0
  else
   some 2
 else
  zb (zx (y1.kind == 2) (zbj n (y1.text, [117, 114, 108])) (default : Bool)) fun y3 =>
  bif bif y1.kind == 2 then y3 else false then
   zH (X := Int) (
     zb (QW n ((1, 13), x)) fun y4 =>
     bif y4 then
      some (LX.out 2)
     else
      some (LX.out 1)) fun j5 =>
   zb (QW n ((j5, 5), x)) fun y6 =>
   bif !y6 then
    some 0
   else
    some (w64 (j5 + 1))
  else
   some 1
theorem zeY (n : Nat) (x : List ze) : Le (zb0 n x) (qH x) := by
 unfold zb0 qH
 exact (.bind .rfl fun _ => (.bif (.bind (zbK n _) fun _ => (.bif .rfl .rfl)) (.bind (.cond (zd8 n _)) fun _ => (.bif (.join (.bind (zbK n _) fun _ => (.bif .rfl .rfl)) fun _ => (.bind (zbK n _) fun _ => (.bif .rfl .rfl))) .rfl))))
def zbY (n : Nat) (x : List ze) : Option Int :=
 bif decide ((x.length : Int) > 1500) then
  some 4
 else
  za0 n (fun (s1 : Int) =>
    bif decide (s1 < (x.length : Int)) then
     zb (geti x s1) fun y2 =>
     zb (zcJ n y2) fun y3 =>
     need (decide (0 ≤ s1) && decide (s1 ≤ (x.length : Int)) || !(!(!y3))) <|
     zb (zx (!(!y3)) (zb0 n (List.drop s1.toNat x)) (default : Int)) fun y4 =>
     bif bif !y3 then true else y4 == 0 then
      some (LO.ret 8)
     else
      some (LO.again (w64 (s1 + 1)))
    else
     some (LO.out ()) : Int → Option (LO (Int) (Unit) _)) 0 fun o5 =>
  some 0
theorem zbl (n : Nat) (x : List ze) : Le (zbY n x) (zX x) := by
 unfold zbY zX
 exact (.bif .rfl (.loop (fun _ => (.bif (.bind .rfl fun _ => (.bind (zfX n _) fun _ => (.need (.bind (.cond (zeY n _)) fun _ => (.bif .rfl .rfl))))) .rfl)) fun _ => .rfl))
def Zq (n : Nat) (x : Str) : Option Int :=
 zb (zM n (x, [45])) fun y1 =>
 bif y1 then
  some 2
 else
  some 1
theorem Zv (n : Nat) (x : Str) : Le (Zq n x) (Zp x) := by
 unfold Zq Zp
 exact (.bind (zZ n _) fun _ => (.bif .rfl .rfl))
def Zf (n : Nat) (x : Int × List UInt8) : Option (List UInt8) :=
 zb (zx (bif decide (x.1 > 32) then decide (x.1 < 127) else false) (qU n x.1) (default : Bool)) fun y1 =>
 zb (zx (bif bif decide (x.1 > 32) then decide (x.1 < 127) else false then !y1 else false) (zbg n x.1) (default : Bool)) fun y2 =>
 bif bif bif bif decide (x.1 > 32) then decide (x.1 < 127) else false then !y1 else false then !y2 else false then
  zb (zT x.1) fun y3 =>
  need (zw x.2.length 2 1) <|
  some (x.2 ++ [(92 : UInt8), y3])
 else
  need (zw x.2.length 1 1) <|
  zb (zhZ n ((wu64 x.1, 16), x.2 ++ [(92 : UInt8)])) fun y4 =>
  need (zw y4.length 1 1) <|
  some (y4 ++ [(32 : UInt8)])
theorem ZF (n : Nat) (x : Int × List UInt8) : Le (Zf n x) (zL x) := by
 unfold Zf zL
 exact (.bind (.cond (QI n _)) fun _ => (.bind (.cond (zd6 n _)) fun _ => (.bif (.bind .rfl fun _ => (.need .rfl)) (.need (.bind (zlN n _) fun _ => (.need .rfl))))))
def zar (n : Nat) (x : Str × Int) : Option (List UInt8) :=
 za0 n (fun (s1 : Int × List UInt8) =>
   bif decide (s1.1 < (x.1.length : Int)) then
    zH (X := Int × List UInt8) (
      zb (geti x.1 s1.1) fun y2 =>
      zb (zah n (y2.toNat : Int)) fun y3 =>
      zb (zx (!(decide (s1.1 ≥ x.2)) && y3) (qU n (y2.toNat : Int)) (default : Bool)) fun y4 =>
      bif bif bif y3 then bif decide (s1.1 ≥ x.2) then true else !y4 else false then bif x.2 == 0 then true else !(x.1 == [45]) else false then
       zb (zT (y2.toNat : Int)) fun y5 =>
       need (zw s1.2.length 1 1) <|
       some (LX.out (s1.1, s1.2 ++ [y5]))
      else
       zb (Zf n ((y2.toNat : Int), s1.2)) fun y6 =>
       some (LX.out (s1.1, y6))) fun j7 =>
    some (LO.again (w64 (j7.1 + 1), j7.2))
   else
    some (LO.out s1.2) : Int × List UInt8 → Option (LO (Int × List UInt8) (List UInt8) _)) (0, []) fun o8 =>
 some o8
theorem zca (n : Nat) (x : Str × Int) : Le (zar n x) (Qw x) := by
 unfold zar Qw
 exact (.loop (fun _ => (.bif (.join (.bind .rfl fun _ => (.bind (zbm n _) fun _ => (.bind (.cond (QI n _)) fun _ => (.bif (.bind .rfl fun _ => (.need .rfl)) (.bind (ZF n _) fun _ => .rfl))))) fun _ => .rfl) .rfl)) fun _ => .rfl)
def Zj (n : Nat) (x : (Str × Int) × List UInt8) : Option (List UInt8) :=
 za0 n (fun (s1 : Int × List UInt8) =>
   bif decide (s1.1 < (x.1.1.length : Int)) then
    zH (X := Int × List UInt8) (
      zb (geti x.1.1 s1.1) fun y2 =>
      zb (zah n (y2.toNat : Int)) fun y3 =>
      zb (zx (!(decide (s1.1 ≥ x.1.2)) && y3) (qU n (y2.toNat : Int)) (default : Bool)) fun y4 =>
      bif bif bif y3 then bif decide (s1.1 ≥ x.1.2) then true else !y4 else false then bif x.1.2 == 0 then true else !(x.1.1 == [45]) else false then
       zb (zT (y2.toNat : Int)) fun y5 =>
       need (zw s1.2.length 1 1) <|
       some (LX.out (s1.1, s1.2 ++ [y5]))
      else
       zb (Zf n ((y2.toNat : Int), s1.2)) fun y6 =>
       some (LX.out (s1.1, y6))) fun j7 =>
    some (LO.again (w64 (j7.1 + 1), j7.2))
   else
    some (LO.out s1.2) : Int × List UInt8 → Option (LO (Int × List UInt8) (List UInt8) _)) (0, x.2) fun o8 =>
 some o8
theorem Zu (n : Nat) (x : (Str × Int) × List UInt8) : Le (Zj n x) (Zm x) := by
 unfold Zj Zm
 exact (.loop (fun _ => (.bif (.join (.bind .rfl fun _ => (.bind (zbm n _) fun _ => (.bind (.cond (QI n _)) fun _ => (.bif (.bind .rfl fun _ => (.need .rfl)) (.bind (ZF n _) fun _ => .rfl))))) fun _ => .rfl) .rfl)) fun _ => .rfl)
def Qx (n : Nat) (x : Int × Bool) : Option (List UInt8) :=
 zH (X := Int × List UInt8) (
   bif decide (x.1 < 0) then
    need (zw 0 1 1) <|
    some (LX.out (w64 (0 - x.1), [(45 : UInt8)]))
   else
    some (LX.out (x.1, []))) fun j1 =>
 zb (zfl n ((w64 (Int.tdiv j1.1 1000), 10), j1.2)) fun y2 =>
 zb (zgO n (w64 (1000 + Int.tmod j1.1 1000), 10)) fun y3 =>
 need (decide (1 ≤ (y3.length : Int))) <|
 zb (zjD n (List.drop 1 y3, [48])) fun y4 =>
 zH (X := List UInt8) (
   bif !(y4 == []) then
    need (zw y2.length 1 1) <|
    need (zw (y2 ++ [(46 : UInt8)]).length y4.length 1) <|
    some (LX.out (y2 ++ [(46 : UInt8)] ++ y4))
   else
    bif x.2 then
     need (zw y2.length ([46, 48] : Str).length 1) <|
     some (LX.out (y2 ++ ([46, 48] : Str)))
    else
     some (LX.out y2)) fun j5 =>
 some j5
theorem za3 (n : Nat) (x : Int × Bool) : Le (Qx n x) (qY x) := by
 unfold Qx qY
 exact (.join (.bif (.need .rfl) .rfl) fun _ => (.bind (zg0 n _) fun _ => (.bind (ziv n _) fun _ => (.need (.bind (zkA n _) fun _ => (.join (.bif (.need (.need .rfl)) (.bif (.need .rfl) .rfl)) fun _ => .rfl))))))
def zbZ (n : Nat) (x : Unit) : Option qw :=
 some (⟨[32], [60, 33, 45, 45], [45, 45, 62], [58], [59], [44], [91], [93], [40], [41], [123], [125]⟩ : qw)
theorem zeX (n : Nat) (x : Unit) : Le (zbZ n x) (zaL x) := by
 unfold zbZ zaL
 exact .rfl
def zcK (n : Nat) (x : ze) : Option (List UInt8) :=
 bif x.kind == 1 then
  zb (Zq n x.text) fun y1 =>
  zb (zar n (x.text, y1)) fun y2 =>
  some y2
 else
  bif x.kind == 2 then
   zb (Zq n x.text) fun y3 =>
   zb (zar n (x.text, y3)) fun y4 =>
   need (zw y4.length 1 1) <|
   some (y4 ++ [(40 : UInt8)])
  else
   bif x.kind == 3 then
    need (zw 0 1 1) <|
    zb (Zq n x.text) fun y5 =>
    zb (Zj n ((x.text, y5), [(64 : UInt8)])) fun y6 =>
    some y6
   else
    bif x.kind == 4 then
     zH (X := Int) (
       bif x.flag then
        zb (Zq n x.text) fun y7 =>
        some (LX.out y7)
       else
        some (LX.out 0)) fun j8 =>
     need (zw 0 1 1) <|
     zb (Zj n ((x.text, j8), [(35 : UInt8)])) fun y9 =>
     some y9
    else
     bif x.kind == 5 then
      need (zw 0 1 1) <|
      need (decide (x.text.length ≤ maxLen)) <|
      za0 n (fun (s10 : Int × List UInt8) =>
        bif decide (s10.1 < (x.text.length : Int)) then
         zH (X := Int × List UInt8) (
           need (decide (0 ≤ s10.1) && decide (s10.1 < (x.text.length : Int))) <|
           zb x.text[s10.1.toNat]? fun y11 =>
           zb (zN n ([10, 12, 13, 34, 92], (y11.toNat : Int))) fun y12 =>
           bif decide (y12 ≥ 0) then
            zb (Zf n ((y11.toNat : Int), s10.2)) fun y13 =>
            some (LX.out (s10.1, y13))
           else
            zb (zT (y11.toNat : Int)) fun y14 =>
            need (zw s10.2.length 1 1) <|
            some (LX.out (s10.1, s10.2 ++ [y14]))) fun j15 =>
         some (LO.again (w64 (j15.1 + 1), j15.2))
        else
         some (LO.out s10.2) : Int × List UInt8 → Option (LO (Int × List UInt8) (List UInt8) _)) (0, [(34 : UInt8)]) fun o16 =>
      need (zw o16.length 1 1) <|
      some (o16 ++ [(34 : UInt8)])
     else
      bif x.kind == 7 then
       need (zw 0 ([117, 114, 108, 40] : Str).length 1) <|
       need (decide (x.text.length ≤ maxLen)) <|
       za0 n (fun (s17 : Int × List UInt8) =>
         bif decide (s17.1 < (x.text.length : Int)) then
          zH (X := Int × List UInt8) (
            need (decide (0 ≤ s17.1) && decide (s17.1 < (x.text.length : Int))) <|
            zb x.text[s17.1.toNat]? fun y18 =>
            zb (zx (!(decide ((y18.toNat : Int) ≤ 32))) (zN n ([34, 39, 40, 41, 92, 127], (y18.toNat : Int))) (default : Int)) fun y19 =>
            bif bif decide ((y18.toNat : Int) ≤ 32) then true else decide (y19 ≥ 0) then
             zb (Zf n ((y18.toNat : Int), s17.2)) fun y20 =>
             some (LX.out (s17.1, y20))
            else
             zb (zT (y18.toNat : Int)) fun y21 =>
             need (zw s17.2.length 1 1) <|
             some (LX.out (s17.1, s17.2 ++ [y21]))) fun j22 =>
          some (LO.again (w64 (j22.1 + 1), j22.2))
         else
          some (LO.out s17.2) : Int × List UInt8 → Option (LO (Int × List UInt8) (List UInt8) _)) (0, ([117, 114, 108, 40] : Str)) fun o23 =>
       need (zw o23.length 1 1) <|
       some (o23 ++ [(41 : UInt8)])
      else
       bif x.kind == 9 then
        need (zw 0 x.text.length 1) <|
        some x.text
       else
        bif x.kind == 10 then
         zb (Qx n (x.num, !x.flag)) fun y24 =>
         some y24
        else
         bif x.kind == 11 then
          zb (Qx n (x.num, false)) fun y25 =>
          need (zw y25.length 1 1) <|
          some (y25 ++ [(37 : UInt8)])
         else
          bif x.kind == 12 then
           zb (Qx n (x.num, !x.flag)) fun y26 =>
           zb (geti x.unit 0) fun y27 =>
           need (decide (1 ≤ (x.unit.length : Int)) || !(ibOr IntKind.u8 (y27.toNat : Int) 32 == 101)) <|
           zb (zx (ibOr IntKind.u8 (y27.toNat : Int) 32 == 101) (QV n (List.drop 1 x.unit)) (default : Bool)) fun y28 =>
           need (decide (1 ≤ (x.unit.length : Int)) || !(bif ibOr IntKind.u8 (y27.toNat : Int) 32 == 101 then y28 else false)) <|
           zb (zx (bif ibOr IntKind.u8 (y27.toNat : Int) 32 == 101 then y28 else false) (zM n (List.drop 1 x.unit, [45, 45])) (default : Bool)) fun y29 =>
           bif bif bif ibOr IntKind.u8 (y27.toNat : Int) 32 == 101 then y28 else false then !y29 else false then
            zb (geti x.unit 0) fun y30 =>
            zb (Zf n ((y30.toNat : Int), y26)) fun y31 =>
            need (decide (1 ≤ (x.unit.length : Int))) <|
            zb (Zj n ((List.drop 1 x.unit, 0), y31)) fun y32 =>
            some y32
           else
            zb (Zq n x.unit) fun y33 =>
            zb (Zj n ((x.unit, y33), y26)) fun y34 =>
            some y34
          else
           zb (zbZ n ()) fun y35 =>
           zb (geti [y35.e0, y35.e1, y35.e2, y35.e3, y35.e4, y35.e5, y35.e6, y35.e7, y35.e8, y35.e9, y35.e10, y35.e11] (wu8 (x.kind - 13))) fun y36 =>
           need (zw 0 y36.length 1) <|
           some y36
theorem zhN (n : Nat) (x : ze) : Le (zcK n x) (zbG x) := by
 unfold zcK zbG
 exact (.bif (.bind (Zv n _) fun _ => (.bind (zca n _) fun _ => .rfl)) (.bif (.bind (Zv n _) fun _ => (.bind (zca n _) fun _ => (.need .rfl))) (.bif (.need (.bind (Zv n _) fun _ => (.bind (Zu n _) fun _ => .rfl))) (.bif (.join (.bif (.bind (Zv n _) fun _ => .rfl) .rfl) fun _ => (.need (.bind (Zu n _) fun _ => .rfl))) (.bif (.need (.need (.loop (fun _ => (.bif (.join (.need (.bind .rfl fun _ => (.bind (Za n _) fun _ => (.bif (.bind (ZF n _) fun _ => .rfl) (.bind .rfl fun _ => (.need .rfl)))))) fun _ => .rfl) .rfl)) fun _ => (.need .rfl)))) (.bif (.need (.need (.loop (fun _ => (.bif (.join (.need (.bind .rfl fun _ => (.bind (.cond (Za n _)) fun _ => (.bif (.bind (ZF n _) fun _ => .rfl) (.bind .rfl fun _ => (.need .rfl)))))) fun _ => .rfl) .rfl)) fun _ => (.need .rfl)))) (.bif (.need .rfl) (.bif (.bind (za3 n _) fun _ => .rfl) (.bif (.bind (za3 n _) fun _ => (.need .rfl)) (.bif (.bind (za3 n _) fun _ => (.bind .rfl fun _ => (.need (.bind (.cond (zbJ n _)) fun _ => (.need (.bind (.cond (zZ n _)) fun _ => (.bif (.bind .rfl fun _ => (.bind (ZF n _) fun _ => (.need (.bind (Zu n _) fun _ => .rfl)))) (.bind (Zv n _) fun _ => (.bind (Zu n _) fun _ => .rfl))))))))) (.bind (zeX n _) fun _ => (.bind .rfl fun _ => (.need .rfl)))))))))))))
def Qy (n : Nat) (x : (Int × Bool) × List UInt8) : Option (List UInt8) :=
 zH (X := Int × List UInt8) (
   bif decide (x.1.1 < 0) then
    need (zw x.2.length 1 1) <|
    some (LX.out (w64 (0 - x.1.1), x.2 ++ [(45 : UInt8)]))
   else
    some (LX.out (x.1.1, x.2))) fun j1 =>
 zb (zfl n ((w64 (Int.tdiv j1.1 1000), 10), j1.2)) fun y2 =>
 zb (zgO n (w64 (1000 + Int.tmod j1.1 1000), 10)) fun y3 =>
 need (decide (1 ≤ (y3.length : Int))) <|
 zb (zjD n (List.drop 1 y3, [48])) fun y4 =>
 zH (X := List UInt8) (
   bif !(y4 == []) then
    need (zw y2.length 1 1) <|
    need (zw (y2 ++ [(46 : UInt8)]).length y4.length 1) <|
    some (LX.out (y2 ++ [(46 : UInt8)] ++ y4))
   else
    bif x.1.2 then
     need (zw y2.length ([46, 48] : Str).length 1) <|
     some (LX.out (y2 ++ ([46, 48] : Str)))
    else
     some (LX.out y2)) fun j5 =>
 some j5
theorem za4 (n : Nat) (x : (Int × Bool) × List UInt8) : Le (Qy n x) (qZ x) := by
 unfold Qy qZ
 exact (.join (.bif (.need .rfl) .rfl) fun _ => (.bind (zg0 n _) fun _ => (.bind (ziv n _) fun _ => (.need (.bind (zkA n _) fun _ => (.join (.bif (.need (.need .rfl)) (.bif (.need .rfl) .rfl)) fun _ => .rfl))))))
def zcL (n : Nat) (x : ze × List UInt8) : Option (List UInt8) :=
 bif x.1.kind == 1 then
  zb (Zq n x.1.text) fun y1 =>
  zb (Zj n ((x.1.text, y1), x.2)) fun y2 =>
  some y2
 else
  bif x.1.kind == 2 then
   zb (Zq n x.1.text) fun y3 =>
   zb (Zj n ((x.1.text, y3), x.2)) fun y4 =>
   need (zw y4.length 1 1) <|
   some (y4 ++ [(40 : UInt8)])
  else
   bif x.1.kind == 3 then
    need (zw x.2.length 1 1) <|
    zb (Zq n x.1.text) fun y5 =>
    zb (Zj n ((x.1.text, y5), x.2 ++ [(64 : UInt8)])) fun y6 =>
    some y6
   else
    bif x.1.kind == 4 then
     zH (X := Int × List UInt8) (
       bif x.1.flag then
        zb (Zq n x.1.text) fun y7 =>
        some (LX.out (y7, x.2))
       else
        some (LX.out (0, x.2))) fun j8 =>
     need (zw j8.2.length 1 1) <|
     zb (Zj n ((x.1.text, j8.1), j8.2 ++ [(35 : UInt8)])) fun y9 =>
     some y9
    else
     bif x.1.kind == 5 then
      need (zw x.2.length 1 1) <|
      need (decide (x.1.text.length ≤ maxLen)) <|
      za0 n (fun (s10 : Int × List UInt8) =>
        bif decide (s10.1 < (x.1.text.length : Int)) then
         zH (X := Int × List UInt8) (
           need (decide (0 ≤ s10.1) && decide (s10.1 < (x.1.text.length : Int))) <|
           zb x.1.text[s10.1.toNat]? fun y11 =>
           zb (zN n ([10, 12, 13, 34, 92], (y11.toNat : Int))) fun y12 =>
           bif decide (y12 ≥ 0) then
            zb (Zf n ((y11.toNat : Int), s10.2)) fun y13 =>
            some (LX.out (s10.1, y13))
           else
            zb (zT (y11.toNat : Int)) fun y14 =>
            need (zw s10.2.length 1 1) <|
            some (LX.out (s10.1, s10.2 ++ [y14]))) fun j15 =>
         some (LO.again (w64 (j15.1 + 1), j15.2))
        else
         some (LO.out s10.2) : Int × List UInt8 → Option (LO (Int × List UInt8) (List UInt8) _)) (0, x.2 ++ [(34 : UInt8)]) fun o16 =>
      need (zw o16.length 1 1) <|
      some (o16 ++ [(34 : UInt8)])
     else
      bif x.1.kind == 7 then
       need (zw x.2.length ([117, 114, 108, 40] : Str).length 1) <|
       need (decide (x.1.text.length ≤ maxLen)) <|
       za0 n (fun (s17 : Int × List UInt8) =>
         bif decide (s17.1 < (x.1.text.length : Int)) then
          zH (X := Int × List UInt8) (
            need (decide (0 ≤ s17.1) && decide (s17.1 < (x.1.text.length : Int))) <|
            zb x.1.text[s17.1.toNat]? fun y18 =>
            zb (zx (!(decide ((y18.toNat : Int) ≤ 32))) (zN n ([34, 39, 40, 41, 92, 127], (y18.toNat : Int))) (default : Int)) fun y19 =>
            bif bif decide ((y18.toNat : Int) ≤ 32) then true else decide (y19 ≥ 0) then
             zb (Zf n ((y18.toNat : Int), s17.2)) fun y20 =>
             some (LX.out (s17.1, y20))
            else
             zb (zT (y18.toNat : Int)) fun y21 =>
             need (zw s17.2.length 1 1) <|
             some (LX.out (s17.1, s17.2 ++ [y21]))) fun j22 =>
          some (LO.again (w64 (j22.1 + 1), j22.2))
         else
          some (LO.out s17.2) : Int × List UInt8 → Option (LO (Int × List UInt8) (List UInt8) _)) (0, x.2 ++ ([117, 114, 108, 40] : Str)) fun o23 =>
       need (zw o23.length 1 1) <|
       some (o23 ++ [(41 : UInt8)])
      else
       bif x.1.kind == 9 then
        need (zw x.2.length x.1.text.length 1) <|
        some (x.2 ++ x.1.text)
       else
        bif x.1.kind == 10 then
         zb (Qy n ((x.1.num, !x.1.flag), x.2)) fun y24 =>
         some y24
        else
         bif x.1.kind == 11 then
          zb (Qy n ((x.1.num, false), x.2)) fun y25 =>
          need (zw y25.length 1 1) <|
          some (y25 ++ [(37 : UInt8)])
         else
          bif x.1.kind == 12 then
           zb (Qy n ((x.1.num, !x.1.flag), x.2)) fun y26 =>
           zb (geti x.1.unit 0) fun y27 =>
           need (decide (1 ≤ (x.1.unit.length : Int)) || !(ibOr IntKind.u8 (y27.toNat : Int) 32 == 101)) <|
           zb (zx (ibOr IntKind.u8 (y27.toNat : Int) 32 == 101) (QV n (List.drop 1 x.1.unit)) (default : Bool)) fun y28 =>
           need (decide (1 ≤ (x.1.unit.length : Int)) || !(bif ibOr IntKind.u8 (y27.toNat : Int) 32 == 101 then y28 else false)) <|
           zb (zx (bif ibOr IntKind.u8 (y27.toNat : Int) 32 == 101 then y28 else false) (zM n (List.drop 1 x.1.unit, [45, 45])) (default : Bool)) fun y29 =>
           bif bif bif ibOr IntKind.u8 (y27.toNat : Int) 32 == 101 then y28 else false then !y29 else false then
            zb (geti x.1.unit 0) fun y30 =>
            zb (Zf n ((y30.toNat : Int), y26)) fun y31 =>
            need (decide (1 ≤ (x.1.unit.length : Int))) <|
            zb (Zj n ((List.drop 1 x.1.unit, 0), y31)) fun y32 =>
            some y32
           else
            zb (Zq n x.1.unit) fun y33 =>
            zb (Zj n ((x.1.unit, y33), y26)) fun y34 =>
            some y34
          else
           zb (zbZ n ()) fun y35 =>
           zb (geti [y35.e0, y35.e1, y35.e2, y35.e3, y35.e4, y35.e5, y35.e6, y35.e7, y35.e8, y35.e9, y35.e10, y35.e11] (wu8 (x.1.kind - 13))) fun y36 =>
           need (zw x.2.length y36.length 1) <|
           some (x.2 ++ y36)
theorem zd7 (n : Nat) (x : ze × List UInt8) : Le (zcL n x) (Q9 x) := by
 unfold zcL Q9
 exact (.bif (.bind (Zv n _) fun _ => (.bind (Zu n _) fun _ => .rfl)) (.bif (.bind (Zv n _) fun _ => (.bind (Zu n _) fun _ => (.need .rfl))) (.bif (.need (.bind (Zv n _) fun _ => (.bind (Zu n _) fun _ => .rfl))) (.bif (.join (.bif (.bind (Zv n _) fun _ => .rfl) .rfl) fun _ => (.need (.bind (Zu n _) fun _ => .rfl))) (.bif (.need (.need (.loop (fun _ => (.bif (.join (.need (.bind .rfl fun _ => (.bind (Za n _) fun _ => (.bif (.bind (ZF n _) fun _ => .rfl) (.bind .rfl fun _ => (.need .rfl)))))) fun _ => .rfl) .rfl)) fun _ => (.need .rfl)))) (.bif (.need (.need (.loop (fun _ => (.bif (.join (.need (.bind .rfl fun _ => (.bind (.cond (Za n _)) fun _ => (.bif (.bind (ZF n _) fun _ => .rfl) (.bind .rfl fun _ => (.need .rfl)))))) fun _ => .rfl) .rfl)) fun _ => (.need .rfl)))) (.bif (.need .rfl) (.bif (.bind (za4 n _) fun _ => .rfl) (.bif (.bind (za4 n _) fun _ => (.need .rfl)) (.bif (.bind (za4 n _) fun _ => (.bind .rfl fun _ => (.need (.bind (.cond (zbJ n _)) fun _ => (.need (.bind (.cond (zZ n _)) fun _ => (.bif (.bind .rfl fun _ => (.bind (ZF n _) fun _ => (.need (.bind (Zu n _) fun _ => .rfl)))) (.bind (Zv n _) fun _ => (.bind (Zu n _) fun _ => .rfl))))))))) (.bind (zeX n _) fun _ => (.bind .rfl fun _ => (.need .rfl)))))))))))))
def ZV (n : Nat) (x : za) : Option za :=
 za0 n (fun (s1 : za) =>
   need (decide (0 ≤ s1.at_) && decide (s1.at_ ≤ (s1.s.length : Int))) <|
   zb (zM n (List.drop s1.at_.toNat s1.s, [47, 42])) fun y2 =>
   bif y2 then
    need (decide (0 ≤ w64 (s1.at_ + 2)) && decide (w64 (s1.at_ + 2) ≤ (s1.s.length : Int))) <|
    zb (zi7 n (List.drop (w64 (s1.at_ + 2)).toNat s1.s, [42, 47])) fun y3 =>
    bif decide (y3 < 0) then
     some (LO.ret (⟨s1.s, (s1.s.length : Int)⟩ : za))
    else
     some (LO.again (⟨s1.s, w64 (s1.at_ + w64 (y3 + 4))⟩ : za))
   else
    some (LO.out s1) : za → Option (LO (za) (za) _)) x fun o4 =>
 some o4
theorem QX (n : Nat) (x : za) : Le (ZV n x) (Ze x) := by
 unfold ZV Ze
 exact (.loop (fun _ => (.need (.bind (zZ n _) fun _ => (.bif (.need (.bind (zkx n _) fun _ => (.bif .rfl .rfl))) .rfl)))) fun _ => .rfl)
def zh (n : Nat) (x : Int × za) : Option Int :=
 bif decide (w64 (x.2.at_ + x.1) < (x.2.s.length : Int)) then
  zb (geti x.2.s (w64 (x.2.at_ + x.1))) fun y1 =>
  some (w64 (y1.toNat : Int))
 else
  some (-1)
theorem zg (n : Nat) (x : Int × za) : Le (zh n x) (zf x) := by
 unfold zh zf
 exact (.bif (.bind .rfl fun _ => .rfl) .rfl)
def Qf (n : Nat) (x : Int) : Option Bool :=
 some (bif bif x == 32 then true else x == 9 then true else x == 10)
theorem QY (n : Nat) (x : Int) : Le (Qf n x) (ZJ x) := by
 unfold Qf ZJ
 exact .rfl
def Zt (n : Nat) (x : za) : Option za :=
 za0 n (fun (s1 : za) =>
   zb (zh n (0, s1)) fun y2 =>
   zb (Qf n y2) fun y3 =>
   bif y3 then
    some (LO.again (⟨s1.s, w64 (s1.at_ + 1)⟩ : za))
   else
    some (LO.out s1) : za → Option (LO (za) (za) _)) x fun o4 =>
 some o4
theorem qm (n : Nat) (x : za) : Le (Zt n x) (zG x) := by
 unfold Zt zG
 exact (.loop (fun _ => (.bind (zg n _) fun _ => (.bind (QY n _) fun _ => (.bif .rfl .rfl)))) fun _ => .rfl)
def qi (n : Nat) (x : Int) : Option (List UInt8) :=
 bif decide (wu32 x ≤ 2047) then
  zb (zT (ibOr IntKind.u8 192 (wu8 (zbi IntKind.i32 x 6)))) fun y1 =>
  zb (zT (ibOr IntKind.u8 128 (zbh IntKind.u8 (wu8 x) 63))) fun y2 =>
  need (zw 0 2 1) <|
  some [y1, y2]
 else
  zH (X := Bool) (
    bif decide (wu32 x < 55296) then
     some (LX.out (decide (wu32 x < 55296)))
    else
     some (LX.out (bif decide (57343 < wu32 x) then decide (wu32 x ≤ 65535) else false))) fun j3 =>
  bif j3 then
   zb (zT (ibOr IntKind.u8 224 (wu8 (zbi IntKind.i32 x 12)))) fun y4 =>
   zb (zT (ibOr IntKind.u8 128 (zbh IntKind.u8 (wu8 (zbi IntKind.i32 x 6)) 63))) fun y5 =>
   zb (zT (ibOr IntKind.u8 128 (zbh IntKind.u8 (wu8 x) 63))) fun y6 =>
   need (zw 0 3 1) <|
   some [y4, y5, y6]
  else
   bif bif decide (wu32 x > 65535) then decide (wu32 x ≤ 1114111) else false then
    zb (zT (ibOr IntKind.u8 240 (wu8 (zbi IntKind.i32 x 18)))) fun y7 =>
    zb (zT (ibOr IntKind.u8 128 (zbh IntKind.u8 (wu8 (zbi IntKind.i32 x 12)) 63))) fun y8 =>
    zb (zT (ibOr IntKind.u8 128 (zbh IntKind.u8 (wu8 (zbi IntKind.i32 x 6)) 63))) fun y9 =>
    zb (zT (ibOr IntKind.u8 128 (zbh IntKind.u8 (wu8 x) 63))) fun y10 =>
    need (zw 0 4 1) <|
    some [y7, y8, y9, y10]
   else
    need (zw 0 3 1) <|
    some [(239 : UInt8), (191 : UInt8), (189 : UInt8)]
theorem zbn (n : Nat) (x : Int) : Le (qi n x) (Zh x) := by
 unfold qi Zh
 exact (.bif (.bind .rfl fun _ => (.bind .rfl fun _ => (.need .rfl))) (.join (.bif .rfl .rfl) fun _ => (.bif (.bind .rfl fun _ => (.bind .rfl fun _ => (.bind .rfl fun _ => (.need .rfl)))) (.bif (.bind .rfl fun _ => (.bind .rfl fun _ => (.bind .rfl fun _ => (.bind .rfl fun _ => (.need .rfl))))) (.need .rfl)))))
def Qg (n : Nat) (x : Int) : Option (List UInt8) :=
 bif decide (wu32 x ≤ 127) then
  zb (zT (wu8 x)) fun y1 =>
  need (zw 0 1 1) <|
  some [y1]
 else
  zb (qi n x) fun y2 =>
  some y2
theorem zbb (n : Nat) (x : Int) : Le (Qg n x) (qb x) := by
 unfold Qg qb
 exact (.bif (.bind .rfl fun _ => (.need .rfl)) (.bind (zbn n _) fun _ => .rfl))
def Qn (n : Nat) (x : Int × Int × Int) : Option Bool :=
 some (bif decide (x.2.1 ≤ x.1) then decide (x.1 ≤ x.2.2) else false)
theorem zat (n : Nat) (x : Int × Int × Int) : Le (Qn n x) (ZR x) := by
 unfold Qn ZR
 exact .rfl
def qB (n : Nat) (x : Int) : Option Bool :=
 zb (Qn n (x, 48, 57)) fun y1 =>
 some y1
theorem Qm (n : Nat) (x : Int) : Le (qB n x) (Zy x) := by
 unfold qB Zy
 exact (.bind (zat n _) fun _ => .rfl)
def zaS (n : Nat) (x : Int) : Option Int :=
 zb (qB n x) fun y1 =>
 bif y1 then
  some (w64 (x - 48))
 else
  zb (zx (x != (-1)) (Qn n (ibOr IntKind.i64 x 32, 97, 102)) (default : Bool)) fun y2 =>
  bif bif bif bif x != (-1) then y2 else false then decide (x > 64) else false then decide (x < 128) else false then
   some (w64 (w64 (ibOr IntKind.i64 x 32 - 97) + 10))
  else
   some (-1)
theorem zb2 (n : Nat) (x : Int) : Le (zaS n x) (zaD x) := by
 unfold zaS zaD
 exact (.bind (Qm n _) fun _ => (.bif .rfl (.bind (.cond (zat n _)) fun _ => (.bif .rfl .rfl))))
def qD (n : Nat) (x : za) : Option (za × List UInt8) :=
 zb (zh n (0, (⟨x.s, w64 (x.at_ + 1)⟩ : za))) fun y1 =>
 bif y1 == (-1) then
  zb (Qg n 65533) fun y2 =>
  some ((⟨x.s, w64 (x.at_ + 1)⟩ : za), y2)
 else
  zb (zaS n y1) fun y3 =>
  bif decide (y3 < 0) then
   zb (zT (wu8 y1)) fun y4 =>
   need (zw 0 1 1) <|
   some ((⟨x.s, w64 (w64 (x.at_ + 1) + 1)⟩ : za), [y4])
  else
   za0 n (fun (s5 : (Int × Int) × za) =>
     bif decide (s5.1.2 < 6) then
      zb (zh n (0, s5.2)) fun y6 =>
      zb (zaS n y6) fun y7 =>
      bif decide (y7 < 0) then
       some (LO.out (s5.1.1, s5.2))
      else
       some (LO.again ((ibOr IntKind.i64 (zpz IntKind.i64 s5.1.1 4) y7, w64 (s5.1.2 + 1)), (⟨s5.2.s, w64 (s5.2.at_ + 1)⟩ : za)))
     else
      some (LO.out (s5.1.1, s5.2)) : (Int × Int) × za → Option (LO ((Int × Int) × za) (Int × za) _)) ((0, 0), (⟨x.s, w64 (x.at_ + 1)⟩ : za)) fun o8 =>
   zH (X := Int × za) (
     zb (zh n (0, o8.2)) fun y9 =>
     zb (Qf n y9) fun y10 =>
     bif y10 then
      some (LX.out (o8.1, (⟨o8.2.s, w64 (o8.2.at_ + 1)⟩ : za)))
     else
      some (LX.out (o8.1, o8.2))) fun j11 =>
   zH (X := Int) (
     bif j11.1 == 0 then
      some (LX.out 65533)
     else
      some (LX.out j11.1)) fun j12 =>
   zb (Qg n (w32 j12)) fun y13 =>
   some (j11.2, y13)
theorem zbO (n : Nat) (x : za) : Le (qD n x) (Zz x) := by
 unfold qD Zz
 exact (.bind (zg n _) fun _ => (.bif (.bind (zbb n _) fun _ => .rfl) (.bind (zb2 n _) fun _ => (.bif (.bind .rfl fun _ => (.need .rfl)) (.loop (fun _ => (.bif (.bind (zg n _) fun _ => (.bind (zb2 n _) fun _ => (.bif .rfl .rfl))) .rfl)) fun _ => (.join (.bind (zg n _) fun _ => (.bind (QY n _) fun _ => (.bif .rfl .rfl))) fun _ => (.join (.bif .rfl .rfl) fun _ => (.bind (zbb n _) fun _ => .rfl))))))))
def qj (n : Nat) (x : Int × List UInt8) : Option (List UInt8) :=
 bif decide (wu32 x.1 ≤ 2047) then
  zb (zT (ibOr IntKind.u8 192 (wu8 (zbi IntKind.i32 x.1 6)))) fun y1 =>
  zb (zT (ibOr IntKind.u8 128 (zbh IntKind.u8 (wu8 x.1) 63))) fun y2 =>
  need (zw x.2.length 2 1) <|
  some (x.2 ++ [y1, y2])
 else
  zH (X := Bool × List UInt8) (
    bif decide (wu32 x.1 < 55296) then
     some (LX.out (decide (wu32 x.1 < 55296), x.2))
    else
     some (LX.out (bif decide (57343 < wu32 x.1) then decide (wu32 x.1 ≤ 65535) else false, x.2))) fun j3 =>
  bif j3.1 then
   zb (zT (ibOr IntKind.u8 224 (wu8 (zbi IntKind.i32 x.1 12)))) fun y4 =>
   zb (zT (ibOr IntKind.u8 128 (zbh IntKind.u8 (wu8 (zbi IntKind.i32 x.1 6)) 63))) fun y5 =>
   zb (zT (ibOr IntKind.u8 128 (zbh IntKind.u8 (wu8 x.1) 63))) fun y6 =>
   need (zw j3.2.length 3 1) <|
   some (j3.2 ++ [y4, y5, y6])
  else
   bif bif decide (wu32 x.1 > 65535) then decide (wu32 x.1 ≤ 1114111) else false then
    zb (zT (ibOr IntKind.u8 240 (wu8 (zbi IntKind.i32 x.1 18)))) fun y7 =>
    zb (zT (ibOr IntKind.u8 128 (zbh IntKind.u8 (wu8 (zbi IntKind.i32 x.1 12)) 63))) fun y8 =>
    zb (zT (ibOr IntKind.u8 128 (zbh IntKind.u8 (wu8 (zbi IntKind.i32 x.1 6)) 63))) fun y9 =>
    zb (zT (ibOr IntKind.u8 128 (zbh IntKind.u8 (wu8 x.1) 63))) fun y10 =>
    need (zw j3.2.length 4 1) <|
    some (j3.2 ++ [y7, y8, y9, y10])
   else
    need (zw j3.2.length 3 1) <|
    some (j3.2 ++ [(239 : UInt8), (191 : UInt8), (189 : UInt8)])
theorem zbo (n : Nat) (x : Int × List UInt8) : Le (qj n x) (Zi x) := by
 unfold qj Zi
 exact (.bif (.bind .rfl fun _ => (.bind .rfl fun _ => (.need .rfl))) (.join (.bif .rfl .rfl) fun _ => (.bif (.bind .rfl fun _ => (.bind .rfl fun _ => (.bind .rfl fun _ => (.need .rfl)))) (.bif (.bind .rfl fun _ => (.bind .rfl fun _ => (.bind .rfl fun _ => (.bind .rfl fun _ => (.need .rfl))))) (.need .rfl)))))
def Qh (n : Nat) (x : Int × List UInt8) : Option (List UInt8) :=
 bif decide (wu32 x.1 ≤ 127) then
  zb (zT (wu8 x.1)) fun y1 =>
  need (zw x.2.length 1 1) <|
  some (x.2 ++ [y1])
 else
  zb (qj n (x.1, x.2)) fun y2 =>
  some y2
theorem zbc (n : Nat) (x : Int × List UInt8) : Le (Qh n x) (qc x) := by
 unfold Qh qc
 exact (.bif (.bind .rfl fun _ => (.need .rfl)) (.bind (zbo n _) fun _ => .rfl))
def Zg (n : Nat) (x : za × List UInt8) : Option (za × List UInt8) :=
 zb (zh n (0, (⟨x.1.s, w64 (x.1.at_ + 1)⟩ : za))) fun y1 =>
 bif y1 == (-1) then
  zb (Qh n (65533, x.2)) fun y2 =>
  some ((⟨x.1.s, w64 (x.1.at_ + 1)⟩ : za), y2)
 else
  zb (zaS n y1) fun y3 =>
  bif decide (y3 < 0) then
   zb (zT (wu8 y1)) fun y4 =>
   need (zw x.2.length 1 1) <|
   some ((⟨x.1.s, w64 (w64 (x.1.at_ + 1) + 1)⟩ : za), x.2 ++ [y4])
  else
   za0 n (fun (s5 : (Int × Int) × za) =>
     bif decide (s5.1.2 < 6) then
      zb (zh n (0, s5.2)) fun y6 =>
      zb (zaS n y6) fun y7 =>
      bif decide (y7 < 0) then
       some (LO.out (s5.1.1, s5.2))
      else
       some (LO.again ((ibOr IntKind.i64 (zpz IntKind.i64 s5.1.1 4) y7, w64 (s5.1.2 + 1)), (⟨s5.2.s, w64 (s5.2.at_ + 1)⟩ : za)))
     else
      some (LO.out (s5.1.1, s5.2)) : (Int × Int) × za → Option (LO ((Int × Int) × za) (Int × za) _)) ((0, 0), (⟨x.1.s, w64 (x.1.at_ + 1)⟩ : za)) fun o8 =>
   zH (X := Int × za × List UInt8) (
     zb (zh n (0, o8.2)) fun y9 =>
     zb (Qf n y9) fun y10 =>
     bif y10 then
      some (LX.out (o8.1, (⟨o8.2.s, w64 (o8.2.at_ + 1)⟩ : za), x.2))
     else
      some (LX.out (o8.1, o8.2, x.2))) fun j11 =>
   zH (X := Int × List UInt8) (
     bif j11.1 == 0 then
      some (LX.out (65533, j11.2.2))
     else
      some (LX.out (j11.1, j11.2.2))) fun j12 =>
   zb (Qh n (w32 j12.1, j12.2)) fun y13 =>
   some (j11.2.1, y13)
theorem qo (n : Nat) (x : za × List UInt8) : Le (Zg n x) (zB x) := by
 unfold Zg zB
 exact (.bind (zg n _) fun _ => (.bif (.bind (zbc n _) fun _ => .rfl) (.bind (zb2 n _) fun _ => (.bif (.bind .rfl fun _ => (.need .rfl)) (.loop (fun _ => (.bif (.bind (zg n _) fun _ => (.bind (zb2 n _) fun _ => (.bif .rfl .rfl))) .rfl)) fun _ => (.join (.bind (zg n _) fun _ => (.bind (QY n _) fun _ => (.bif .rfl .rfl))) fun _ => (.join (.bif .rfl .rfl) fun _ => (.bind (zbc n _) fun _ => .rfl))))))))
def Qq (n : Nat) (x : za) : Option (ze × za) :=
 zb (zh n (0, x)) fun y1 =>
 za0 n (fun (s2 : za × ze × List UInt8) =>
   zb (zh n (0, s2.1)) fun y3 =>
   bif y3 == (-1) then
    some (LO.out (s2.1, s2.2.1, s2.2.2))
   else
    bif y3 == y1 then
     some (LO.out ((⟨s2.1.s, w64 (s2.1.at_ + 1)⟩ : za), s2.2.1, s2.2.2))
    else
     bif y3 == 10 then
      some (LO.ret ((⟨6, [], 0, [], false⟩ : ze), s2.1))
     else
      zb (zx (y3 == 92) (zh n (1, s2.1)) (default : Int)) fun y4 =>
      zb (zx (!(y4 == (-1)) && y3 == 92) (zh n (1, s2.1)) (default : Int)) fun y5 =>
      bif bif y3 == 92 then bif y4 == (-1) then true else y5 == 10 else false then
       some (LO.again ((⟨s2.1.s, if (s2.1.s.length : Int) < w64 (s2.1.at_ + 2) then (s2.1.s.length : Int) else w64 (s2.1.at_ + 2)⟩ : za), s2.2.1, s2.2.2))
      else
       bif y3 == 92 then
        zb (Zg n (s2.1, s2.2.2)) fun y6 =>
        some (LO.again (y6.1, s2.2.1, y6.2))
       else
        zb (zT (wu8 y3)) fun y7 =>
        need (zw s2.2.2.length 1 1) <|
        some (LO.again ((⟨s2.1.s, w64 (s2.1.at_ + 1)⟩ : za), s2.2.1, s2.2.2 ++ [y7])) : za × ze × List UInt8 → Option (LO (za × ze × List UInt8) (za × ze × List UInt8) _)) ((⟨x.s, w64 (x.at_ + 1)⟩ : za), (⟨0, [], 0, [], false⟩ : ze), []) fun o8 =>
 some ((⟨5, o8.2.2, 0, [], false⟩ : ze), o8.1)
theorem zcO (n : Nat) (x : za) : Le (Qq n x) (Z5 x) := by
 unfold Qq Z5
 exact (.bind (zg n _) fun _ => (.loop (fun _ => (.bind (zg n _) fun _ => (.bif .rfl (.bif .rfl (.bif .rfl (.bind (.cond (zg n _)) fun _ => (.bind (.cond (zg n _)) fun _ => (.bif .rfl (.bif (.bind (qo n _) fun _ => .rfl) (.bind .rfl fun _ => (.need .rfl))))))))))) fun _ => .rfl))
def zaC (n : Nat) (x : Int) : Option Bool :=
 zb (Qn n (ibOr IntKind.i64 x 32, 97, 122)) fun y1 =>
 some (bif bif bif bif y1 then decide (x < 128) else false then decide (x > 64) else false then true else x == 95 then true else decide (x ≥ 128))
theorem zcc (n : Nat) (x : Int) : Le (zaC n x) (QC x) := by
 unfold zaC QC
 exact (.bind (zat n _) fun _ => .rfl)
def zaW (n : Nat) (x : Int) : Option Bool :=
 zb (zaC n x) fun y1 =>
 zb (zx (!y1) (qB n x) (default : Bool)) fun y2 =>
 some (bif bif y1 then true else y2 then true else x == 45)
theorem zdk (n : Nat) (x : Int) : Le (zaW n x) (QD x) := by
 unfold zaW QD
 exact (.bind (zcc n _) fun _ => (.bind (.cond (Qm n _)) fun _ => .rfl))
def zI (n : Nat) (x : Int × za) : Option Bool :=
 zb (zh n (x.1, x.2)) fun y1 =>
 zb (zx (y1 == 92) (zh n (w64 (x.1 + 1), x.2)) (default : Int)) fun y2 =>
 some (bif y1 == 92 then y2 != 10 else false)
theorem zY (n : Nat) (x : Int × za) : Le (zI n x) (zu x) := by
 unfold zI zu
 exact (.bind (zg n _) fun _ => (.bind (.cond (zg n _)) fun _ => .rfl))
def ZC (n : Nat) (x : Int × za) : Option Bool :=
 zb (zh n (x.1, x.2)) fun y1 =>
 bif y1 != 45 then
  zb (zh n (x.1, x.2)) fun y2 =>
  zb (zaC n y2) fun y3 =>
  zb (zx (!y3) (zI n (x.1, x.2)) (default : Bool)) fun y4 =>
  some (bif y3 then true else y4)
 else
  zb (zh n (w64 (x.1 + 1), x.2)) fun y5 =>
  zb (zaC n y5) fun y6 =>
  zb (zx (!y6) (zh n (w64 (x.1 + 1), x.2)) (default : Int)) fun y7 =>
  zb (zx (!(bif y6 then true else y7 == 45)) (zI n (w64 (x.1 + 1), x.2)) (default : Bool)) fun y8 =>
  some (bif bif y6 then true else y7 == 45 then true else y8)
theorem qy (n : Nat) (x : Int × za) : Le (ZC n x) (zS x) := by
 unfold ZC zS
 exact (.bind (zg n _) fun _ => (.bif (.bind (zg n _) fun _ => (.bind (zcc n _) fun _ => (.bind (.cond (zY n _)) fun _ => .rfl))) (.bind (zg n _) fun _ => (.bind (zcc n _) fun _ => (.bind (.cond (zg n _)) fun _ => (.bind (.cond (zY n _)) fun _ => .rfl))))))
def ZE (n : Nat) (x : za) : Option (Str × za) :=
 za0 n (fun (s1 : za × List UInt8) =>
   zb (zh n (0, s1.1)) fun y2 =>
   zb (zaW n y2) fun y3 =>
   bif y3 then
    zb (zT (wu8 y2)) fun y4 =>
    need (zw s1.2.length 1 1) <|
    some (LO.again ((⟨s1.1.s, w64 (s1.1.at_ + 1)⟩ : za), s1.2 ++ [y4]))
   else
    zb (zx (y2 != (-1)) (zI n (0, s1.1)) (default : Bool)) fun y5 =>
    bif bif y2 != (-1) then y5 else false then
     zb (Zg n (s1.1, s1.2)) fun y6 =>
     some (LO.again (y6.1, y6.2))
    else
     some (LO.ret (s1.2, s1.1)) : za × List UInt8 → Option (LO (za × List UInt8) (Unit) _)) (x, []) fun o7 =>
 none
theorem qz (n : Nat) (x : za) : Le (ZE n x) (zK x) := by
 unfold ZE zK
 exact (.loop (fun _ => (.bind (zg n _) fun _ => (.bind (zdk n _) fun _ => (.bif (.bind .rfl fun _ => (.need .rfl)) (.bind (.cond (zY n _)) fun _ => (.bif (.bind (qo n _) fun _ => .rfl) .rfl)))))) fun _ => .none)
def Qp (n : Nat) (x : za) : Option Bool :=
 zH (X := Int) (
   zb (zh n (0, x)) fun y1 =>
   bif bif y1 == 43 then true else y1 == 45 then
    some (LX.out 1)
   else
    some (LX.out 0)) fun j2 =>
 zH (X := Int) (
   zb (zh n (j2, x)) fun y3 =>
   bif y3 == 46 then
    some (LX.out (w64 (j2 + 1)))
   else
    some (LX.out j2)) fun j4 =>
 zb (zh n (j4, x)) fun y5 =>
 zb (qB n y5) fun y6 =>
 some y6
theorem zcN (n : Nat) (x : za) : Le (Qp n x) (Z4 x) := by
 unfold Qp Z4
 exact (.join (.bind (zg n _) fun _ => (.bif .rfl .rfl)) fun _ => (.join (.bind (zg n _) fun _ => (.bif .rfl .rfl)) fun _ => (.bind (zg n _) fun _ => (.bind (Qm n _) fun _ => .rfl))))
def ZA (n : Nat) (x : za) : Option za :=
 za0 n (fun (s1 : za) =>
   zb (zh n (0, s1)) fun y2 =>
   zb (qB n y2) fun y3 =>
   bif y3 then
    some (LO.again (⟨s1.s, w64 (s1.at_ + 1)⟩ : za))
   else
    some (LO.out s1) : za → Option (LO (za) (za) _)) x fun o4 =>
 some o4
theorem qK (n : Nat) (x : za) : Le (ZA n x) (zW x) := by
 unfold ZA zW
 exact (.loop (fun _ => (.bind (zg n _) fun _ => (.bind (Qm n _) fun _ => (.bif .rfl .rfl)))) fun _ => .rfl)
def Qd (n : Nat) (x : za) : Option (Bool × za) :=
 zH (X := za) (
   zb (zh n (0, x)) fun y1 =>
   bif bif y1 == 43 then true else y1 == 45 then
    some (LX.out (⟨x.s, w64 (x.at_ + 1)⟩ : za))
   else
    some (LX.out x)) fun j2 =>
 zb (ZA n j2) fun y3 =>
 zH (X := Bool × za) (
   zb (zh n (0, y3)) fun y4 =>
   zb (zx (y4 == 46) (zh n (1, y3)) (default : Int)) fun y5 =>
   zb (zx (y4 == 46) (qB n y5) (default : Bool)) fun y6 =>
   bif bif y4 == 46 then y6 else false then
    zb (ZA n (⟨y3.s, w64 (y3.at_ + 1)⟩ : za)) fun y7 =>
    some (LX.out (false, y7))
   else
    some (LX.out (true, y3))) fun j8 =>
 zH (X := Bool × za) (
   zb (zh n (0, j8.2)) fun y9 =>
   zb (zx (!(y9 == 101)) (zh n (0, j8.2)) (default : Int)) fun y10 =>
   bif bif y9 == 101 then true else y10 == 69 then
    zH (X := (Bool × Int) × za) (
      zb (zh n (1, j8.2)) fun y11 =>
      bif bif y11 == 43 then true else y11 == 45 then
       some (LX.out ((j8.1, 2), j8.2))
      else
       some (LX.out ((j8.1, 1), j8.2))) fun j12 =>
    zb (zh n (j12.1.2, j12.2)) fun y13 =>
    zb (qB n y13) fun y14 =>
    bif y14 then
     zb (ZA n (⟨j12.2.s, w64 (j12.2.at_ + j12.1.2)⟩ : za)) fun y15 =>
     some (LX.out (false, y15))
    else
     some (LX.out (j12.1.1, j12.2))
   else
    some (LX.out (j8.1, j8.2))) fun j16 =>
 some (j16.1, j16.2)
theorem zco (n : Nat) (x : za) : Le (Qd n x) (ZP x) := by
 unfold Qd ZP
 exact (.join (.bind (zg n _) fun _ => (.bif .rfl .rfl)) fun _ => (.bind (qK n _) fun _ => (.join (.bind (zg n _) fun _ => (.bind (.cond (zg n _)) fun _ => (.bind (.cond (Qm n _)) fun _ => (.bif (.bind (qK n _) fun _ => .rfl) .rfl)))) fun _ => (.join (.bind (zg n _) fun _ => (.bind (.cond (zg n _)) fun _ => (.bif (.join (.bind (zg n _) fun _ => (.bif .rfl .rfl)) fun _ => (.bind (zg n _) fun _ => (.bind (Qm n _) fun _ => (.bif (.bind (qK n _) fun _ => .rfl) .rfl)))) .rfl))) fun _ => .rfl))))
def zac (n : Nat) (x : Str) : Option Int :=
 zb (geti x 0) fun y1 =>
 zb (zjB n (x, [43, 45])) fun y2 =>
 zH (X := Str × Int) (
   zb (zgU n (y2, [101, 69])) fun y3 =>
   bif decide (y3 ≥ 0) then
    need (decide (0 ≤ w64 (y3 + 1)) && decide (w64 (y3 + 1) ≤ (y2.length : Int))) <|
    zb (zjB n (List.drop (w64 (y3 + 1)).toNat y2, [43, 45])) fun y4 =>
    need (decide (y4.length ≤ maxLen)) <|
    za0 n (fun (s5 : Int × Int) =>
      bif decide (s5.2 < (y4.length : Int)) then
       need (decide (0 ≤ s5.2) && decide (s5.2 < (y4.length : Int))) <|
       zb y4[s5.2.toNat]? fun y6 =>
       some (LO.again (if 1048576 < w64 (w64 (10 * s5.1) + w64 (wu8 ((y6.toNat : Int) - 48))) then 1048576 else w64 (w64 (10 * s5.1) + w64 (wu8 ((y6.toNat : Int) - 48))), w64 (s5.2 + 1)))
      else
       some (LO.out s5.1) : Int × Int → Option (LO (Int × Int) (Int) _)) (0, 0) fun o7 =>
    zH (X := Str × Int × Int) (
      zb (geti y2 (w64 (y3 + 1))) fun y8 =>
      bif (y8.toNat : Int) == 45 then
       some (LX.out (y2, 3, w64 (0 - o7)))
      else
       some (LX.out (y2, 3, o7))) fun j9 =>
    need (decide (0 ≤ y3) && decide (y3 ≤ (j9.1.length : Int))) <|
    some (LX.out (List.take y3.toNat j9.1, w64 (j9.2.1 + j9.2.2)))
   else
    some (LX.out (y2, 3))) fun j10 =>
 zb (zqe n (j10.1, [46])) fun y11 =>
 need (zhW y11.1.length y11.2.1.length) <|
 zH (X := Str × Int) (
   bif decide (w64 (j10.2 - (y11.2.1.length : Int)) < 0) then
    need (decide (0 ≤ (if w64 (((y11.1 ++ y11.2.1).length : Int) + w64 (j10.2 - (y11.2.1.length : Int))) > 0 then w64 (((y11.1 ++ y11.2.1).length : Int) + w64 (j10.2 - (y11.2.1.length : Int))) else 0)) && decide ((if w64 (((y11.1 ++ y11.2.1).length : Int) + w64 (j10.2 - (y11.2.1.length : Int))) > 0 then w64 (((y11.1 ++ y11.2.1).length : Int) + w64 (j10.2 - (y11.2.1.length : Int))) else 0) ≤ ((y11.1 ++ y11.2.1).length : Int))) <|
    some (LX.out (List.take (if w64 (((y11.1 ++ y11.2.1).length : Int) + w64 (j10.2 - (y11.2.1.length : Int))) > 0 then w64 (((y11.1 ++ y11.2.1).length : Int) + w64 (j10.2 - (y11.2.1.length : Int))) else 0).toNat (y11.1 ++ y11.2.1), w64 (j10.2 - (y11.2.1.length : Int))))
   else
    some (LX.out (y11.1 ++ y11.2.1, w64 (j10.2 - (y11.2.1.length : Int))))) fun j12 =>
 need (decide (j12.1.length ≤ maxLen)) <|
 za0 n (fun (s13 : Int × Int) =>
   bif decide (s13.2 < (j12.1.length : Int)) then
    need (decide (0 ≤ s13.2) && decide (s13.2 < (j12.1.length : Int))) <|
    zb j12.1[s13.2.toNat]? fun y14 =>
    some (LO.again (if 1000000000000 < w64 (w64 (10 * s13.1) + w64 (wu8 ((y14.toNat : Int) - 48))) then 1000000000000 else w64 (w64 (10 * s13.1) + w64 (wu8 ((y14.toNat : Int) - 48))), w64 (s13.2 + 1)))
   else
    some (LO.out s13.1) : Int × Int → Option (LO (Int × Int) (Int) _)) (0, 0) fun o15 =>
 za0 n (fun (s16 : Int × Int) =>
   bif bif bif decide (s16.1 > 0) then decide (s16.2 > 0) else false then decide (s16.2 < 1000000000000) else false then
    some (LO.again (w64 (s16.1 - 1), if 1000000000000 < w64 (10 * s16.2) then 1000000000000 else w64 (10 * s16.2)))
   else
    some (LO.out s16.2) : Int × Int → Option (LO (Int × Int) (Int) _)) (j12.2, o15) fun o17 =>
 zH (X := Int) (
   bif (y1.toNat : Int) == 45 then
    some (LX.out (w64 (0 - o17)))
   else
    some (LX.out o17)) fun j18 =>
 some j18
theorem zdT (n : Nat) (x : Str) : Le (zac n x) (qQ x) := by
 unfold zac qQ
 exact (.bind .rfl fun _ => (.bind (zkz n _) fun _ => (.join (.bind (zkw n _) fun _ => (.bif (.need (.bind (zkz n _) fun _ => (.need (.loop (fun _ => (.bif (.need (.bind .rfl fun _ => .rfl)) .rfl)) fun _ => (.join (.bind .rfl fun _ => (.bif .rfl .rfl)) fun _ => (.need .rfl)))))) .rfl)) fun _ => (.bind (zqI n _) fun _ => (.need (.join (.bif (.need .rfl) .rfl) fun _ => (.need (.loop (fun _ => (.bif (.need (.bind .rfl fun _ => .rfl)) .rfl)) fun _ => (.loop (fun _ => (.bif .rfl .rfl)) fun _ => (.join (.bif .rfl .rfl) fun _ => .rfl))))))))))
def Qe (n : Nat) (x : za) : Option (ze × za) :=
 zb (Qd n x) fun y1 =>
 need (decide (0 ≤ x.at_) && (decide (x.at_ ≤ y1.2.at_) && decide (y1.2.at_ ≤ (y1.2.s.length : Int)))) <|
 zb (zac n (List.drop x.at_.toNat (List.take y1.2.at_.toNat y1.2.s))) fun y2 =>
 zH (X := za × ze × ze) (
   zb (ZC n (0, y1.2)) fun y3 =>
   bif y3 then
    zb (ZE n y1.2) fun y4 =>
    some (LX.out (y4.2, (⟨0, [], 0, [], false⟩ : ze), (⟨12, [], y2, y4.1, y1.1⟩ : ze)))
   else
    zb (zh n (0, y1.2)) fun y5 =>
    bif y5 == 37 then
     some (LX.out ((⟨y1.2.s, w64 (y1.2.at_ + 1)⟩ : za), (⟨0, [], 0, [], false⟩ : ze), (⟨11, [], y2, [], false⟩ : ze)))
    else
     some (LX.out (y1.2, (⟨0, [], 0, [], false⟩ : ze), (⟨10, [], y2, [], y1.1⟩ : ze)))) fun j6 =>
 some (j6.2.2, j6.1)
theorem zcp (n : Nat) (x : za) : Le (Qe n x) (ZQ x) := by
 unfold Qe ZQ
 exact (.bind (zco n _) fun _ => (.need (.bind (zdT n _) fun _ => (.join (.bind (qy n _) fun _ => (.bif (.bind (qz n _) fun _ => .rfl) (.bind (zg n _) fun _ => (.bif .rfl .rfl)))) fun _ => .rfl))))
def qg (n : Nat) (x : za) : Option (ze × za) :=
 za0 n (fun (s1 : za × ze) =>
   zb (zh n (0, s1.1)) fun y2 =>
   bif y2 == (-1) then
    some (LO.ret ((⟨8, [], 0, [], false⟩ : ze), s1.1))
   else
    zb (zI n (0, s1.1)) fun y3 =>
    bif y3 then
     zb (qD n s1.1) fun y4 =>
     some (LO.again (y4.1, s1.2))
    else
     zb (geti s1.1.s (w64 (w64 (s1.1.at_ + 1) - 1))) fun y5 =>
     bif (y5.toNat : Int) == 41 then
      some (LO.ret ((⟨8, [], 0, [], false⟩ : ze), (⟨s1.1.s, w64 (s1.1.at_ + 1)⟩ : za)))
     else
      some (LO.again ((⟨s1.1.s, w64 (s1.1.at_ + 1)⟩ : za), s1.2)) : za × ze → Option (LO (za × ze) (Unit) _)) (x, (⟨0, [], 0, [], false⟩ : ze)) fun o6 =>
 none
theorem QP (n : Nat) (x : za) : Le (qg n x) (ZI x) := by
 unfold qg ZI
 exact (.loop (fun _ => (.bind (zg n _) fun _ => (.bif .rfl (.bind (zY n _) fun _ => (.bif (.bind (zbO n _) fun _ => .rfl) (.bind .rfl fun _ => (.bif .rfl .rfl))))))) fun _ => .none)
def zab (n : Nat) (x : za) : Option (ze × za) :=
 zb (Zt n x) fun y1 =>
 za0 n (fun (s2 : za × ze × List UInt8) =>
   zb (zh n (0, s2.1)) fun y3 =>
   zH (X := Int × za × ze × List UInt8) (
     zb (Qf n y3) fun y4 =>
     bif y4 then
      zb (Zt n s2.1) fun y5 =>
      zb (zh n (0, y5)) fun y6 =>
      bif bif y6 != 41 then y6 != (-1) else false then
       zb (qg n y5) fun y7 =>
       some (LX.ret (LO.ret (y7.1, y7.2)))
      else
       some (LX.out (y6, y5, s2.2.1, s2.2.2))
     else
      some (LX.out (y3, s2.1, s2.2.1, s2.2.2))) fun j8 =>
   bif j8.1 == (-1) then
    some (LO.ret ((⟨7, j8.2.2.2, 0, [], false⟩ : ze), j8.2.1))
   else
    bif j8.1 == 41 then
     some (LO.ret ((⟨7, j8.2.2.2, 0, [], false⟩ : ze), (⟨j8.2.1.s, w64 (j8.2.1.at_ + 1)⟩ : za)))
    else
     zb (zx (!(bif bif bif bif j8.1 == 34 then true else j8.1 == 39 then true else j8.1 == 40 then true else decide (j8.1 ≤ 8) then true else j8.1 == 11)) (Qn n (j8.1, 14, 31)) (default : Bool)) fun y9 =>
     bif bif bif bif bif bif bif j8.1 == 34 then true else j8.1 == 39 then true else j8.1 == 40 then true else decide (j8.1 ≤ 8) then true else j8.1 == 11 then true else y9 then true else j8.1 == 127 then
      zb (qg n j8.2.1) fun y10 =>
      some (LO.ret (y10.1, y10.2))
     else
      bif j8.1 != 92 then
       zb (zT (wu8 j8.1)) fun y11 =>
       need (zw j8.2.2.2.length 1 1) <|
       some (LO.again ((⟨j8.2.1.s, w64 (j8.2.1.at_ + 1)⟩ : za), j8.2.2.1, j8.2.2.2 ++ [y11]))
      else
       zb (zI n (0, j8.2.1)) fun y12 =>
       bif y12 then
        zb (Zg n (j8.2.1, j8.2.2.2)) fun y13 =>
        some (LO.again (y13.1, j8.2.2.1, y13.2))
       else
        zb (qg n j8.2.1) fun y14 =>
        some (LO.ret (y14.1, y14.2)) : za × ze × List UInt8 → Option (LO (za × ze × List UInt8) (Unit) _)) (y1, (⟨0, [], 0, [], false⟩ : ze), []) fun o15 =>
 none
theorem zdS (n : Nat) (x : za) : Le (zab n x) (qP x) := by
 unfold zab qP
 exact (.bind (qm n _) fun _ => (.loop (fun _ => (.bind (zg n _) fun _ => (.join (.bind (QY n _) fun _ => (.bif (.bind (qm n _) fun _ => (.bind (zg n _) fun _ => (.bif (.bind (QP n _) fun _ => .rfl) .rfl))) .rfl)) fun _ => (.bif .rfl (.bif .rfl (.bind (.cond (zat n _)) fun _ => (.bif (.bind (QP n _) fun _ => .rfl) (.bif (.bind .rfl fun _ => (.need .rfl)) (.bind (zY n _) fun _ => (.bif (.bind (qo n _) fun _ => .rfl) (.bind (QP n _) fun _ => .rfl))))))))))) fun _ => .none))
def QE (n : Nat) (x : za) : Option (ze × za) :=
 zb (ZE n x) fun y1 =>
 zb (zh n (0, y1.2)) fun y2 =>
 bif y2 != 40 then
  some ((⟨1, y1.1, 0, [], false⟩ : ze), y1.2)
 else
  zH (X := za × ze) (
    zb (zbj n (y1.1, [117, 114, 108])) fun y3 =>
    bif y3 then
     zb (Zt n (⟨y1.2.s, w64 (y1.2.at_ + 1)⟩ : za)) fun y4 =>
     zb (zh n (0, y4)) fun y5 =>
     bif bif y5 != 34 then y5 != 39 else false then
      zb (zab n (⟨y1.2.s, w64 (y1.2.at_ + 1)⟩ : za)) fun y6 =>
      some (LX.ret (y6.1, y6.2))
     else
      some (LX.out ((⟨y1.2.s, w64 (y1.2.at_ + 1)⟩ : za), (⟨0, [], 0, [], false⟩ : ze)))
    else
     some (LX.out ((⟨y1.2.s, w64 (y1.2.at_ + 1)⟩ : za), (⟨0, [], 0, [], false⟩ : ze)))) fun j7 =>
  some ((⟨2, y1.1, 0, [], false⟩ : ze), j7.1)
theorem zc1 (n : Nat) (x : za) : Le (QE n x) (qh x) := by
 unfold QE qh
 exact (.bind (qz n _) fun _ => (.bind (zg n _) fun _ => (.bif .rfl (.join (.bind (zd8 n _) fun _ => (.bif (.bind (qm n _) fun _ => (.bind (zg n _) fun _ => (.bif (.bind (zdS n _) fun _ => .rfl) .rfl))) .rfl)) fun _ => .rfl))))
def QS (n : Nat) (x : za) : Option (ze × za) :=
 zb (zh n (0, x)) fun y1 =>
 need (decide (0 ≤ x.at_) && decide (x.at_ ≤ (x.s.length : Int))) <|
 zb (Qf n y1) fun y2 =>
 bif y2 then
  zb (Zt n x) fun y3 =>
  some ((⟨13, [], 0, [], false⟩ : ze), y3)
 else
  bif bif y1 == 34 then true else y1 == 39 then
   zb (Qq n x) fun y4 =>
   some (y4.1, y4.2)
  else
   zb (zx (y1 == 35) (zh n (1, x)) (default : Int)) fun y5 =>
   zb (zx (y1 == 35) (zaW n y5) (default : Bool)) fun y6 =>
   zb (zx (!y6 && y1 == 35) (zI n (1, x)) (default : Bool)) fun y7 =>
   bif bif y1 == 35 then bif y6 then true else y7 else false then
    zb (ZC n (1, x)) fun y8 =>
    zb (ZE n (⟨x.s, w64 (x.at_ + 1)⟩ : za)) fun y9 =>
    some ((⟨4, y9.1, 0, [], y8⟩ : ze), y9.2)
   else
    zb (Qp n x) fun y10 =>
    bif y10 then
     zb (Qe n x) fun y11 =>
     some (y11.1, y11.2)
    else
     zb (zM n (List.drop x.at_.toNat x.s, [45, 45, 62])) fun y12 =>
     bif y12 then
      some ((⟨15, [], 0, [], false⟩ : ze), (⟨x.s, w64 (x.at_ + 3)⟩ : za))
     else
      zb (zM n (List.drop x.at_.toNat x.s, [60, 33, 45, 45])) fun y13 =>
      bif y13 then
       some ((⟨14, [], 0, [], false⟩ : ze), (⟨x.s, w64 (x.at_ + 4)⟩ : za))
      else
       zb (zx (y1 == 64) (ZC n (1, x)) (default : Bool)) fun y14 =>
       bif bif y1 == 64 then y14 else false then
        zb (ZE n (⟨x.s, w64 (x.at_ + 1)⟩ : za)) fun y15 =>
        some ((⟨3, y15.1, 0, [], false⟩ : ze), y15.2)
       else
        zb (ZC n (0, x)) fun y16 =>
        bif y16 then
         zb (QE n x) fun y17 =>
         some (y17.1, y17.2)
        else
         zb (zN n ([58, 59, 44, 91, 93, 40, 41, 123, 125], wu8 y1)) fun y18 =>
         bif decide (y18 ≥ 0) then
          some ((⟨wu8 (16 + wu8 y18), [], 0, [], false⟩ : ze), (⟨x.s, w64 (x.at_ + 1)⟩ : za))
         else
          need (decide (1 ≤ ((List.drop x.at_.toNat x.s).length : Int))) <|
          some ((⟨9, List.take 1 (List.drop x.at_.toNat x.s), 0, [], false⟩ : ze), (⟨x.s, w64 (x.at_ + 1)⟩ : za))
theorem zdl (n : Nat) (x : za) : Le (QS n x) (qC x) := by
 unfold QS qC
 exact (.bind (zg n _) fun _ => (.need (.bind (QY n _) fun _ => (.bif (.bind (qm n _) fun _ => .rfl) (.bif (.bind (zcO n _) fun _ => .rfl) (.bind (.cond (zg n _)) fun _ => (.bind (.cond (zdk n _)) fun _ => (.bind (.cond (zY n _)) fun _ => (.bif (.bind (qy n _) fun _ => (.bind (qz n _) fun _ => .rfl)) (.bind (zcN n _) fun _ => (.bif (.bind (zcp n _) fun _ => .rfl) (.bind (zZ n _) fun _ => (.bif .rfl (.bind (zZ n _) fun _ => (.bif .rfl (.bind (.cond (qy n _)) fun _ => (.bif (.bind (qz n _) fun _ => .rfl) (.bind (qy n _) fun _ => (.bif (.bind (zc1 n _) fun _ => .rfl) (.bind (Za n _) fun _ => (.bif .rfl (.need .rfl))))))))))))))))))))))
def zaB (n : Nat) (x : (ze × Int × Int) × List ze) : Option (List ze) :=
 need (zw x.2.length 1 56) <|
 some (x.2 ++ [x.1.1])
theorem zex (n : Nat) (x : (ze × Int × Int) × List ze) : Le (zaB n x) (Qk x) := by
 unfold zaB Qk
 exact (.need .rfl)
def zch (n : Nat) (x : Str) : Option (Int × List ze) :=
 zb (zmg n x) fun y1 =>
 bif y1.2 != 0 then
  some (y1.2, [])
 else
  zb (ZV n (⟨y1.1, 0⟩ : za)) fun y2 =>
  za0 n (fun (s3 : Int × List ze × za) =>
    bif decide (s3.2.2.at_ < (y1.1.length : Int)) then
     bif decide (w64 (s3.1 + 1) > 1500) then
      some (LO.ret (4, s3.2.1))
     else
      zb (QS n s3.2.2) fun y4 =>
      zb (zaB n ((y4.1, s3.2.2.at_, y4.2.at_), s3.2.1)) fun y5 =>
      zb (ZV n y4.2) fun y6 =>
      some (LO.again (w64 (s3.1 + 1), y5, y6))
    else
     some (LO.out (s3.2.1, s3.2.2)) : Int × List ze × za → Option (LO (Int × List ze × za) (List ze × za) _)) (0, [], y2) fun o7 =>
  some (0, o7.1)
theorem zg1 (n : Nat) (x : Str) : Le (zch n x) (za2 x) := by
 unfold zch za2
 exact (.bind (zoq n _) fun _ => (.bif .rfl (.bind (QX n _) fun _ => (.loop (fun _ => (.bif (.bif .rfl (.bind (zdl n _) fun _ => (.bind (zex n _) fun _ => (.bind (QX n _) fun _ => .rfl)))) .rfl)) fun _ => .rfl))))
def zcg (n : Nat) (x : Str) : Option (List ze × Int) :=
 zb (zch n x) fun y1 =>
 bif y1.1 != 0 then
  some ([], y1.1)
 else
  some (y1.2, 0)
theorem qJ (n : Nat) (x : Str) : Le (zcg n x) (ZO x) := by
 unfold zcg ZO
 exact (.bind (zg1 n _) fun _ => (.bif .rfl .rfl))
def QQ (n : Nat) (x : List ze × List ze) : Option Bool :=
 bif (x.1.length : Int) != (x.2.length : Int) then
  some false
 else
  za0 n (fun (s1 : Int) =>
    bif decide (s1 < (x.1.length : Int)) then
     zb (geti x.1 s1) fun y2 =>
     zb (geti x.2 s1) fun y3 =>
     bif !(y2.kind == y3.kind && (y2.text == y3.text && (y2.num == y3.num && (y2.unit == y3.unit && (y2.flag == y3.flag && true))))) then
      some (LO.ret false)
     else
      some (LO.again (w64 (s1 + 1)))
    else
     some (LO.out ()) : Int → Option (LO (Int) (Unit) _)) 0 fun o4 =>
  some true
theorem zaZ (n : Nat) (x : List ze × List ze) : Le (QQ n x) (Zb x) := by
 unfold QQ Zb
 exact (.bif .rfl (.loop (fun _ => (.bif (.bind .rfl fun _ => (.bind .rfl fun _ => (.bif .rfl .rfl))) .rfl)) fun _ => .rfl))
def zdh (n : Nat) (x : List ze) : Option (Str × Int) :=
 zb (zbY n x) fun y1 =>
 bif y1 != 0 then
  some ([], y1)
 else
  za0 n (fun (s2 : Int × List UInt8 × List zm) =>
    bif decide (s2.1 < (x.length : Int)) then
     need (decide (0 ≤ s2.1) && decide (s2.1 ≤ (x.length : Int))) <|
     zb (zb0 n (List.drop s2.1.toNat x)) fun y3 =>
     need (decide (0 ≤ s2.1) && (decide (s2.1 ≤ w64 (s2.1 + y3)) && decide (w64 (s2.1 + y3) ≤ (x.length : Int)))) <|
     za0 n (fun (s4 : Int × List UInt8) =>
       bif decide (s4.1 < ((List.drop s2.1.toNat (List.take (w64 (s2.1 + y3)).toNat x)).length : Int)) then
        zb (geti (List.drop s2.1.toNat (List.take (w64 (s2.1 + y3)).toNat x)) s4.1) fun y5 =>
        zb (zcL n (y5, s4.2)) fun y6 =>
        some (LO.again (w64 (s4.1 + 1), y6))
       else
        some (LO.out s4.2) : Int × List UInt8 → Option (LO (Int × List UInt8) (List UInt8) _)) (0, []) fun o7 =>
     zH (X := Int × List UInt8 × List zm × List UInt8) (
       zb (geti x s2.1) fun y8 =>
       bif bif y8.kind == 9 then y3 == 2 else false then
        some (LX.out (s2.1, s2.2.1, s2.2.2, [(92 : UInt8), (10 : UInt8)]))
       else
        some (LX.out (s2.1, s2.2.1, s2.2.2, o7))) fun j9 =>
     zH (X := Int × List UInt8 × List zm × zm) (
       bif decide (w64 ((j9.2.2.1.length : Int) - 4) ≥ 0) then
        need (decide (0 ≤ w64 ((j9.2.2.1.length : Int) - 4)) && decide (w64 ((j9.2.2.1.length : Int) - 4) < (j9.2.2.1.length : Int))) <|
        zb (j9.2.2.1[(w64 ((j9.2.2.1.length : Int) - 4)).toNat]?) fun y10 =>
        some (LX.out (j9.1, j9.2.1, j9.2.2.1, y10))
       else
        some (LX.out (j9.1, j9.2.1, j9.2.2.1, (⟨0, 0⟩ : zm)))) fun j11 =>
     need (decide (0 ≤ j11.2.2.2.at_) && decide (j11.2.2.2.at_ ≤ (j11.2.1.length : Int))) <|
     need (decide (j11.2.2.2.at_.toNat + (j11.2.1.length - j11.2.2.2.at_.toNat) ≤ j11.2.1.length)) <|
     need (zhW (List.take (j11.2.1.length - j11.2.2.2.at_.toNat) (List.drop j11.2.2.2.at_.toNat j11.2.1)).length j9.2.2.2.length) <|
     zb (zcg n (List.take (j11.2.1.length - j11.2.2.2.at_.toNat) (List.drop j11.2.2.2.at_.toNat j11.2.1) ++ j9.2.2.2)) fun y12 =>
     zH (X := Int × List zm × List UInt8) (
       need (decide (0 ≤ j11.2.2.2.token) && (decide (j11.2.2.2.token ≤ w64 (j11.1 + y3)) && decide (w64 (j11.1 + y3) ≤ (x.length : Int))) || !(!(y12.2 != 0))) <|
       zb (zx (!(y12.2 != 0)) (QQ n (y12.1, List.drop j11.2.2.2.token.toNat (List.take (w64 (j11.1 + y3)).toNat x))) (default : Bool)) fun y13 =>
       bif bif y12.2 != 0 then true else !y13 then
        need (zw j11.2.1.length ([47, 42, 42, 47] : Str).length 1) <|
        some (LX.out (j11.1, j11.2.2.1, j11.2.1 ++ ([47, 42, 42, 47] : Str)))
       else
        some (LX.out (j11.1, j11.2.2.1, j11.2.1))) fun j14 =>
     need (zw j14.2.1.length 1 16) <|
     need (zw j14.2.2.length j9.2.2.2.length 1) <|
     bif decide (((j14.2.2 ++ j9.2.2.2).length : Int) > 4000) then
      some (LO.ret ([], 28))
     else
      some (LO.again (w64 (j14.1 + y3), j14.2.2 ++ j9.2.2.2, j14.2.1 ++ [(⟨j14.1, (j14.2.2.length : Int)⟩ : zm)]))
    else
     some (LO.out s2.2.1) : Int × List UInt8 × List zm → Option (LO (Int × List UInt8 × List zm) (List UInt8) _)) (0, [], []) fun o15 =>
  some (o15, 0)
theorem zeW (n : Nat) (x : List ze) : Le (zdh n x) (qG x) := by
 unfold zdh qG
 exact (.bind (zbl n _) fun _ => (.bif .rfl (.loop (fun _ => (.bif (.need (.bind (zeY n _) fun _ => (.need (.loop (fun _ => (.bif (.bind .rfl fun _ => (.bind (zd7 n _) fun _ => .rfl)) .rfl)) fun _ => (.join (.bind .rfl fun _ => (.bif .rfl .rfl)) fun _ => (.join (.bif (.need (.bind .rfl fun _ => .rfl)) .rfl) fun _ => (.need (.need (.need (.bind (qJ n _) fun _ => (.join (.need (.bind (.cond (zaZ n _)) fun _ => (.bif (.need .rfl) .rfl))) fun _ => (.need (.need (.bif .rfl .rfl)))))))))))))) .rfl)) fun _ => .rfl)))
def Z8 (n : Nat) (x : Str × List ze) : Option Bool :=
 zb (zdh n x.2) fun y1 =>
 some (bif y1.2 == 0 then y1.1 == x.1 else false)
theorem zA (n : Nat) (x : Str × List ze) : Le (Z8 n x) (zo x) := by
 unfold Z8 zo
 exact (.bind (zeW n _) fun _ => .rfl)
def zeV (n : Nat) (x : Unit) : Option Bool :=
 zb (QH n [49, 32, 97]) fun y1 =>
 zb (Z8 n ([92, 51, 49, 32, 92, 50, 48, 32, 97], [y1])) fun y2 =>
 zb (zx y2 (Z8 n ([34, 97, 92, 34, 92, 97, 32, 34], [(⟨5, [97, 34, 10], 0, [], false⟩ : ze)])) (default : Bool)) fun y3 =>
 zb (zx (bif y2 then y3 else false) (Z8 n ([49, 46, 53, 92, 54, 53, 32, 51], [(⟨12, [], 1500, [101, 51], false⟩ : ze)])) (default : Bool)) fun y4 =>
 zb (zx (bif bif y2 then y3 else false then y4 else false) (QH n [97]) (default : ze)) fun y5 =>
 zb (zx (bif bif y2 then y3 else false then y4 else false) (QH n [98]) (default : ze)) fun y6 =>
 zb (zx (bif bif y2 then y3 else false then y4 else false) (Z8 n ([97, 47, 42, 42, 47, 98], [y5, y6])) (default : Bool)) fun y7 =>
 zb (zx (bif bif bif y2 then y3 else false then y4 else false then y7 else false) (QH n [97]) (default : ze)) fun y8 =>
 zb (zx (bif bif bif y2 then y3 else false then y4 else false then y7 else false) (Z8 n ([97, 58], [y8, (⟨16, [], 0, [], false⟩ : ze)])) (default : Bool)) fun y9 =>
 zb (zx (bif bif bif bif y2 then y3 else false then y4 else false then y7 else false then y9 else false) (Z8 n ([50, 46, 48], [(⟨10, [], 2000, [], false⟩ : ze)])) (default : Bool)) fun y10 =>
 some (bif bif bif bif bif y2 then y3 else false then y4 else false then y7 else false then y9 else false then y10 else false)
theorem zhO (n : Nat) (x : Unit) : Le (zeV n x) (zaO x) := by
 unfold zeV zaO
 exact (.bind (zaU n _) fun _ => (.bind (zA n _) fun _ => (.bind (.cond (zA n _)) fun _ => (.bind (.cond (zA n _)) fun _ => (.bind (.cond (zaU n _)) fun _ => (.bind (.cond (zaU n _)) fun _ => (.bind (.cond (zA n _)) fun _ => (.bind (.cond (zaU n _)) fun _ => (.bind (.cond (zA n _)) fun _ => (.bind (.cond (zA n _)) fun _ => .rfl))))))))))
def zfz (n : Nat) (x : ze) : Option (Str × Int) :=
 zb (zcJ n x) fun y1 =>
 bif !y1 then
  some ([], 8)
 else
  zb (zcK n x) fun y2 =>
  some (y2, 0)
theorem zlO (n : Nat) (x : ze) : Le (zfz n x) (zeS x) := by
 unfold zfz zeS
 exact (.bind (zfX n _) fun _ => (.bif .rfl (.bind (zhN n _) fun _ => .rfl)))
def zcM (n : Nat) (x : ze) : Option Bool :=
 zb (zfz n x) fun y1 =>
 zb (zx (y1.2 == 8) (zbY n [x]) (default : Int)) fun y2 =>
 some (bif y1.2 == 8 then y2 == 8 else false)
theorem zky (n : Nat) (x : ze) : Le (zcM n x) (zcn x) := by
 unfold zcM zcn
 exact (.bind (zlO n _) fun _ => (.bind (.cond (zbl n _)) fun _ => .rfl))
def zgR (n : Nat) (x : Str) : Option (Str × Int) :=
 zb (zx (!(x == [])) (zN n (x, 0)) (default : Int)) fun y1 =>
 bif bif x == [] then true else decide (y1 ≥ 0) then
  some ([], 8)
 else
  zb (Zq n x) fun y2 =>
  zb (zar n (x, y2)) fun y3 =>
  bif bif decide ((x.length : Int) > 4000) then true else decide ((y3.length : Int) > 4000) then
   some ([], 28)
  else
   some (y3, 0)
theorem zb1 (n : Nat) (x : Str) : Le (zgR n x) (Qi x) := by
 unfold zgR Qi
 exact (.bind (.cond (Za n _)) fun _ => (.bif .rfl (.bind (Zv n _) fun _ => (.bind (zca n _) fun _ => (.bif .rfl .rfl)))))
end Go.Lv.VT
