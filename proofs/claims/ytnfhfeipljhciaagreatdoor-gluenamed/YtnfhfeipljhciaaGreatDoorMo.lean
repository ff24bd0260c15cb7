/- Laws for the plain texts: loops that look for something; bytes. -/
import Derived.Test.YtnfhfeipljhciaaGreatDoorLf
import Derived.Test.YtnfhfeipljhciaaGreatDoorTx
namespace Go.Lv.VT
abbrev big : Nat := 4194304
end Go.Lv.VT

namespace Go.Lv.VT
set_option maxRecDepth 100000
def zmw (n : Nat) := zeG
theorem zoT (n : Nat) (x) : Le (zmw n x) (zeG x) := .rfl
def zkz (n : Nat) := zel
theorem znA (n : Nat) (x) : Le (zkz n x) (zel x) := .rfl
def zja (n : Nat) := zfU
theorem zkK (n : Nat) (x) : Le (zja n x) (zfU x) := .rfl
def zjL (n : Nat) := zhs
theorem zkL (n : Nat) (x) : Le (zjL n x) (zhs x) := .rfl
def zm3 (n : Nat) := zfW
theorem zoU (n : Nat) (x) : Le (zm3 n x) (zfW x) := .rfl
def zgP (n : Nat) := zcf
theorem zkJ (n : Nat) (x) : Le (zgP n x) (zcf x) := .rfl
def zq3 (n : Nat) := cutF
theorem zrF (n : Nat) (x) : Le (zq3 n x) (cutF x) := .rfl
def zkp (n : Nat) := zfo
theorem znz (n : Nat) (x) : Le (zkp n x) (zfo x) := .rfl
def zhZ (n : Nat) := zbf
theorem zlZ (n : Nat) (x) : Le (zhZ n x) (zbf x) := .rfl
def zhY (n : Nat) := zdy
theorem zlY (n : Nat) (x) : Le (zhY n x) (zdy x) := .rfl
def QC (n : Nat) (x : Str) : Option zh :=
 some (⟨1, x, 0, [], false⟩ : zh)
theorem zaZ (n : Nat) (x : Str) : Le (QC n x) (Z5 x) := by
 unfold QC Z5
 exact .rfl
def Zi (n : Nat) (x : Str × Int) : Option Int :=
 zb (zkz n (x.1, x.2)) fun y1 =>
 some y1
theorem ZN (n : Nat) (x : Str × Int) : Le (Zi n x) (strings_IndexByte x) := by
 unfold Zi strings_IndexByte
 exact (.bind (znA n _) fun _ => .rfl)
def ZT (n : Nat) (x : Str × Str) : Option Bool :=
 need (decide (0 ≤ (x.2.length : Int)) && decide ((x.2.length : Int) ≤ (x.1.length : Int)) || !(decide ((x.1.length : Int) ≥ (x.2.length : Int)))) <|
 some (bif decide ((x.1.length : Int) ≥ (x.2.length : Int)) then List.take x.2.length x.1 == x.2 else false)
theorem zad (n : Nat) (x : Str × Str) : Le (ZT n x) (stringslite_HasPrefix x) := by
 unfold ZT stringslite_HasPrefix
 exact (.need .rfl)
def qL (n : Nat) (x : Str × Str) : Option Str :=
 zb (ZT n (x.1, x.2)) fun y1 =>
 bif y1 then
  need (decide (0 ≤ (x.2.length : Int)) && decide ((x.2.length : Int) ≤ (x.1.length : Int))) <|
  some (List.drop x.2.length x.1)
 else
  some x.1
theorem zb2 (n : Nat) (x : Str × Str) : Le (qL n x) (stringslite_TrimPrefix x) := by
 unfold qL stringslite_TrimPrefix
 exact (.bind (zad n _) fun _ => (.bif (.need .rfl) .rfl))
def QN (n : Nat) (x : Str × Str) : Option Str :=
 zb (qL n (x.1, x.2)) fun y1 =>
 some y1
theorem zdd (n : Nat) (x : Str × Str) : Le (QN n x) (strings_TrimPrefix x) := by
 unfold QN strings_TrimPrefix
 exact (.bind (zb2 n _) fun _ => .rfl)
def qP (n : Nat) (x : Int) : Option Bool :=
 some (bif decide (48 ≤ x) then decide (x ≤ 57) else false)
theorem QD (n : Nat) (x : Int) : Le (qP n x) (Zy x) := by
 unfold qP Zy
 exact .rfl
def zaY (n : Nat) (x : Str) : Option Bool :=
 zb (QN n (x, [45])) fun y1 =>
 zb (zy (!(y1 == [])) (geti y1 0) 0) fun y2 =>
 zb (zy (!(y1 == [])) (qP n (y2.toNat : Int)) (default : Bool)) fun y3 =>
 some (bif !(y1 == []) then y3 else false)
theorem zdb (n : Nat) (x : Str) : Le (zaY n x) (Qu x) := by
 unfold zaY Qu
 exact (.bind (zdd n _) fun _ => (.bind .rfl fun _ => (.bind (.cond (QD n _)) fun _ => .rfl)))
def zX (n : Nat) (x : Str × Str) : Option Bool :=
 zb (ZT n (x.1, x.2)) fun y1 =>
 some y1
theorem Zt (n : Nat) (x : Str × Str) : Le (zX n x) (strings_HasPrefix x) := by
 unfold zX strings_HasPrefix
 exact (.bind (zad n _) fun _ => .rfl)
def zbj (n : Nat) (x : Int) : Option Bool :=
 some (bif bif decide (97 ≤ ibOr IntKind.u8 x 32) then decide (ibOr IntKind.u8 x 32 ≤ 122) else false then decide (x < 128) else false)
theorem zb1 (n : Nat) (x : Int) : Le (zbj n x) (Qs x) := by
 unfold zbj Qs
 exact .rfl
def zac (n : Nat) (x : Int) : Option Bool :=
 zb (zbj n x) fun y1 =>
 zb (zy (!y1) (qP n x) (default : Bool)) fun y2 =>
 some (bif bif bif bif y1 then true else y2 then true else x == 95 then true else x == 45 then true else decide (x ≥ 128))
theorem zbm (n : Nat) (x : Int) : Le (zac n x) (qE x) := by
 unfold zac qE
 exact (.bind (zb1 n _) fun _ => (.bind (.cond (QD n _)) fun _ => .rfl))
def zaG (n : Nat) (x : Str × Str) : Option Bool :=
 zb (zja n (x.1, x.2)) fun y1 =>
 some (decide (y1 ≥ 0))
theorem zeo (n : Nat) (x : Str × Str) : Le (zaG n x) (strings_Contains x) := by
 unfold zaG strings_Contains
 exact (.bind (zkK n _) fun _ => .rfl)
def zek (n : Nat) (x : zh) : Option Bool :=
 need (zjC x.text.length x.unit.length) <|
 zb (Zi n (x.text ++ x.unit, 0)) fun y1 =>
 zO (X := Bool × Bool × Bool × Bool × Bool) (
   zO (X := Bool × Bool × Bool × Bool × Bool × Bool) (
     bif x.kind == 1 then
      some (LX.out (false, false, false, false, decide (y1 < 0), x.kind == 1))
     else
      bif x.kind == 2 then
       some (LX.out (false, false, false, false, decide (y1 < 0), x.kind == 2))
      else
       some (LX.out (false, false, false, false, decide (y1 < 0), x.kind == 3))) fun j2 =>
   bif j2.2.2.2.2.2 then
    some (LX.out (true, j2.2.1, j2.2.2.1, j2.2.2.2.1, bif j2.2.2.2.2.1 then !(x.text == []) else false))
   else
    bif x.kind == 4 then
     zb (zy (!x.flag && (bif j2.2.2.2.2.1 then !(x.text == []) else false)) (zaY n x.text) (default : Bool)) fun y3 =>
     zb (zy (y3 && (!x.flag && (bif j2.2.2.2.2.1 then !(x.text == []) else false))) (zX n (x.text, [45, 45])) (default : Bool)) fun y4 =>
     some (LX.out (true, j2.2.1, j2.2.2.1, true, bif bif j2.2.2.2.2.1 then !(x.text == []) else false then bif bif x.flag then true else bif y3 then !y4 else false then true else x.text == [45] else false))
    else
     zO (X := Bool × Bool × Bool × Bool × Bool × Bool) (
       bif x.kind == 5 then
        some (LX.out (j2.1, j2.2.1, j2.2.2.1, j2.2.2.2.1, j2.2.2.2.2.1, x.kind == 5))
       else
        some (LX.out (j2.1, j2.2.1, j2.2.2.1, j2.2.2.2.1, j2.2.2.2.2.1, x.kind == 7))) fun j5 =>
     bif j5.2.2.2.2.2 then
      some (LX.out (true, j5.2.1, j5.2.2.1, j5.2.2.2.1, j5.2.2.2.2.1))
     else
      bif x.kind == 9 then
       zb (zy (bif j5.2.2.2.2.1 then (x.text.length : Int) == 1 else false) (geti x.text 0) 0) fun y6 =>
       zb (zy (bif j5.2.2.2.2.1 then (x.text.length : Int) == 1 else false) (zac n (y6.toNat : Int)) (default : Bool)) fun y7 =>
       zb (zy (bif bif bif j5.2.2.2.2.1 then (x.text.length : Int) == 1 else false then !y7 else false then true else x.text == [45]) (zaG n ([32, 9, 10, 12, 13, 34, 39, 58, 59, 44, 91, 93, 40, 41, 123, 125], x.text)) (default : Bool)) fun y8 =>
       some (LX.out (true, j5.2.1, j5.2.2.1, j5.2.2.2.1, bif bif bif bif j5.2.2.2.2.1 then (x.text.length : Int) == 1 else false then !y7 else false then true else x.text == [45] then !y8 else false))
      else
       zO (X := Bool × Bool × Bool × Bool × Bool) (
         bif x.kind == 10 then
          some (LX.out (j5.2.1, j5.2.2.1, j5.2.2.2.1, j5.2.2.2.2.1, x.kind == 10))
         else
          bif x.kind == 11 then
           some (LX.out (j5.2.1, j5.2.2.1, j5.2.2.2.1, j5.2.2.2.2.1, x.kind == 11))
          else
           some (LX.out (j5.2.1, j5.2.2.1, j5.2.2.2.1, j5.2.2.2.2.1, x.kind == 12))) fun j9 =>
       bif j9.2.2.2.2 then
        some (LX.out (j5.1, x.kind == 12, true, x.kind != 11, bif bif bif bif j9.2.2.2.1 then decide (x.num ≥ (-1000000000000)) else false then decide (x.num ≤ 1000000000000) else false then bif !x.flag then true else Int.tmod x.num 1000 == 0 else false then bif !(x.kind == 12) then true else !(x.unit == []) else false))
       else
        some (LX.out (j5.1, j9.1, j9.2.1, j9.2.2.1, bif decide (x.kind ≥ 13) then decide (x.kind ≤ 24) else false))) fun j10 =>
 some (bif bif bif bif j10.2.2.2.2 then bif j10.1 then true else x.text == [] else false then bif j10.2.1 then true else x.unit == [] else false then bif j10.2.2.1 then true else x.num == 0 else false then bif j10.2.2.2.1 then true else !x.flag else false)
theorem zkI (n : Nat) (x : zh) : Le (zek n x) (zc7 x) := by
 unfold zek zc7
 exact (.need (.bind (ZN n _) fun _ => (.join (.join (.bif .rfl (.bif .rfl .rfl)) fun _ => (.bif .rfl (.bif (.bind (.cond (zdb n _)) fun _ => (.bind (.cond (Zt n _)) fun _ => .rfl)) (.join (.bif .rfl .rfl) fun _ => (.bif .rfl (.bif (.bind .rfl fun _ => (.bind (.cond (zbm n _)) fun _ => (.bind (.cond (zeo n _)) fun _ => .rfl))) (.join (.bif .rfl (.bif .rfl .rfl)) fun _ => (.bif .rfl .rfl)))))))) fun _ => .rfl)))
def QR (n : Nat) (x : (Int × Int) × List zh) : Option Bool :=
 zb (zy (decide (x.1.1 < (x.2.length : Int))) (geti x.2 x.1.1) (default : zh)) fun y1 =>
 some (bif decide (x.1.1 < (x.2.length : Int)) then y1.kind == x.1.2 else false)
theorem zbH (n : Nat) (x : (Int × Int) × List zh) : Le (QR n x) (Qv x) := by
 unfold QR Qv
 exact (.bind .rfl fun _ => .rfl)
def zbl (n : Nat) (x : Str) : Option Str :=
 need (decide (x.length ≤ maxLen)) <|
 zbp n (fun (s1 : Int × List UInt8) =>
   bif decide (s1.1 < (x.length : Int)) then
    zO (X := Int × List UInt8) (
      need (decide (0 ≤ s1.1) && decide (s1.1 < (s1.2.length : Int))) <|
      zb s1.2[s1.1.toNat]? fun y2 =>
      bif bif decide (65 ≤ (y2.toNat : Int)) then decide ((y2.toNat : Int) ≤ 90) else false then
       need (decide (0 ≤ s1.1) && decide (s1.1 < (s1.2.length : Int))) <|
       zb s1.2[s1.1.toNat]? fun y3 =>
       need (decide (0 ≤ s1.1) && decide (s1.1 < (s1.2.length : Int))) <|
       zb s1.2[s1.1.toNat]? fun y4 =>
       zb (zW (ibOr IntKind.u8 (y3.toNat : Int) 32)) fun y5 =>
       some (LX.out (s1.1, List.set s1.2 s1.1.toNat y5))
      else
       some (LX.out (s1.1, s1.2))) fun j6 =>
    some (LO.again (w64 (j6.1 + 1), j6.2))
   else
    some (LO.out s1.2) : Int × List UInt8 → Option (LO (Int × List UInt8) (List UInt8) _)) (0, x) fun o7 =>
 some o7
theorem zd1 (n : Nat) (x : Str) : Le (zbl n x) (zaS x) := by
 unfold zbl zaS
 exact (.need (.loop (fun _ => (.bif (.join (.need (.bind .rfl fun _ => (.bif (.need (.bind .rfl fun _ => (.need (.bind .rfl fun _ => (.bind .rfl fun _ => .rfl))))) .rfl))) fun _ => .rfl) .rfl)) fun _ => .rfl))
def zbk (n : Nat) (x : Str × Str) : Option Bool :=
 zb (zbl n x.1) fun y1 =>
 zb (zbl n x.2) fun y2 =>
 some (y1 == y2)
theorem zd0 (n : Nat) (x : Str × Str) : Le (zbk n x) (Q3 x) := by
 unfold zbk Q3
 exact (.bind (zd1 n _) fun _ => (.bind (zd1 n _) fun _ => .rfl))
def zbR (n : Nat) (x : List zh) : Option Int :=
 zb (geti x 0) fun y1 =>
 bif bif y1.kind == 9 then y1.text == [92] else false then
  zb (QR n ((1, 13), x)) fun y2 =>
  bif !y2 then
   some 0
  else
   some 2
 else
  zb (zy (y1.kind == 2) (zbk n (y1.text, [117, 114, 108])) (default : Bool)) fun y3 =>
  bif bif y1.kind == 2 then y3 else false then
   zO (X := Int) (
     zb (QR n ((1, 13), x)) fun y4 =>
     bif y4 then
      some (LX.out 2)
     else
      some (LX.out 1)) fun j5 =>
   zb (QR n ((j5, 5), x)) fun y6 =>
   bif !y6 then
    some 0
   else
    some (w64 (j5 + 1))
  else
   some 1
theorem zeO (n : Nat) (x : List zh) : Le (zbR n x) (zaR x) := by
 unfold zbR zaR
 exact (.bind .rfl fun _ => (.bif (.bind (zbH n _) fun _ => (.bif .rfl .rfl)) (.bind (.cond (zd0 n _)) fun _ => (.bif (.join (.bind (zbH n _) fun _ => (.bif .rfl .rfl)) fun _ => (.bind (zbH n _) fun _ => (.bif .rfl .rfl))) .rfl))))
def zc5 (n : Nat) (x : List zh) : Option Int :=
 bif decide ((x.length : Int) > 1500) then
  some 4
 else
  zbp n (fun (s1 : Int) =>
    bif decide (s1 < (x.length : Int)) then
     zb (geti x s1) fun y2 =>
     zb (zek n y2) fun y3 =>
     need (decide (0 ≤ s1) && decide (s1 ≤ (x.length : Int)) || !(!(!y3))) <|
     zb (zy (!(!y3)) (zbR n (List.drop s1.toNat x)) (default : Int)) fun y4 =>
     bif bif !y3 then true else y4 == 0 then
      some (LO.ret 8)
     else
      some (LO.again (w64 (s1 + 1)))
    else
     some (LO.out ()) : Int → Option (LO (Int) (Unit) _)) 0 fun o5 =>
  some 0
theorem zcC (n : Nat) (x : List zh) : Le (zc5 n x) (zaQ x) := by
 unfold zc5 zaQ
 exact (.bif .rfl (.loop (fun _ => (.bif (.bind .rfl fun _ => (.bind (zkI n _) fun _ => (.need (.bind (.cond (zeO n _)) fun _ => (.bif .rfl .rfl))))) .rfl)) fun _ => .rfl))
def qQ (n : Nat) (x : Str) : Option Int :=
 zb (zX n (x, [45])) fun y1 =>
 bif y1 then
  some 2
 else
  some 1
theorem QE (n : Nat) (x : Str) : Le (qQ n x) (ZX x) := by
 unfold qQ ZX
 exact (.bind (Zt n _) fun _ => (.bif .rfl .rfl))
def Z4 (n : Nat) (x : Int × List UInt8) : Option (List UInt8) :=
 zb (zy (bif decide (x.1 > 32) then decide (x.1 < 127) else false) (qP n x.1) (default : Bool)) fun y1 =>
 zb (zy (bif bif decide (x.1 > 32) then decide (x.1 < 127) else false then !y1 else false) (zbj n x.1) (default : Bool)) fun y2 =>
 bif bif bif bif decide (x.1 > 32) then decide (x.1 < 127) else false then !y1 else false then !y2 else false then
  zb (zW x.1) fun y3 =>
  need (zB x.2.length 2 1) <|
  some (x.2 ++ [(92 : UInt8), y3])
 else
  need (zB x.2.length 1 1) <|
  zb (zhZ n ((wu64 x.1, 16), x.2 ++ [(92 : UInt8)])) fun y4 =>
  need (zB y4.length 1 1) <|
  some (y4 ++ [(32 : UInt8)])
theorem Qh (n : Nat) (x : Int × List UInt8) : Le (Z4 n x) (zZ x) := by
 unfold Z4 zZ
 exact (.bind (.cond (QD n _)) fun _ => (.bind (.cond (zb1 n _)) fun _ => (.bif (.bind .rfl fun _ => (.need .rfl)) (.need (.bind (zlZ n _) fun _ => (.need .rfl))))))
def zcA (n : Nat) (x : Str × Int) : Option (List UInt8) :=
 zbp n (fun (s1 : Int × List UInt8) =>
   bif decide (s1.1 < (x.1.length : Int)) then
    zO (X := Int × List UInt8) (
      zb (geti x.1 s1.1) fun y2 =>
      zb (zac n (y2.toNat : Int)) fun y3 =>
      zb (zy (!(decide (s1.1 ≥ x.2)) && y3) (qP n (y2.toNat : Int)) (default : Bool)) fun y4 =>
      bif bif bif y3 then bif decide (s1.1 ≥ x.2) then true else !y4 else false then bif x.2 == 0 then true else !(x.1 == [45]) else false then
       zb (zW (y2.toNat : Int)) fun y5 =>
       need (zB s1.2.length 1 1) <|
       some (LX.out (s1.1, s1.2 ++ [y5]))
      else
       zb (Z4 n ((y2.toNat : Int), s1.2)) fun y6 =>
       some (LX.out (s1.1, y6))) fun j7 =>
    some (LO.again (w64 (j7.1 + 1), j7.2))
   else
    some (LO.out s1.2) : Int × List UInt8 → Option (LO (Int × List UInt8) (List UInt8) _)) (0, []) fun o8 =>
 some o8
theorem zhK (n : Nat) (x : Str × Int) : Le (zcA n x) (Q0 x) := by
 unfold zcA Q0
 exact (.loop (fun _ => (.bif (.join (.bind .rfl fun _ => (.bind (zbm n _) fun _ => (.bind (.cond (QD n _)) fun _ => (.bif (.bind .rfl fun _ => (.need .rfl)) (.bind (Qh n _) fun _ => .rfl))))) fun _ => .rfl) .rfl)) fun _ => .rfl)
def qi (n : Nat) (x : (Str × Int) × List UInt8) : Option (List UInt8) :=
 zbp n (fun (s1 : Int × List UInt8) =>
   bif decide (s1.1 < (x.1.1.length : Int)) then
    zO (X := Int × List UInt8) (
      zb (geti x.1.1 s1.1) fun y2 =>
      zb (zac n (y2.toNat : Int)) fun y3 =>
      zb (zy (!(decide (s1.1 ≥ x.1.2)) && y3) (qP n (y2.toNat : Int)) (default : Bool)) fun y4 =>
      bif bif bif y3 then bif decide (s1.1 ≥ x.1.2) then true else !y4 else false then bif x.1.2 == 0 then true else !(x.1.1 == [45]) else false then
       zb (zW (y2.toNat : Int)) fun y5 =>
       need (zB s1.2.length 1 1) <|
       some (LX.out (s1.1, s1.2 ++ [y5]))
      else
       zb (Z4 n ((y2.toNat : Int), s1.2)) fun y6 =>
       some (LX.out (s1.1, y6))) fun j7 =>
    some (LO.again (w64 (j7.1 + 1), j7.2))
   else
    some (LO.out s1.2) : Int × List UInt8 → Option (LO (Int × List UInt8) (List UInt8) _)) (0, x.2) fun o8 =>
 some o8
theorem Qk (n : Nat) (x : (Str × Int) × List UInt8) : Le (qi n x) (qy x) := by
 unfold qi qy
 exact (.loop (fun _ => (.bif (.join (.bind .rfl fun _ => (.bind (zbm n _) fun _ => (.bind (.cond (QD n _)) fun _ => (.bif (.bind .rfl fun _ => (.need .rfl)) (.bind (Qh n _) fun _ => .rfl))))) fun _ => .rfl) .rfl)) fun _ => .rfl)
def zc8 (n : Nat) (x : Unit) : Option qf :=
 some (⟨[32], [60, 33, 45, 45], [45, 45, 62], [58], [59], [44], [91], [93], [40], [41], [123], [125]⟩ : qf)
theorem zjg (n : Nat) (x : Unit) : Le (zc8 n x) (zcd x) := by
 unfold zc8 zcd
 exact .rfl
def Qt (n : Nat) (x : (Int × Bool) × List UInt8) : Option (List UInt8) :=
 zO (X := Int × List UInt8) (
   bif decide (x.1.1 < 0) then
    need (zB x.2.length 1 1) <|
    some (LX.out (w64 (0 - x.1.1), x.2 ++ [(45 : UInt8)]))
   else
    some (LX.out (x.1.1, x.2))) fun j1 =>
 zb (zhY n ((w64 (Int.tdiv j1.1 1000), 10), j1.2)) fun y2 =>
 zb (zkp n (w64 (1000 + Int.tmod j1.1 1000), 10)) fun y3 =>
 need (decide (1 ≤ (y3.length : Int))) <|
 zb (zm3 n (List.drop 1 y3, [48])) fun y4 =>
 zO (X := List UInt8) (
   bif !(y4 == []) then
    need (zB y2.length 1 1) <|
    need (zB (y2 ++ [(46 : UInt8)]).length y4.length 1) <|
    some (LX.out (y2 ++ [(46 : UInt8)] ++ y4))
   else
    bif x.1.2 then
     need (zB y2.length ([46, 48] : Str).length 1) <|
     some (LX.out (y2 ++ ([46, 48] : Str)))
    else
     some (LX.out y2)) fun j5 =>
 some j5
theorem za5 (n : Nat) (x : (Int × Bool) × List UInt8) : Le (Qt n x) (qX x) := by
 unfold Qt qX
 exact (.join (.bif (.need .rfl) .rfl) fun _ => (.bind (zlY n _) fun _ => (.bind (znz n _) fun _ => (.need (.bind (zoU n _) fun _ => (.join (.bif (.need (.need .rfl)) (.bif (.need .rfl) .rfl)) fun _ => .rfl))))))
def zcB (n : Nat) (x : zh × List UInt8) : Option (List UInt8) :=
 bif x.1.kind == 1 then
  zb (qQ n x.1.text) fun y1 =>
  zb (qi n ((x.1.text, y1), x.2)) fun y2 =>
  some y2
 else
  bif x.1.kind == 2 then
   zb (qQ n x.1.text) fun y3 =>
   zb (qi n ((x.1.text, y3), x.2)) fun y4 =>
   need (zB y4.length 1 1) <|
   some (y4 ++ [(40 : UInt8)])
  else
   bif x.1.kind == 3 then
    need (zB x.2.length 1 1) <|
    zb (qQ n x.1.text) fun y5 =>
    zb (qi n ((x.1.text, y5), x.2 ++ [(64 : UInt8)])) fun y6 =>
    some y6
   else
    bif x.1.kind == 4 then
     zO (X := Int × List UInt8) (
       bif x.1.flag then
        zb (qQ n x.1.text) fun y7 =>
        some (LX.out (y7, x.2))
       else
        some (LX.out (0, x.2))) fun j8 =>
     need (zB j8.2.length 1 1) <|
     zb (qi n ((x.1.text, j8.1), j8.2 ++ [(35 : UInt8)])) fun y9 =>
     some y9
    else
     bif x.1.kind == 5 then
      need (zB x.2.length 1 1) <|
      need (decide (x.1.text.length ≤ maxLen)) <|
      zbp n (fun (s10 : Int × List UInt8) =>
        bif decide (s10.1 < (x.1.text.length : Int)) then
         zO (X := Int × List UInt8) (
           need (decide (0 ≤ s10.1) && decide (s10.1 < (x.1.text.length : Int))) <|
           zb x.1.text[s10.1.toNat]? fun y11 =>
           zb (Zi n ([10, 12, 13, 34, 92], (y11.toNat : Int))) fun y12 =>
           bif decide (y12 ≥ 0) then
            zb (Z4 n ((y11.toNat : Int), s10.2)) fun y13 =>
            some (LX.out (s10.1, y13))
           else
            zb (zW (y11.toNat : Int)) fun y14 =>
            need (zB s10.2.length 1 1) <|
            some (LX.out (s10.1, s10.2 ++ [y14]))) fun j15 =>
         some (LO.again (w64 (j15.1 + 1), j15.2))
        else
         some (LO.out s10.2) : Int × List UInt8 → Option (LO (Int × List UInt8) (List UInt8) _)) (0, x.2 ++ [(34 : UInt8)]) fun o16 =>
      need (zB o16.length 1 1) <|
      some (o16 ++ [(34 : UInt8)])
     else
      bif x.1.kind == 7 then
       need (zB x.2.length ([117, 114, 108, 40] : Str).length 1) <|
       need (decide (x.1.text.length ≤ maxLen)) <|
       zbp n (fun (s17 : Int × List UInt8) =>
         bif decide (s17.1 < (x.1.text.length : Int)) then
          zO (X := Int × List UInt8) (
            need (decide (0 ≤ s17.1) && decide (s17.1 < (x.1.text.length : Int))) <|
            zb x.1.text[s17.1.toNat]? fun y18 =>
            zb (zy (!(decide ((y18.toNat : Int) ≤ 32))) (Zi n ([34, 39, 40, 41, 92, 127], (y18.toNat : Int))) (default : Int)) fun y19 =>
            bif bif decide ((y18.toNat : Int) ≤ 32) then true else decide (y19 ≥ 0) then
             zb (Z4 n ((y18.toNat : Int), s17.2)) fun y20 =>
             some (LX.out (s17.1, y20))
            else
             zb (zW (y18.toNat : Int)) fun y21 =>
             need (zB s17.2.length 1 1) <|
             some (LX.out (s17.1, s17.2 ++ [y21]))) fun j22 =>
          some (LO.again (w64 (j22.1 + 1), j22.2))
         else
          some (LO.out s17.2) : Int × List UInt8 → Option (LO (Int × List UInt8) (List UInt8) _)) (0, x.2 ++ ([117, 114, 108, 40] : Str)) fun o23 =>
       need (zB o23.length 1 1) <|
       some (o23 ++ [(41 : UInt8)])
      else
       bif x.1.kind == 9 then
        need (zB x.2.length x.1.text.length 1) <|
        some (x.2 ++ x.1.text)
       else
        bif x.1.kind == 10 then
         zb (Qt n ((x.1.num, !x.1.flag), x.2)) fun y24 =>
         some y24
        else
         bif x.1.kind == 11 then
          zb (Qt n ((x.1.num, false), x.2)) fun y25 =>
          need (zB y25.length 1 1) <|
          some (y25 ++ [(37 : UInt8)])
         else
          bif x.1.kind == 12 then
           zb (Qt n ((x.1.num, !x.1.flag), x.2)) fun y26 =>
           zb (geti x.1.unit 0) fun y27 =>
           need (decide (1 ≤ (x.1.unit.length : Int)) || !(ibOr IntKind.u8 (y27.toNat : Int) 32 == 101)) <|
           zb (zy (ibOr IntKind.u8 (y27.toNat : Int) 32 == 101) (zaY n (List.drop 1 x.1.unit)) (default : Bool)) fun y28 =>
           need (decide (1 ≤ (x.1.unit.length : Int)) || !(bif ibOr IntKind.u8 (y27.toNat : Int) 32 == 101 then y28 else false)) <|
           zb (zy (bif ibOr IntKind.u8 (y27.toNat : Int) 32 == 101 then y28 else false) (zX n (List.drop 1 x.1.unit, [45, 45])) (default : Bool)) fun y29 =>
           bif bif bif ibOr IntKind.u8 (y27.toNat : Int) 32 == 101 then y28 else false then !y29 else false then
            zb (geti x.1.unit 0) fun y30 =>
            zb (Z4 n ((y30.toNat : Int), y26)) fun y31 =>
            need (decide (1 ≤ (x.1.unit.length : Int))) <|
            zb (qi n ((List.drop 1 x.1.unit, 0), y31)) fun y32 =>
            some y32
           else
            zb (qQ n x.1.unit) fun y33 =>
            zb (qi n ((x.1.unit, y33), y26)) fun y34 =>
            some y34
          else
           zb (zc8 n ()) fun y35 =>
           zb (geti [y35.e0, y35.e1, y35.e2, y35.e3, y35.e4, y35.e5, y35.e6, y35.e7, y35.e8, y35.e9, y35.e10, y35.e11] (wu8 (x.1.kind - 13))) fun y36 =>
           need (zB x.2.length y36.length 1) <|
           some (x.2 ++ y36)
theorem zhL (n : Nat) (x : zh × List UInt8) : Le (zcB n x) (zbF x) := by
 unfold zcB zbF
 exact (.bif (.bind (QE n _) fun _ => (.bind (Qk n _) fun _ => .rfl)) (.bif (.bind (QE n _) fun _ => (.bind (Qk n _) fun _ => (.need .rfl))) (.bif (.need (.bind (QE n _) fun _ => (.bind (Qk n _) fun _ => .rfl))) (.bif (.join (.bif (.bind (QE n _) fun _ => .rfl) .rfl) fun _ => (.need (.bind (Qk n _) fun _ => .rfl))) (.bif (.need (.need (.loop (fun _ => (.bif (.join (.need (.bind .rfl fun _ => (.bind (ZN n _) fun _ => (.bif (.bind (Qh n _) fun _ => .rfl) (.bind .rfl fun _ => (.need .rfl)))))) fun _ => .rfl) .rfl)) fun _ => (.need .rfl)))) (.bif (.need (.need (.loop (fun _ => (.bif (.join (.need (.bind .rfl fun _ => (.bind (.cond (ZN n _)) fun _ => (.bif (.bind (Qh n _) fun _ => .rfl) (.bind .rfl fun _ => (.need .rfl)))))) fun _ => .rfl) .rfl)) fun _ => (.need .rfl)))) (.bif (.need .rfl) (.bif (.bind (za5 n _) fun _ => .rfl) (.bif (.bind (za5 n _) fun _ => (.need .rfl)) (.bif (.bind (za5 n _) fun _ => (.bind .rfl fun _ => (.need (.bind (.cond (zdb n _)) fun _ => (.need (.bind (.cond (Zt n _)) fun _ => (.bif (.bind .rfl fun _ => (.bind (Qh n _) fun _ => (.need (.bind (Qk n _) fun _ => .rfl)))) (.bind (QE n _) fun _ => (.bind (Qk n _) fun _ => .rfl))))))))) (.bind (zjg n _) fun _ => (.bind .rfl fun _ => (.need .rfl)))))))))))))
def ZI (n : Nat) (x : za) : Option za :=
 zbp n (fun (s1 : za) =>
   need (decide (0 ≤ s1.at_) && decide (s1.at_ ≤ (s1.s.length : Int))) <|
   zb (zX n (List.drop s1.at_.toNat s1.s, [47, 42])) fun y2 =>
   bif y2 then
    need (decide (0 ≤ w64 (s1.at_ + 2)) && decide (w64 (s1.at_ + 2) ≤ (s1.s.length : Int))) <|
    zb (zja n (List.drop (w64 (s1.at_ + 2)).toNat s1.s, [42, 47])) fun y3 =>
    bif decide (y3 < 0) then
     some (LO.ret (⟨s1.s, (s1.s.length : Int)⟩ : za))
    else
     some (LO.again (⟨s1.s, w64 (s1.at_ + w64 (y3 + 4))⟩ : za))
   else
    some (LO.out s1) : za → Option (LO (za) (za) _)) x fun o4 =>
 some o4
theorem QT (n : Nat) (x : za) : Le (ZI n x) (zJ x) := by
 unfold ZI zJ
 exact (.loop (fun _ => (.need (.bind (Zt n _) fun _ => (.bif (.need (.bind (zkK n _) fun _ => (.bif .rfl .rfl))) .rfl)))) fun _ => .rfl)
def zg (n : Nat) (x : Int × za) : Option Int :=
 bif decide (w64 (x.2.at_ + x.1) < (x.2.s.length : Int)) then
  zb (geti x.2.s (w64 (x.2.at_ + x.1))) fun y1 =>
  some (w64 (y1.toNat : Int))
 else
  some (-1)
theorem zf (n : Nat) (x : Int × za) : Le (zg n x) (ze x) := by
 unfold zg ze
 exact (.bif (.bind .rfl fun _ => .rfl) .rfl)
def Qd (n : Nat) (x : Int) : Option Bool :=
 some (bif bif x == 32 then true else x == 9 then true else x == 10)
theorem qz (n : Nat) (x : Int) : Le (Qd n x) (Zr x) := by
 unfold Qd Zr
 exact .rfl
def Zl (n : Nat) (x : za) : Option za :=
 zbp n (fun (s1 : za) =>
   zb (zg n (0, s1)) fun y2 =>
   zb (Qd n y2) fun y3 =>
   bif y3 then
    some (LO.again (⟨s1.s, w64 (s1.at_ + 1)⟩ : za))
   else
    some (LO.out s1) : za → Option (LO (za) (za) _)) x fun o4 =>
 some o4
theorem qb (n : Nat) (x : za) : Le (Zl n x) (zH x) := by
 unfold Zl zH
 exact (.loop (fun _ => (.bind (zf n _) fun _ => (.bind (qz n _) fun _ => (.bif .rfl .rfl)))) fun _ => .rfl)
def Z8 (n : Nat) (x : Int) : Option (List UInt8) :=
 bif decide (wu32 x ≤ 2047) then
  zb (zW (ibOr IntKind.u8 192 (wu8 (zat IntKind.i32 x 6)))) fun y1 =>
  zb (zW (ibOr IntKind.u8 128 (za4 IntKind.u8 (wu8 x) 63))) fun y2 =>
  need (zB 0 2 1) <|
  some [y1, y2]
 else
  zO (X := Bool) (
    bif decide (wu32 x < 55296) then
     some (LX.out (decide (wu32 x < 55296)))
    else
     some (LX.out (bif decide (57343 < wu32 x) then decide (wu32 x ≤ 65535) else false))) fun j3 =>
  bif j3 then
   zb (zW (ibOr IntKind.u8 224 (wu8 (zat IntKind.i32 x 12)))) fun y4 =>
   zb (zW (ibOr IntKind.u8 128 (za4 IntKind.u8 (wu8 (zat IntKind.i32 x 6)) 63))) fun y5 =>
   zb (zW (ibOr IntKind.u8 128 (za4 IntKind.u8 (wu8 x) 63))) fun y6 =>
   need (zB 0 3 1) <|
   some [y4, y5, y6]
  else
   bif bif decide (wu32 x > 65535) then decide (wu32 x ≤ 1114111) else false then
    zb (zW (ibOr IntKind.u8 240 (wu8 (zat IntKind.i32 x 18)))) fun y7 =>
    zb (zW (ibOr IntKind.u8 128 (za4 IntKind.u8 (wu8 (zat IntKind.i32 x 12)) 63))) fun y8 =>
    zb (zW (ibOr IntKind.u8 128 (za4 IntKind.u8 (wu8 (zat IntKind.i32 x 6)) 63))) fun y9 =>
    zb (zW (ibOr IntKind.u8 128 (za4 IntKind.u8 (wu8 x) 63))) fun y10 =>
    need (zB 0 4 1) <|
    some [y7, y8, y9, y10]
   else
    need (zB 0 3 1) <|
    some [(239 : UInt8), (191 : UInt8), (189 : UInt8)]
theorem zbn (n : Nat) (x : Int) : Le (Z8 n x) (Zg x) := by
 unfold Z8 Zg
 exact (.bif (.bind .rfl fun _ => (.bind .rfl fun _ => (.need .rfl))) (.join (.bif .rfl .rfl) fun _ => (.bif (.bind .rfl fun _ => (.bind .rfl fun _ => (.bind .rfl fun _ => (.need .rfl)))) (.bif (.bind .rfl fun _ => (.bind .rfl fun _ => (.bind .rfl fun _ => (.bind .rfl fun _ => (.need .rfl))))) (.need .rfl)))))
def Qe (n : Nat) (x : Int) : Option (List UInt8) :=
 bif decide (wu32 x ≤ 127) then
  zb (zW (wu8 x)) fun y1 =>
  need (zB 0 1 1) <|
  some [y1]
 else
  zb (Z8 n x) fun y2 =>
  some y2
theorem zbd (n : Nat) (x : Int) : Le (Qe n x) (ZZ x) := by
 unfold Qe ZZ
 exact (.bif (.bind .rfl fun _ => (.need .rfl)) (.bind (zbn n _) fun _ => .rfl))
def Ql (n : Nat) (x : Int × Int × Int) : Option Bool :=
 some (bif decide (x.2.1 ≤ x.1) then decide (x.1 ≤ x.2.2) else false)
theorem zax (n : Nat) (x : Int × Int × Int) : Le (Ql n x) (ZF x) := by
 unfold Ql ZF
 exact .rfl
def qx (n : Nat) (x : Int) : Option Bool :=
 zb (Ql n (x, 48, 57)) fun y1 =>
 some y1
theorem ZV (n : Nat) (x : Int) : Le (qx n x) (Zc x) := by
 unfold qx Zc
 exact (.bind (zax n _) fun _ => .rfl)
def zaX (n : Nat) (x : Int) : Option Int :=
 zb (qx n x) fun y1 =>
 bif y1 then
  some (w64 (x - 48))
 else
  zb (zy (x != (-1)) (Ql n (ibOr IntKind.i64 x 32, 97, 102)) (default : Bool)) fun y2 =>
  bif bif bif bif x != (-1) then y2 else false then decide (x > 64) else false then decide (x < 128) else false then
   some (w64 (w64 (ibOr IntKind.i64 x 32 - 97) + 10))
  else
   some (-1)
theorem zae (n : Nat) (x : Int) : Le (zaX n x) (QY x) := by
 unfold zaX QY
 exact (.bind (ZV n _) fun _ => (.bif .rfl (.bind (.cond (zax n _)) fun _ => (.bif .rfl .rfl))))
def qA (n : Nat) (x : za) : Option (za × List UInt8) :=
 zb (zg n (0, (⟨x.s, w64 (x.at_ + 1)⟩ : za))) fun y1 =>
 bif y1 == (-1) then
  zb (Qe n 65533) fun y2 =>
  some ((⟨x.s, w64 (x.at_ + 1)⟩ : za), y2)
 else
  zb (zaX n y1) fun y3 =>
  bif decide (y3 < 0) then
   zb (zW (wu8 y1)) fun y4 =>
   need (zB 0 1 1) <|
   some ((⟨x.s, w64 (w64 (x.at_ + 1) + 1)⟩ : za), [y4])
  else
   zbp n (fun (s5 : (Int × Int) × za) =>
     bif decide (s5.1.2 < 6) then
      zb (zg n (0, s5.2)) fun y6 =>
      zb (zaX n y6) fun y7 =>
      bif decide (y7 < 0) then
       some (LO.out (s5.1.1, s5.2))
      else
       some (LO.again ((ibOr IntKind.i64 (zlS IntKind.i64 s5.1.1 4) y7, w64 (s5.1.2 + 1)), (⟨s5.2.s, w64 (s5.2.at_ + 1)⟩ : za)))
     else
      some (LO.out (s5.1.1, s5.2)) : (Int × Int) × za → Option (LO ((Int × Int) × za) (Int × za) _)) ((0, 0), (⟨x.s, w64 (x.at_ + 1)⟩ : za)) fun o8 =>
   zO (X := Int × za) (
     zb (zg n (0, o8.2)) fun y9 =>
     zb (Qd n y9) fun y10 =>
     bif y10 then
      some (LX.out (o8.1, (⟨o8.2.s, w64 (o8.2.at_ + 1)⟩ : za)))
     else
      some (LX.out (o8.1, o8.2))) fun j11 =>
   zO (X := Int) (
     bif j11.1 == 0 then
      some (LX.out 65533)
     else
      some (LX.out j11.1)) fun j12 =>
   zb (Qe n (w32 j12)) fun y13 =>
   some (j11.2, y13)
theorem zbK (n : Nat) (x : za) : Le (qA n x) (Zp x) := by
 unfold qA Zp
 exact (.bind (zf n _) fun _ => (.bif (.bind (zbd n _) fun _ => .rfl) (.bind (zae n _) fun _ => (.bif (.bind .rfl fun _ => (.need .rfl)) (.loop (fun _ => (.bif (.bind (zf n _) fun _ => (.bind (zae n _) fun _ => (.bif .rfl .rfl))) .rfl)) fun _ => (.join (.bind (zf n _) fun _ => (.bind (qz n _) fun _ => (.bif .rfl .rfl))) fun _ => (.join (.bif .rfl .rfl) fun _ => (.bind (zbd n _) fun _ => .rfl))))))))
def Z9 (n : Nat) (x : Int × List UInt8) : Option (List UInt8) :=
 bif decide (wu32 x.1 ≤ 2047) then
  zb (zW (ibOr IntKind.u8 192 (wu8 (zat IntKind.i32 x.1 6)))) fun y1 =>
  zb (zW (ibOr IntKind.u8 128 (za4 IntKind.u8 (wu8 x.1) 63))) fun y2 =>
  need (zB x.2.length 2 1) <|
  some (x.2 ++ [y1, y2])
 else
  zO (X := Bool × List UInt8) (
    bif decide (wu32 x.1 < 55296) then
     some (LX.out (decide (wu32 x.1 < 55296), x.2))
    else
     some (LX.out (bif decide (57343 < wu32 x.1) then decide (wu32 x.1 ≤ 65535) else false, x.2))) fun j3 =>
  bif j3.1 then
   zb (zW (ibOr IntKind.u8 224 (wu8 (zat IntKind.i32 x.1 12)))) fun y4 =>
   zb (zW (ibOr IntKind.u8 128 (za4 IntKind.u8 (wu8 (zat IntKind.i32 x.1 6)) 63))) fun y5 =>
   zb (zW (ibOr IntKind.u8 128 (za4 IntKind.u8 (wu8 x.1) 63))) fun y6 =>
   need (zB j3.2.length 3 1) <|
   some (j3.2 ++ [y4, y5, y6])
  else
   bif bif decide (wu32 x.1 > 65535) then decide (wu32 x.1 ≤ 1114111) else false then
    zb (zW (ibOr IntKind.u8 240 (wu8 (zat IntKind.i32 x.1 18)))) fun y7 =>
    zb (zW (ibOr IntKind.u8 128 (za4 IntKind.u8 (wu8 (zat IntKind.i32 x.1 12)) 63))) fun y8 =>
    zb (zW (ibOr IntKind.u8 128 (za4 IntKind.u8 (wu8 (zat IntKind.i32 x.1 6)) 63))) fun y9 =>
    zb (zW (ibOr IntKind.u8 128 (za4 IntKind.u8 (wu8 x.1) 63))) fun y10 =>
    need (zB j3.2.length 4 1) <|
    some (j3.2 ++ [y7, y8, y9, y10])
   else
    need (zB j3.2.length 3 1) <|
    some (j3.2 ++ [(239 : UInt8), (191 : UInt8), (189 : UInt8)])
theorem zbo (n : Nat) (x : Int × List UInt8) : Le (Z9 n x) (zQ x) := by
 unfold Z9 zQ
 exact (.bif (.bind .rfl fun _ => (.bind .rfl fun _ => (.need .rfl))) (.join (.bif .rfl .rfl) fun _ => (.bif (.bind .rfl fun _ => (.bind .rfl fun _ => (.bind .rfl fun _ => (.need .rfl)))) (.bif (.bind .rfl fun _ => (.bind .rfl fun _ => (.bind .rfl fun _ => (.bind .rfl fun _ => (.need .rfl))))) (.need .rfl)))))
def Qf (n : Nat) (x : Int × List UInt8) : Option (List UInt8) :=
 bif decide (wu32 x.1 ≤ 127) then
  zb (zW (wu8 x.1)) fun y1 =>
  need (zB x.2.length 1 1) <|
  some (x.2 ++ [y1])
 else
  zb (Z9 n (x.1, x.2)) fun y2 =>
  some y2
theorem zbe (n : Nat) (x : Int × List UInt8) : Le (Qf n x) (Zb x) := by
 unfold Qf Zb
 exact (.bif (.bind .rfl fun _ => (.need .rfl)) (.bind (zbo n _) fun _ => .rfl))
def Zf (n : Nat) (x : za × List UInt8) : Option (za × List UInt8) :=
 zb (zg n (0, (⟨x.1.s, w64 (x.1.at_ + 1)⟩ : za))) fun y1 =>
 bif y1 == (-1) then
  zb (Qf n (65533, x.2)) fun y2 =>
  some ((⟨x.1.s, w64 (x.1.at_ + 1)⟩ : za), y2)
 else
  zb (zaX n y1) fun y3 =>
  bif decide (y3 < 0) then
   zb (zW (wu8 y1)) fun y4 =>
   need (zB x.2.length 1 1) <|
   some ((⟨x.1.s, w64 (w64 (x.1.at_ + 1) + 1)⟩ : za), x.2 ++ [y4])
  else
   zbp n (fun (s5 : (Int × Int) × za) =>
     bif decide (s5.1.2 < 6) then
      zb (zg n (0, s5.2)) fun y6 =>
      zb (zaX n y6) fun y7 =>
      bif decide (y7 < 0) then
       some (LO.out (s5.1.1, s5.2))
      else
       some (LO.again ((ibOr IntKind.i64 (zlS IntKind.i64 s5.1.1 4) y7, w64 (s5.1.2 + 1)), (⟨s5.2.s, w64 (s5.2.at_ + 1)⟩ : za)))
     else
      some (LO.out (s5.1.1, s5.2)) : (Int × Int) × za → Option (LO ((Int × Int) × za) (Int × za) _)) ((0, 0), (⟨x.1.s, w64 (x.1.at_ + 1)⟩ : za)) fun o8 =>
   zO (X := Int × za × List UInt8) (
     zb (zg n (0, o8.2)) fun y9 =>
     zb (Qd n y9) fun y10 =>
     bif y10 then
      some (LX.out (o8.1, (⟨o8.2.s, w64 (o8.2.at_ + 1)⟩ : za), x.2))
     else
      some (LX.out (o8.1, o8.2, x.2))) fun j11 =>
   zO (X := Int × List UInt8) (
     bif j11.1 == 0 then
      some (LX.out (65533, j11.2.2))
     else
      some (LX.out (j11.1, j11.2.2))) fun j12 =>
   zb (Qf n (w32 j12.1, j12.2)) fun y13 =>
   some (j11.2.1, y13)
theorem qc (n : Nat) (x : za × List UInt8) : Le (Zf n x) (zu x) := by
 unfold Zf zu
 exact (.bind (zf n _) fun _ => (.bif (.bind (zbe n _) fun _ => .rfl) (.bind (zae n _) fun _ => (.bif (.bind .rfl fun _ => (.need .rfl)) (.loop (fun _ => (.bif (.bind (zf n _) fun _ => (.bind (zae n _) fun _ => (.bif .rfl .rfl))) .rfl)) fun _ => (.join (.bind (zf n _) fun _ => (.bind (qz n _) fun _ => (.bif .rfl .rfl))) fun _ => (.join (.bif .rfl .rfl) fun _ => (.bind (zbe n _) fun _ => .rfl))))))))
def Qo (n : Nat) (x : za) : Option (zh × za) :=
 zb (zg n (0, x)) fun y1 =>
 zbp n (fun (s2 : za × zh × List UInt8) =>
   zb (zg n (0, s2.1)) fun y3 =>
   bif y3 == (-1) then
    some (LO.out (s2.1, s2.2.1, s2.2.2))
   else
    bif y3 == y1 then
     some (LO.out ((⟨s2.1.s, w64 (s2.1.at_ + 1)⟩ : za), s2.2.1, s2.2.2))
    else
     bif y3 == 10 then
      some (LO.ret ((⟨6, [], 0, [], false⟩ : zh), s2.1))
     else
      zb (zy (y3 == 92) (zg n (1, s2.1)) (default : Int)) fun y4 =>
      zb (zy (!(y4 == (-1)) && y3 == 92) (zg n (1, s2.1)) (default : Int)) fun y5 =>
      bif bif y3 == 92 then bif y4 == (-1) then true else y5 == 10 else false then
       some (LO.again ((⟨s2.1.s, if (s2.1.s.length : Int) < w64 (s2.1.at_ + 2) then (s2.1.s.length : Int) else w64 (s2.1.at_ + 2)⟩ : za), s2.2.1, s2.2.2))
      else
       bif y3 == 92 then
        zb (Zf n (s2.1, s2.2.2)) fun y6 =>
        some (LO.again (y6.1, s2.2.1, y6.2))
       else
        zb (zW (wu8 y3)) fun y7 =>
        need (zB s2.2.2.length 1 1) <|
        some (LO.again ((⟨s2.1.s, w64 (s2.1.at_ + 1)⟩ : za), s2.2.1, s2.2.2 ++ [y7])) : za × zh × List UInt8 → Option (LO (za × zh × List UInt8) (za × zh × List UInt8) _)) ((⟨x.s, w64 (x.at_ + 1)⟩ : za), (⟨0, [], 0, [], false⟩ : zh), []) fun o8 =>
 some ((⟨5, o8.2.2, 0, [], false⟩ : zh), o8.1)
theorem zcE (n : Nat) (x : za) : Le (Qo n x) (ZQ x) := by
 unfold Qo ZQ
 exact (.bind (zf n _) fun _ => (.loop (fun _ => (.bind (zf n _) fun _ => (.bif .rfl (.bif .rfl (.bif .rfl (.bind (.cond (zf n _)) fun _ => (.bind (.cond (zf n _)) fun _ => (.bif .rfl (.bif (.bind (qc n _) fun _ => .rfl) (.bind .rfl fun _ => (.need .rfl))))))))))) fun _ => .rfl))
def zaI (n : Nat) (x : Int) : Option Bool :=
 zb (Ql n (ibOr IntKind.i64 x 32, 97, 122)) fun y1 =>
 some (bif bif bif bif y1 then decide (x < 128) else false then decide (x > 64) else false then true else x == 95 then true else decide (x ≥ 128))
theorem QS (n : Nat) (x : Int) : Le (zaI n x) (Qa x) := by
 unfold zaI Qa
 exact (.bind (zax n _) fun _ => .rfl)
def za1 (n : Nat) (x : Int) : Option Bool :=
 zb (zaI n x) fun y1 =>
 zb (zy (!y1) (qx n x) (default : Bool)) fun y2 =>
 some (bif bif y1 then true else y2 then true else x == 45)
theorem zaw (n : Nat) (x : Int) : Le (za1 n x) (qR x) := by
 unfold za1 qR
 exact (.bind (QS n _) fun _ => (.bind (.cond (ZV n _)) fun _ => .rfl))
def zK (n : Nat) (x : Int × za) : Option Bool :=
 zb (zg n (x.1, x.2)) fun y1 =>
 zb (zy (y1 == 92) (zg n (w64 (x.1 + 1), x.2)) (default : Int)) fun y2 =>
 some (bif y1 == 92 then y2 != 10 else false)
theorem Za (n : Nat) (x : Int × za) : Le (zK n x) (zm x) := by
 unfold zK zm
 exact (.bind (zf n _) fun _ => (.bind (.cond (zf n _)) fun _ => .rfl))
def Zu (n : Nat) (x : Int × za) : Option Bool :=
 zb (zg n (x.1, x.2)) fun y1 =>
 bif y1 != 45 then
  zb (zg n (x.1, x.2)) fun y2 =>
  zb (zaI n y2) fun y3 =>
  zb (zy (!y3) (zK n (x.1, x.2)) (default : Bool)) fun y4 =>
  some (bif y3 then true else y4)
 else
  zb (zg n (w64 (x.1 + 1), x.2)) fun y5 =>
  zb (zaI n y5) fun y6 =>
  zb (zy (!y6) (zg n (w64 (x.1 + 1), x.2)) (default : Int)) fun y7 =>
  zb (zy (!(bif y6 then true else y7 == 45)) (zK n (w64 (x.1 + 1), x.2)) (default : Bool)) fun y8 =>
  some (bif bif y6 then true else y7 == 45 then true else y8)
theorem qj (n : Nat) (x : Int × za) : Le (Zu n x) (zw x) := by
 unfold Zu zw
 exact (.bind (zf n _) fun _ => (.bif (.bind (zf n _) fun _ => (.bind (QS n _) fun _ => (.bind (.cond (Za n _)) fun _ => .rfl))) (.bind (zf n _) fun _ => (.bind (QS n _) fun _ => (.bind (.cond (zf n _)) fun _ => (.bind (.cond (Za n _)) fun _ => .rfl))))))
def Zv (n : Nat) (x : za) : Option (Str × za) :=
 zbp n (fun (s1 : za × List UInt8) =>
   zb (zg n (0, s1.1)) fun y2 =>
   zb (za1 n y2) fun y3 =>
   bif y3 then
    zb (zW (wu8 y2)) fun y4 =>
    need (zB s1.2.length 1 1) <|
    some (LO.again ((⟨s1.1.s, w64 (s1.1.at_ + 1)⟩ : za), s1.2 ++ [y4]))
   else
    zb (zy (y2 != (-1)) (zK n (0, s1.1)) (default : Bool)) fun y5 =>
    bif bif y2 != (-1) then y5 else false then
     zb (Zf n (s1.1, s1.2)) fun y6 =>
     some (LO.again (y6.1, y6.2))
    else
     some (LO.ret (s1.2, s1.1)) : za × List UInt8 → Option (LO (za × List UInt8) (Unit) _)) (x, []) fun o7 =>
 none
theorem ql (n : Nat) (x : za) : Le (Zv n x) (zx x) := by
 unfold Zv zx
 exact (.loop (fun _ => (.bind (zf n _) fun _ => (.bind (zaw n _) fun _ => (.bif (.bind .rfl fun _ => (.need .rfl)) (.bind (.cond (Za n _)) fun _ => (.bif (.bind (qc n _) fun _ => .rfl) .rfl)))))) fun _ => .none)
def Qn (n : Nat) (x : za) : Option Bool :=
 zO (X := Int) (
   zb (zg n (0, x)) fun y1 =>
   bif bif y1 == 43 then true else y1 == 45 then
    some (LX.out 1)
   else
    some (LX.out 0)) fun j2 =>
 zO (X := Int) (
   zb (zg n (j2, x)) fun y3 =>
   bif y3 == 46 then
    some (LX.out (w64 (j2 + 1)))
   else
    some (LX.out j2)) fun j4 =>
 zb (zg n (j4, x)) fun y5 =>
 zb (qx n y5) fun y6 =>
 some y6
theorem zcD (n : Nat) (x : za) : Le (Qn n x) (zS x) := by
 unfold Qn zS
 exact (.join (.bind (zf n _) fun _ => (.bif .rfl .rfl)) fun _ => (.join (.bind (zf n _) fun _ => (.bif .rfl .rfl)) fun _ => (.bind (zf n _) fun _ => (.bind (ZV n _) fun _ => .rfl))))
def Zq (n : Nat) (x : za) : Option za :=
 zbp n (fun (s1 : za) =>
   zb (zg n (0, s1)) fun y2 =>
   zb (qx n y2) fun y3 =>
   bif y3 then
    some (LO.again (⟨s1.s, w64 (s1.at_ + 1)⟩ : za))
   else
    some (LO.out s1) : za → Option (LO (za) (za) _)) x fun o4 =>
 some o4
theorem qH (n : Nat) (x : za) : Le (Zq n x) (zY x) := by
 unfold Zq zY
 exact (.loop (fun _ => (.bind (zf n _) fun _ => (.bind (ZV n _) fun _ => (.bif .rfl .rfl)))) fun _ => .rfl)
def Qb (n : Nat) (x : za) : Option (Bool × za) :=
 zO (X := za) (
   zb (zg n (0, x)) fun y1 =>
   bif bif y1 == 43 then true else y1 == 45 then
    some (LX.out (⟨x.s, w64 (x.at_ + 1)⟩ : za))
   else
    some (LX.out x)) fun j2 =>
 zb (Zq n j2) fun y3 =>
 zO (X := Bool × za) (
   zb (zg n (0, y3)) fun y4 =>
   zb (zy (y4 == 46) (zg n (1, y3)) (default : Int)) fun y5 =>
   zb (zy (y4 == 46) (qx n y5) (default : Bool)) fun y6 =>
   bif bif y4 == 46 then y6 else false then
    zb (Zq n (⟨y3.s, w64 (y3.at_ + 1)⟩ : za)) fun y7 =>
    some (LX.out (false, y7))
   else
    some (LX.out (true, y3))) fun j8 =>
 zO (X := Bool × za) (
   zb (zg n (0, j8.2)) fun y9 =>
   zb (zy (!(y9 == 101)) (zg n (0, j8.2)) (default : Int)) fun y10 =>
   bif bif y9 == 101 then true else y10 == 69 then
    zO (X := (Bool × Int) × za) (
      zb (zg n (1, j8.2)) fun y11 =>
      bif bif y11 == 43 then true else y11 == 45 then
       some (LX.out ((j8.1, 2), j8.2))
      else
       some (LX.out ((j8.1, 1), j8.2))) fun j12 =>
    zb (zg n (j12.1.2, j12.2)) fun y13 =>
    zb (qx n y13) fun y14 =>
    bif y14 then
     zb (Zq n (⟨j12.2.s, w64 (j12.2.at_ + j12.1.2)⟩ : za)) fun y15 =>
     some (LX.out (false, y15))
    else
     some (LX.out (j12.1.1, j12.2))
   else
    some (LX.out (j8.1, j8.2))) fun j16 =>
 some (j16.1, j16.2)
theorem zcg (n : Nat) (x : za) : Le (Qb n x) (ZC x) := by
 unfold Qb ZC
 exact (.join (.bind (zf n _) fun _ => (.bif .rfl .rfl)) fun _ => (.bind (qH n _) fun _ => (.join (.bind (zf n _) fun _ => (.bind (.cond (zf n _)) fun _ => (.bind (.cond (ZV n _)) fun _ => (.bif (.bind (qH n _) fun _ => .rfl) .rfl)))) fun _ => (.join (.bind (zf n _) fun _ => (.bind (.cond (zf n _)) fun _ => (.bif (.join (.bind (zf n _) fun _ => (.bif .rfl .rfl)) fun _ => (.bind (zf n _) fun _ => (.bind (ZV n _) fun _ => (.bif (.bind (qH n _) fun _ => .rfl) .rfl)))) .rfl))) fun _ => .rfl))))
def Q7 (n : Nat) (x : Str) : Option Int :=
 zb (geti x 0) fun y1 =>
 zb (zjL n (x, [43, 45])) fun y2 =>
 zO (X := Str × Int) (
   zb (zgP n (y2, [101, 69])) fun y3 =>
   bif decide (y3 ≥ 0) then
    need (decide (0 ≤ w64 (y3 + 1)) && decide (w64 (y3 + 1) ≤ (y2.length : Int))) <|
    zb (zjL n (List.drop (w64 (y3 + 1)).toNat y2, [43, 45])) fun y4 =>
    need (decide (y4.length ≤ maxLen)) <|
    zbp n (fun (s5 : Int × Int) =>
      bif decide (s5.2 < (y4.length : Int)) then
       need (decide (0 ≤ s5.2) && decide (s5.2 < (y4.length : Int))) <|
       zb y4[s5.2.toNat]? fun y6 =>
       some (LO.again (if 1048576 < w64 (w64 (10 * s5.1) + w64 (wu8 ((y6.toNat : Int) - 48))) then 1048576 else w64 (w64 (10 * s5.1) + w64 (wu8 ((y6.toNat : Int) - 48))), w64 (s5.2 + 1)))
      else
       some (LO.out s5.1) : Int × Int → Option (LO (Int × Int) (Int) _)) (0, 0) fun o7 =>
    zO (X := Str × Int × Int) (
      zb (geti y2 (w64 (y3 + 1))) fun y8 =>
      bif (y8.toNat : Int) == 45 then
       some (LX.out (y2, 3, w64 (0 - o7)))
      else
       some (LX.out (y2, 3, o7))) fun j9 =>
    need (decide (0 ≤ y3) && decide (y3 ≤ (j9.1.length : Int))) <|
    some (LX.out (List.take y3.toNat j9.1, w64 (j9.2.1 + j9.2.2)))
   else
    some (LX.out (y2, 3))) fun j10 =>
 zb (zq3 n (j10.1, [46])) fun y11 =>
 need (zjC y11.1.length y11.2.1.length) <|
 zO (X := Str × Int) (
   bif decide (w64 (j10.2 - (y11.2.1.length : Int)) < 0) then
    need (decide (0 ≤ (if w64 (((y11.1 ++ y11.2.1).length : Int) + w64 (j10.2 - (y11.2.1.length : Int))) > 0 then w64 (((y11.1 ++ y11.2.1).length : Int) + w64 (j10.2 - (y11.2.1.length : Int))) else 0)) && decide ((if w64 (((y11.1 ++ y11.2.1).length : Int) + w64 (j10.2 - (y11.2.1.length : Int))) > 0 then w64 (((y11.1 ++ y11.2.1).length : Int) + w64 (j10.2 - (y11.2.1.length : Int))) else 0) ≤ ((y11.1 ++ y11.2.1).length : Int))) <|
    some (LX.out (List.take (if w64 (((y11.1 ++ y11.2.1).length : Int) + w64 (j10.2 - (y11.2.1.length : Int))) > 0 then w64 (((y11.1 ++ y11.2.1).length : Int) + w64 (j10.2 - (y11.2.1.length : Int))) else 0).toNat (y11.1 ++ y11.2.1), w64 (j10.2 - (y11.2.1.length : Int))))
   else
    some (LX.out (y11.1 ++ y11.2.1, w64 (j10.2 - (y11.2.1.length : Int))))) fun j12 =>
 need (decide (j12.1.length ≤ maxLen)) <|
 zbp n (fun (s13 : Int × Int) =>
   bif decide (s13.2 < (j12.1.length : Int)) then
    need (decide (0 ≤ s13.2) && decide (s13.2 < (j12.1.length : Int))) <|
    zb j12.1[s13.2.toNat]? fun y14 =>
    some (LO.again (if 1000000000000 < w64 (w64 (10 * s13.1) + w64 (wu8 ((y14.toNat : Int) - 48))) then 1000000000000 else w64 (w64 (10 * s13.1) + w64 (wu8 ((y14.toNat : Int) - 48))), w64 (s13.2 + 1)))
   else
    some (LO.out s13.1) : Int × Int → Option (LO (Int × Int) (Int) _)) (0, 0) fun o15 =>
 zbp n (fun (s16 : Int × Int) =>
   bif bif bif decide (s16.1 > 0) then decide (s16.2 > 0) else false then decide (s16.2 < 1000000000000) else false then
    some (LO.again (w64 (s16.1 - 1), if 1000000000000 < w64 (10 * s16.2) then 1000000000000 else w64 (10 * s16.2)))
   else
    some (LO.out s16.2) : Int × Int → Option (LO (Int × Int) (Int) _)) (j12.2, o15) fun o17 =>
 zO (X := Int) (
   bif (y1.toNat : Int) == 45 then
    some (LX.out (w64 (0 - o17)))
   else
    some (LX.out o17)) fun j18 =>
 some j18
theorem zdM (n : Nat) (x : Str) : Le (Q7 n x) (qN x) := by
 unfold Q7 qN
 exact (.bind .rfl fun _ => (.bind (zkL n _) fun _ => (.join (.bind (zkJ n _) fun _ => (.bif (.need (.bind (zkL n _) fun _ => (.need (.loop (fun _ => (.bif (.need (.bind .rfl fun _ => .rfl)) .rfl)) fun _ => (.join (.bind .rfl fun _ => (.bif .rfl .rfl)) fun _ => (.need .rfl)))))) .rfl)) fun _ => (.bind (zrF n _) fun _ => (.need (.join (.bif (.need .rfl) .rfl) fun _ => (.need (.loop (fun _ => (.bif (.need (.bind .rfl fun _ => .rfl)) .rfl)) fun _ => (.loop (fun _ => (.bif .rfl .rfl)) fun _ => (.join (.bif .rfl .rfl) fun _ => .rfl))))))))))
def Qc (n : Nat) (x : za) : Option (zh × za) :=
 zb (Qb n x) fun y1 =>
 need (decide (0 ≤ x.at_) && (decide (x.at_ ≤ y1.2.at_) && decide (y1.2.at_ ≤ (y1.2.s.length : Int)))) <|
 zb (Q7 n (List.drop x.at_.toNat (List.take y1.2.at_.toNat y1.2.s))) fun y2 =>
 zO (X := za × zh × zh) (
   zb (Zu n (0, y1.2)) fun y3 =>
   bif y3 then
    zb (Zv n y1.2) fun y4 =>
    some (LX.out (y4.2, (⟨0, [], 0, [], false⟩ : zh), (⟨12, [], y2, y4.1, y1.1⟩ : zh)))
   else
    zb (zg n (0, y1.2)) fun y5 =>
    bif y5 == 37 then
     some (LX.out ((⟨y1.2.s, w64 (y1.2.at_ + 1)⟩ : za), (⟨0, [], 0, [], false⟩ : zh), (⟨11, [], y2, [], false⟩ : zh)))
    else
     some (LX.out (y1.2, (⟨0, [], 0, [], false⟩ : zh), (⟨10, [], y2, [], y1.1⟩ : zh)))) fun j6 =>
 some (j6.2.2, j6.1)
theorem zch (n : Nat) (x : za) : Le (Qc n x) (ZE x) := by
 unfold Qc ZE
 exact (.bind (zcg n _) fun _ => (.need (.bind (zdM n _) fun _ => (.join (.bind (qj n _) fun _ => (.bif (.bind (ql n _) fun _ => .rfl) (.bind (zf n _) fun _ => (.bif .rfl .rfl)))) fun _ => .rfl))))
def Z7 (n : Nat) (x : za) : Option (zh × za) :=
 zbp n (fun (s1 : za × zh) =>
   zb (zg n (0, s1.1)) fun y2 =>
   bif y2 == (-1) then
    some (LO.ret ((⟨8, [], 0, [], false⟩ : zh), s1.1))
   else
    zb (zK n (0, s1.1)) fun y3 =>
    bif y3 then
     zb (qA n s1.1) fun y4 =>
     some (LO.again (y4.1, s1.2))
    else
     zb (geti s1.1.s (w64 (w64 (s1.1.at_ + 1) - 1))) fun y5 =>
     bif (y5.toNat : Int) == 41 then
      some (LO.ret ((⟨8, [], 0, [], false⟩ : zh), (⟨s1.1.s, w64 (s1.1.at_ + 1)⟩ : za)))
     else
      some (LO.again ((⟨s1.1.s, w64 (s1.1.at_ + 1)⟩ : za), s1.2)) : za × zh → Option (LO (za × zh) (Unit) _)) (x, (⟨0, [], 0, [], false⟩ : zh)) fun o6 =>
 none
theorem QK (n : Nat) (x : za) : Le (Z7 n x) (Zz x) := by
 unfold Z7 Zz
 exact (.loop (fun _ => (.bind (zf n _) fun _ => (.bif .rfl (.bind (Za n _) fun _ => (.bif (.bind (zbK n _) fun _ => .rfl) (.bind .rfl fun _ => (.bif .rfl .rfl))))))) fun _ => .none)
def Q6 (n : Nat) (x : za) : Option (zh × za) :=
 zb (Zl n x) fun y1 =>
 zbp n (fun (s2 : za × zh × List UInt8) =>
   zb (zg n (0, s2.1)) fun y3 =>
   zO (X := Int × za × zh × List UInt8) (
     zb (Qd n y3) fun y4 =>
     bif y4 then
      zb (Zl n s2.1) fun y5 =>
      zb (zg n (0, y5)) fun y6 =>
      bif bif y6 != 41 then y6 != (-1) else false then
       zb (Z7 n y5) fun y7 =>
       some (LX.ret (LO.ret (y7.1, y7.2)))
      else
       some (LX.out (y6, y5, s2.2.1, s2.2.2))
     else
      some (LX.out (y3, s2.1, s2.2.1, s2.2.2))) fun j8 =>
   bif j8.1 == (-1) then
    some (LO.ret ((⟨7, j8.2.2.2, 0, [], false⟩ : zh), j8.2.1))
   else
    bif j8.1 == 41 then
     some (LO.ret ((⟨7, j8.2.2.2, 0, [], false⟩ : zh), (⟨j8.2.1.s, w64 (j8.2.1.at_ + 1)⟩ : za)))
    else
     zb (zy (!(bif bif bif bif j8.1 == 34 then true else j8.1 == 39 then true else j8.1 == 40 then true else decide (j8.1 ≤ 8) then true else j8.1 == 11)) (Ql n (j8.1, 14, 31)) (default : Bool)) fun y9 =>
     bif bif bif bif bif bif bif j8.1 == 34 then true else j8.1 == 39 then true else j8.1 == 40 then true else decide (j8.1 ≤ 8) then true else j8.1 == 11 then true else y9 then true else j8.1 == 127 then
      zb (Z7 n j8.2.1) fun y10 =>
      some (LO.ret (y10.1, y10.2))
     else
      bif j8.1 != 92 then
       zb (zW (wu8 j8.1)) fun y11 =>
       need (zB j8.2.2.2.length 1 1) <|
       some (LO.again ((⟨j8.2.1.s, w64 (j8.2.1.at_ + 1)⟩ : za), j8.2.2.1, j8.2.2.2 ++ [y11]))
      else
       zb (zK n (0, j8.2.1)) fun y12 =>
       bif y12 then
        zb (Zf n (j8.2.1, j8.2.2.2)) fun y13 =>
        some (LO.again (y13.1, j8.2.2.1, y13.2))
       else
        zb (Z7 n j8.2.1) fun y14 =>
        some (LO.ret (y14.1, y14.2)) : za × zh × List UInt8 → Option (LO (za × zh × List UInt8) (Unit) _)) (y1, (⟨0, [], 0, [], false⟩ : zh), []) fun o15 =>
 none
theorem zdL (n : Nat) (x : za) : Le (Q6 n x) (qM x) := by
 unfold Q6 qM
 exact (.bind (qb n _) fun _ => (.loop (fun _ => (.bind (zf n _) fun _ => (.join (.bind (qz n _) fun _ => (.bif (.bind (qb n _) fun _ => (.bind (zf n _) fun _ => (.bif (.bind (QK n _) fun _ => .rfl) .rfl))) .rfl)) fun _ => (.bif .rfl (.bif .rfl (.bind (.cond (zax n _)) fun _ => (.bif (.bind (QK n _) fun _ => .rfl) (.bif (.bind .rfl fun _ => (.need .rfl)) (.bind (Za n _) fun _ => (.bif (.bind (qc n _) fun _ => .rfl) (.bind (QK n _) fun _ => .rfl))))))))))) fun _ => .none))
def Qz (n : Nat) (x : za) : Option (zh × za) :=
 zb (Zv n x) fun y1 =>
 zb (zg n (0, y1.2)) fun y2 =>
 bif y2 != 40 then
  some ((⟨1, y1.1, 0, [], false⟩ : zh), y1.2)
 else
  zO (X := za × zh) (
    zb (zbk n (y1.1, [117, 114, 108])) fun y3 =>
    bif y3 then
     zb (Zl n (⟨y1.2.s, w64 (y1.2.at_ + 1)⟩ : za)) fun y4 =>
     zb (zg n (0, y4)) fun y5 =>
     bif bif y5 != 34 then y5 != 39 else false then
      zb (Q6 n (⟨y1.2.s, w64 (y1.2.at_ + 1)⟩ : za)) fun y6 =>
      some (LX.ret (y6.1, y6.2))
     else
      some (LX.out ((⟨y1.2.s, w64 (y1.2.at_ + 1)⟩ : za), (⟨0, [], 0, [], false⟩ : zh)))
    else
     some (LX.out ((⟨y1.2.s, w64 (y1.2.at_ + 1)⟩ : za), (⟨0, [], 0, [], false⟩ : zh)))) fun j7 =>
  some ((⟨2, y1.1, 0, [], false⟩ : zh), j7.1)
theorem zcR (n : Nat) (x : za) : Le (Qz n x) (zM x) := by
 unfold Qz zM
 exact (.bind (ql n _) fun _ => (.bind (zf n _) fun _ => (.bif .rfl (.join (.bind (zd0 n _) fun _ => (.bif (.bind (qb n _) fun _ => (.bind (zf n _) fun _ => (.bif (.bind (zdL n _) fun _ => .rfl) .rfl))) .rfl)) fun _ => .rfl))))
def QO (n : Nat) (x : za) : Option (zh × za) :=
 zb (zg n (0, x)) fun y1 =>
 need (decide (0 ≤ x.at_) && decide (x.at_ ≤ (x.s.length : Int))) <|
 zb (Qd n y1) fun y2 =>
 bif y2 then
  zb (Zl n x) fun y3 =>
  some ((⟨13, [], 0, [], false⟩ : zh), y3)
 else
  bif bif y1 == 34 then true else y1 == 39 then
   zb (Qo n x) fun y4 =>
   some (y4.1, y4.2)
  else
   zb (zy (y1 == 35) (zg n (1, x)) (default : Int)) fun y5 =>
   zb (zy (y1 == 35) (za1 n y5) (default : Bool)) fun y6 =>
   zb (zy (!y6 && y1 == 35) (zK n (1, x)) (default : Bool)) fun y7 =>
   bif bif y1 == 35 then bif y6 then true else y7 else false then
    zb (Zu n (1, x)) fun y8 =>
    zb (Zv n (⟨x.s, w64 (x.at_ + 1)⟩ : za)) fun y9 =>
    some ((⟨4, y9.1, 0, [], y8⟩ : zh), y9.2)
   else
    zb (Qn n x) fun y10 =>
    bif y10 then
     zb (Qc n x) fun y11 =>
     some (y11.1, y11.2)
    else
     zb (zX n (List.drop x.at_.toNat x.s, [45, 45, 62])) fun y12 =>
     bif y12 then
      some ((⟨15, [], 0, [], false⟩ : zh), (⟨x.s, w64 (x.at_ + 3)⟩ : za))
     else
      zb (zX n (List.drop x.at_.toNat x.s, [60, 33, 45, 45])) fun y13 =>
      bif y13 then
       some ((⟨14, [], 0, [], false⟩ : zh), (⟨x.s, w64 (x.at_ + 4)⟩ : za))
      else
       zb (zy (y1 == 64) (Zu n (1, x)) (default : Bool)) fun y14 =>
       bif bif y1 == 64 then y14 else false then
        zb (Zv n (⟨x.s, w64 (x.at_ + 1)⟩ : za)) fun y15 =>
        some ((⟨3, y15.1, 0, [], false⟩ : zh), y15.2)
       else
        zb (Zu n (0, x)) fun y16 =>
        bif y16 then
         zb (Qz n x) fun y17 =>
         some (y17.1, y17.2)
        else
         zb (Zi n ([58, 59, 44, 91, 93, 40, 41, 123, 125], wu8 y1)) fun y18 =>
         bif decide (y18 ≥ 0) then
          some ((⟨wu8 (16 + wu8 y18), [], 0, [], false⟩ : zh), (⟨x.s, w64 (x.at_ + 1)⟩ : za))
         else
          need (decide (1 ≤ ((List.drop x.at_.toNat x.s).length : Int))) <|
          some ((⟨9, List.take 1 (List.drop x.at_.toNat x.s), 0, [], false⟩ : zh), (⟨x.s, w64 (x.at_ + 1)⟩ : za))
theorem zde (n : Nat) (x : za) : Le (QO n x) (Zd x) := by
 unfold QO Zd
 exact (.bind (zf n _) fun _ => (.need (.bind (qz n _) fun _ => (.bif (.bind (qb n _) fun _ => .rfl) (.bif (.bind (zcE n _) fun _ => .rfl) (.bind (.cond (zf n _)) fun _ => (.bind (.cond (zaw n _)) fun _ => (.bind (.cond (Za n _)) fun _ => (.bif (.bind (qj n _) fun _ => (.bind (ql n _) fun _ => .rfl)) (.bind (zcD n _) fun _ => (.bif (.bind (zch n _) fun _ => .rfl) (.bind (Zt n _) fun _ => (.bif .rfl (.bind (Zt n _) fun _ => (.bif .rfl (.bind (.cond (qj n _)) fun _ => (.bif (.bind (ql n _) fun _ => .rfl) (.bind (qj n _) fun _ => (.bif (.bind (zcR n _) fun _ => .rfl) (.bind (ZN n _) fun _ => (.bif .rfl (.need .rfl))))))))))))))))))))))
def zaH (n : Nat) (x : (zh × Int × Int) × List zh) : Option (List zh) :=
 need (zB x.2.length 1 56) <|
 some (x.2 ++ [x.1.1])
theorem zep (n : Nat) (x : (zh × Int × Int) × List zh) : Le (zaH n x) (qg x) := by
 unfold zaH qg
 exact (.need .rfl)
def zb7 (n : Nat) (x : Str) : Option (Int × List zh) :=
 zb (zmw n x) fun y1 =>
 bif y1.2 != 0 then
  some (y1.2, [])
 else
  zb (ZI n (⟨y1.1, 0⟩ : za)) fun y2 =>
  zbp n (fun (s3 : Int × List zh × za) =>
    bif decide (s3.2.2.at_ < (y1.1.length : Int)) then
     bif decide (w64 (s3.1 + 1) > 1500) then
      some (LO.ret (4, s3.2.1))
     else
      zb (QO n s3.2.2) fun y4 =>
      zb (zaH n ((y4.1, s3.2.2.at_, y4.2.at_), s3.2.1)) fun y5 =>
      zb (ZI n y4.2) fun y6 =>
      some (LO.again (w64 (s3.1 + 1), y5, y6))
    else
     some (LO.out (s3.2.1, s3.2.2)) : Int × List zh × za → Option (LO (Int × List zh × za) (List zh × za) _)) (0, [], y2) fun o7 =>
  some (0, o7.1)
theorem zgW (n : Nat) (x : Str) : Le (zb7 n x) (zai x) := by
 unfold zb7 zai
 exact (.bind (zoT n _) fun _ => (.bif .rfl (.bind (QT n _) fun _ => (.loop (fun _ => (.bif (.bif .rfl (.bind (zde n _) fun _ => (.bind (zep n _) fun _ => (.bind (QT n _) fun _ => .rfl)))) .rfl)) fun _ => .rfl))))
def zb6 (n : Nat) (x : Str) : Option (List zh × Int) :=
 zb (zb7 n x) fun y1 =>
 bif y1.1 != 0 then
  some ([], y1.1)
 else
  some (y1.2, 0)
theorem zgV (n : Nat) (x : Str) : Le (zb6 n x) (qw x) := by
 unfold zb6 qw
 exact (.bind (zgW n _) fun _ => (.bif .rfl .rfl))
def QM (n : Nat) (x : List zh × List zh) : Option Bool :=
 bif (x.1.length : Int) != (x.2.length : Int) then
  some false
 else
  zbp n (fun (s1 : Int) =>
    bif decide (s1 < (x.1.length : Int)) then
     zb (geti x.1 s1) fun y2 =>
     zb (geti x.2 s1) fun y3 =>
     bif !(y2.kind == y3.kind && (y2.text == y3.text && (y2.num == y3.num && (y2.unit == y3.unit && (y2.flag == y3.flag && true))))) then
      some (LO.ret false)
     else
      some (LO.again (w64 (s1 + 1)))
    else
     some (LO.out ()) : Int → Option (LO (Int) (Unit) _)) 0 fun o4 =>
  some true
theorem zdc (n : Nat) (x : List zh × List zh) : Le (QM n x) (qp x) := by
 unfold QM qp
 exact (.bif .rfl (.loop (fun _ => (.bif (.bind .rfl fun _ => (.bind .rfl fun _ => (.bif .rfl .rfl))) .rfl)) fun _ => .rfl))
def zc6 (n : Nat) (x : List zh) : Option (Str × Int) :=
 zb (zc5 n x) fun y1 =>
 bif y1 != 0 then
  some ([], y1)
 else
  zbp n (fun (s2 : Int × List UInt8 × List zq) =>
    bif decide (s2.1 < (x.length : Int)) then
     need (decide (0 ≤ s2.1) && decide (s2.1 ≤ (x.length : Int))) <|
     zb (zbR n (List.drop s2.1.toNat x)) fun y3 =>
     need (decide (0 ≤ s2.1) && (decide (s2.1 ≤ w64 (s2.1 + y3)) && decide (w64 (s2.1 + y3) ≤ (x.length : Int)))) <|
     zbp n (fun (s4 : Int × List UInt8) =>
       bif decide (s4.1 < ((List.drop s2.1.toNat (List.take (w64 (s2.1 + y3)).toNat x)).length : Int)) then
        zb (geti (List.drop s2.1.toNat (List.take (w64 (s2.1 + y3)).toNat x)) s4.1) fun y5 =>
        zb (zcB n (y5, s4.2)) fun y6 =>
        some (LO.again (w64 (s4.1 + 1), y6))
       else
        some (LO.out s4.2) : Int × List UInt8 → Option (LO (Int × List UInt8) (List UInt8) _)) (0, []) fun o7 =>
     zO (X := Int × List UInt8 × List zq × List UInt8) (
       zb (geti x s2.1) fun y8 =>
       bif bif y8.kind == 9 then y3 == 2 else false then
        some (LX.out (s2.1, s2.2.1, s2.2.2, [(92 : UInt8), (10 : UInt8)]))
       else
        some (LX.out (s2.1, s2.2.1, s2.2.2, o7))) fun j9 =>
     zO (X := Int × List UInt8 × List zq × zq) (
       bif decide (w64 ((j9.2.2.1.length : Int) - 4) ≥ 0) then
        need (decide (0 ≤ w64 ((j9.2.2.1.length : Int) - 4)) && decide (w64 ((j9.2.2.1.length : Int) - 4) < (j9.2.2.1.length : Int))) <|
        zb (j9.2.2.1[(w64 ((j9.2.2.1.length : Int) - 4)).toNat]?) fun y10 =>
        some (LX.out (j9.1, j9.2.1, j9.2.2.1, y10))
       else
        some (LX.out (j9.1, j9.2.1, j9.2.2.1, (⟨0, 0⟩ : zq)))) fun j11 =>
     need (decide (0 ≤ j11.2.2.2.at_) && decide (j11.2.2.2.at_ ≤ (j11.2.1.length : Int))) <|
     need (decide (j11.2.2.2.at_.toNat + (j11.2.1.length - j11.2.2.2.at_.toNat) ≤ j11.2.1.length)) <|
     need (zjC (List.take (j11.2.1.length - j11.2.2.2.at_.toNat) (List.drop j11.2.2.2.at_.toNat j11.2.1)).length j9.2.2.2.length) <|
     zb (zb6 n (List.take (j11.2.1.length - j11.2.2.2.at_.toNat) (List.drop j11.2.2.2.at_.toNat j11.2.1) ++ j9.2.2.2)) fun y12 =>
     zO (X := Int × List zq × List UInt8) (
       need (decide (0 ≤ j11.2.2.2.token) && (decide (j11.2.2.2.token ≤ w64 (j11.1 + y3)) && decide (w64 (j11.1 + y3) ≤ (x.length : Int))) || !(!(y12.2 != 0))) <|
       zb (zy (!(y12.2 != 0)) (QM n (y12.1, List.drop j11.2.2.2.token.toNat (List.take (w64 (j11.1 + y3)).toNat x))) (default : Bool)) fun y13 =>
       bif bif y12.2 != 0 then true else !y13 then
        need (zB j11.2.1.length ([47, 42, 42, 47] : Str).length 1) <|
        some (LX.out (j11.1, j11.2.2.1, j11.2.1 ++ ([47, 42, 42, 47] : Str)))
       else
        some (LX.out (j11.1, j11.2.2.1, j11.2.1))) fun j14 =>
     need (zB j14.2.1.length 1 16) <|
     need (zB j14.2.2.length j9.2.2.2.length 1) <|
     bif decide (((j14.2.2 ++ j9.2.2.2).length : Int) > 4000) then
      some (LO.ret ([], 28))
     else
      some (LO.again (w64 (j14.1 + y3), j14.2.2 ++ j9.2.2.2, j14.2.1 ++ [(⟨j14.1, (j14.2.2.length : Int)⟩ : zq)]))
    else
     some (LO.out s2.2.1) : Int × List UInt8 × List zq → Option (LO (Int × List UInt8 × List zq) (List UInt8) _)) (0, [], []) fun o15 =>
  some (o15, 0)
theorem zjf (n : Nat) (x : List zh) : Le (zc6 n x) (zcc x) := by
 unfold zc6 zcc
 exact (.bind (zcC n _) fun _ => (.bif .rfl (.loop (fun _ => (.bif (.need (.bind (zeO n _) fun _ => (.need (.loop (fun _ => (.bif (.bind .rfl fun _ => (.bind (zhL n _) fun _ => .rfl)) .rfl)) fun _ => (.join (.bind .rfl fun _ => (.bif .rfl .rfl)) fun _ => (.join (.bif (.need (.bind .rfl fun _ => .rfl)) .rfl) fun _ => (.need (.need (.need (.bind (zgV n _) fun _ => (.join (.need (.bind (.cond (zdc n _)) fun _ => (.bif (.need .rfl) .rfl))) fun _ => (.need (.need (.bif .rfl .rfl)))))))))))))) .rfl)) fun _ => .rfl)))
def ZU (n : Nat) (x : Str × List zh) : Option Bool :=
 zb (zc6 n x.2) fun y1 =>
 some (bif y1.2 == 0 then y1.1 == x.1 else false)
theorem zF (n : Nat) (x : Str × List zh) : Le (ZU n x) (zI x) := by
 unfold ZU zI
 exact (.bind (zjf n _) fun _ => .rfl)
def zeN (n : Nat) (x : Unit) : Option Bool :=
 zb (QC n [49, 32, 97]) fun y1 =>
 zb (ZU n ([92, 51, 49, 32, 92, 50, 48, 32, 97], [y1])) fun y2 =>
 zb (zy y2 (ZU n ([34, 97, 92, 34, 92, 97, 32, 34], [(⟨5, [97, 34, 10], 0, [], false⟩ : zh)])) (default : Bool)) fun y3 =>
 zb (zy (bif y2 then y3 else false) (ZU n ([49, 46, 53, 92, 54, 53, 32, 51], [(⟨12, [], 1500, [101, 51], false⟩ : zh)])) (default : Bool)) fun y4 =>
 zb (zy (bif bif y2 then y3 else false then y4 else false) (QC n [97]) (default : zh)) fun y5 =>
 zb (zy (bif bif y2 then y3 else false then y4 else false) (QC n [98]) (default : zh)) fun y6 =>
 zb (zy (bif bif y2 then y3 else false then y4 else false) (ZU n ([97, 47, 42, 42, 47, 98], [y5, y6])) (default : Bool)) fun y7 =>
 zb (zy (bif bif bif y2 then y3 else false then y4 else false then y7 else false) (QC n [97]) (default : zh)) fun y8 =>
 zb (zy (bif bif bif y2 then y3 else false then y4 else false then y7 else false) (ZU n ([97, 58], [y8, (⟨16, [], 0, [], false⟩ : zh)])) (default : Bool)) fun y9 =>
 zb (zy (bif bif bif bif y2 then y3 else false then y4 else false then y7 else false then y9 else false) (ZU n ([50, 46, 48], [(⟨10, [], 2000, [], false⟩ : zh)])) (default : Bool)) fun y10 =>
 some (bif bif bif bif bif y2 then y3 else false then y4 else false then y7 else false then y9 else false then y10 else false)
theorem zhM (n : Nat) (x : Unit) : Le (zeN n x) (Qx x) := by
 unfold zeN Qx
 exact (.bind (zaZ n _) fun _ => (.bind (zF n _) fun _ => (.bind (.cond (zF n _)) fun _ => (.bind (.cond (zF n _)) fun _ => (.bind (.cond (zaZ n _)) fun _ => (.bind (.cond (zaZ n _)) fun _ => (.bind (.cond (zF n _)) fun _ => (.bind (.cond (zaZ n _)) fun _ => (.bind (.cond (zF n _)) fun _ => (.bind (.cond (zF n _)) fun _ => .rfl))))))))))
def zgL (n : Nat) (x : Str) : Option (Str × Int) :=
 zb (zy (!(x == [])) (Zi n (x, 0)) (default : Int)) fun y1 =>
 bif bif x == [] then true else decide (y1 ≥ 0) then
  some ([], 8)
 else
  zb (qQ n x) fun y2 =>
  zb (zcA n (x, y2)) fun y3 =>
  bif bif decide ((x.length : Int) > 4000) then true else decide ((y3.length : Int) > 4000) then
   some ([], 28)
  else
   some (y3, 0)
theorem zbS (n : Nat) (x : Str) : Le (zgL n x) (Qg x) := by
 unfold zgL Qg
 exact (.bind (.cond (ZN n _)) fun _ => (.bif .rfl (.bind (QE n _) fun _ => (.bind (zhK n _) fun _ => (.bif .rfl .rfl)))))
end Go.Lv.VT
