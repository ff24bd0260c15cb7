/- Laws for the plain texts: loops that look for something; bytes. -/
import Derived.Test.YtnfhfeipljhciaaGreatDoorLf
import Derived.Test.YtnfhfeipljhciaaGreatDoorTx
namespace Go.Lv.VT
abbrev big : Nat := 4194304
theorem ziv {α : Type} (b : Bool) (v d : α) : zy b (some v) d = some (bif b then v else d) := by cases b <;> rfl
end Go.Lv.VT

namespace Go.Lv.VT
set_option maxRecDepth 100000
def zmG (n : Nat) := zgO
theorem zo5 (n : Nat) (x) : Le (zmG n x) (zgO x) := .rfl
def zkR (n : Nat) := zen
theorem znM (n : Nat) (x) : Le (zkR n x) (zen x) := .rfl
def zjw (n : Nat) := zeR
theorem zk2 (n : Nat) (x) : Le (zjw n x) (zeR x) := .rfl
def zj4 (n : Nat) := zfe
theorem zk3 (n : Nat) (x) : Le (zj4 n x) (zfe x) := .rfl
def znb (n : Nat) := zcP
theorem zo6 (n : Nat) (x) : Le (znb n x) (zcP x) := .rfl
def zg1 (n : Nat) := za1
theorem zk1 (n : Nat) (x) : Le (zg1 n x) (za1 x) := .rfl
def zrh (n : Nat) := cutF
theorem zrP (n : Nat) (x) : Le (zrh n x) (cutF x) := .rfl
def zkH (n : Nat) := zbH
theorem znL (n : Nat) (x) : Le (zkH n x) (zbH x) := .rfl
def zih (n : Nat) := zdz
theorem zmd (n : Nat) (x) : Le (zih n x) (zdz x) := .rfl
def zif (n : Nat) := zal
theorem zmc (n : Nat) (x) : Le (zif n x) (zal x) := .rfl
def Qx (n : Nat) (x : Str) : Option zh :=
 some (⟨1, x, 0, [], false⟩ : zh)
theorem zaW (n : Nat) (x : Str) : Le (Qx n x) (Qp x) := by
 unfold Qx Qp
 exact .rfl
def Zl (n : Nat) (x : Str × Int) : Option Int :=
 zb (zkR n (x.1, x.2)) fun y1 =>
 some y1
theorem ZN (n : Nat) (x : Str × Int) : Le (Zl n x) (strings_IndexByte x) := by
 unfold Zl strings_IndexByte
 exact (.bind (znM n _) fun _ => .rfl)
def ZR (n : Nat) (x : Str × Str) : Option Bool :=
 need (decide (0 ≤ (x.2.length : Int)) && decide ((x.2.length : Int) ≤ (x.1.length : Int)) || !(decide ((x.1.length : Int) ≥ (x.2.length : Int)))) <|
 some (bif decide ((x.1.length : Int) ≥ (x.2.length : Int)) then List.take x.2.length x.1 == x.2 else false)
theorem zac (n : Nat) (x : Str × Str) : Le (ZR n x) (stringslite_HasPrefix x) := by
 unfold ZR stringslite_HasPrefix
 exact (.need .rfl)
def qE (n : Nat) (x : Str × Str) : Option Str :=
 zb (ZR n (x.1, x.2)) fun y1 =>
 bif y1 then
  need (decide (0 ≤ (x.2.length : Int)) && decide ((x.2.length : Int) ≤ (x.1.length : Int))) <|
  some (List.drop x.2.length x.1)
 else
  some x.1
theorem zb7 (n : Nat) (x : Str × Str) : Le (qE n x) (stringslite_TrimPrefix x) := by
 unfold qE stringslite_TrimPrefix
 exact (.bind (zac n _) fun _ => (.bif (.need .rfl) .rfl))
def QJ (n : Nat) (x : Str × Str) : Option Str :=
 zb (qE n (x.1, x.2)) fun y1 =>
 some y1
theorem zde (n : Nat) (x : Str × Str) : Le (QJ n x) (strings_TrimPrefix x) := by
 unfold QJ strings_TrimPrefix
 exact (.bind (zb7 n _) fun _ => .rfl)
def qH (n : Nat) (x : Int) : Option Bool :=
 some (bif decide (48 ≤ x) then decide (x ≤ 57) else false)
theorem Qy (n : Nat) (x : Int) : Le (qH n x) (Zy x) := by
 unfold qH Zy
 exact .rfl
def zaV (n : Nat) (x : Str) : Option Bool :=
 zb (QJ n (x, [45])) fun y1 =>
 zb (zy (!(y1 == [])) (geti y1 0) 0) fun y2 =>
 zb (zy (!(y1 == [])) (qH n (y2.toNat : Int)) (default : Bool)) fun y3 =>
 some (bif !(y1 == []) then y3 else false)
theorem zdc (n : Nat) (x : Str) : Le (zaV n x) (ZE x) := by
 unfold zaV ZE
 exact (.bind (zde n _) fun _ => (.bind .rfl fun _ => (.bind (.cond (Qy n _)) fun _ => .rfl)))
def zY (n : Nat) (x : Str × Str) : Option Bool :=
 zb (ZR n (x.1, x.2)) fun y1 =>
 some y1
theorem Zu (n : Nat) (x : Str × Str) : Le (zY n x) (strings_HasPrefix x) := by
 unfold zY strings_HasPrefix
 exact (.bind (zac n _) fun _ => .rfl)
def zbi (n : Nat) (x : Int) : Option Bool :=
 some (bif bif decide (97 ≤ ibOr IntKind.u8 x 32) then decide (ibOr IntKind.u8 x 32 ≤ 122) else false then decide (x < 128) else false)
theorem zd2 (n : Nat) (x : Int) : Le (zbi n x) (QY x) := by
 unfold zbi QY
 exact .rfl
def zab (n : Nat) (x : Int) : Option Bool :=
 zb (zbi n x) fun y1 =>
 zb (zy (!y1) (qH n x) (default : Bool)) fun y2 =>
 some (bif bif bif bif y1 then true else y2 then true else x == 95 then true else x == 45 then true else decide (x ≥ 128))
theorem zbn (n : Nat) (x : Int) : Le (zab n x) (Qb x) := by
 unfold zab Qb
 exact (.bind (zd2 n _) fun _ => (.bind (.cond (Qy n _)) fun _ => .rfl))
def zaA (n : Nat) (x : Str × Str) : Option Bool :=
 zb (zjw n (x.1, x.2)) fun y1 =>
 some (decide (y1 ≥ 0))
theorem zeq (n : Nat) (x : Str × Str) : Le (zaA n x) (strings_Contains x) := by
 unfold zaA strings_Contains
 exact (.bind (zk2 n _) fun _ => .rfl)
def zem (n : Nat) (x : zh) : Option Bool :=
 need (zjW x.text.length x.unit.length) <|
 zb (Zl n (x.text ++ x.unit, 0)) fun y1 =>
 zJ (X := Bool × Bool × Bool × Bool × Bool) (
   zJ (X := Bool × Bool × Bool × Bool × Bool × Bool) (
     bif x.kind == 1 then
      some (LX.out (false, false, false, false, decide (y1 < 0), x.kind == 1))
     else
      bif x.kind == 2 then
       some (LX.out (false, false, false, false, decide (y1 < 0), x.kind == 2))
      else
       some (LX.out (false, false, false, false, decide (y1 < 0), x.kind == 3))) fun j2 =>
   bif j2.2.2.2.2.2 then
    some (LX.out (true, j2.2.1, j2.2.2.1, j2.2.2.2.1, bif j2.2.2.2.2.1 then !(x.text == []) else false))
   else
    bif x.kind == 4 then
     zb (zy (!x.flag && (bif j2.2.2.2.2.1 then !(x.text == []) else false)) (zaV n x.text) (default : Bool)) fun y3 =>
     zb (zy (y3 && (!x.flag && (bif j2.2.2.2.2.1 then !(x.text == []) else false))) (zY n (x.text, [45, 45])) (default : Bool)) fun y4 =>
     some (LX.out (true, j2.2.1, j2.2.2.1, true, bif bif j2.2.2.2.2.1 then !(x.text == []) else false then bif bif x.flag then true else bif y3 then !y4 else false then true else x.text == [45] else false))
    else
     zJ (X := Bool × Bool × Bool × Bool × Bool × Bool) (
       bif x.kind == 5 then
        some (LX.out (j2.1, j2.2.1, j2.2.2.1, j2.2.2.2.1, j2.2.2.2.2.1, x.kind == 5))
       else
        some (LX.out (j2.1, j2.2.1, j2.2.2.1, j2.2.2.2.1, j2.2.2.2.2.1, x.kind == 7))) fun j5 =>
     bif j5.2.2.2.2.2 then
      some (LX.out (true, j5.2.1, j5.2.2.1, j5.2.2.2.1, j5.2.2.2.2.1))
     else
      bif x.kind == 9 then
       zb (zy (bif j5.2.2.2.2.1 then (x.text.length : Int) == 1 else false) (geti x.text 0) 0) fun y6 =>
       zb (zy (bif j5.2.2.2.2.1 then (x.text.length : Int) == 1 else false) (zab n (y6.toNat : Int)) (default : Bool)) fun y7 =>
       zb (zy (bif bif bif j5.2.2.2.2.1 then (x.text.length : Int) == 1 else false then !y7 else false then true else x.text == [45]) (zaA n ([32, 9, 10, 12, 13, 34, 39, 58, 59, 44, 91, 93, 40, 41, 123, 125], x.text)) (default : Bool)) fun y8 =>
       some (LX.out (true, j5.2.1, j5.2.2.1, j5.2.2.2.1, bif bif bif bif j5.2.2.2.2.1 then (x.text.length : Int) == 1 else false then !y7 else false then true else x.text == [45] then !y8 else false))
      else
       zJ (X := Bool × Bool × Bool × Bool × Bool) (
         bif x.kind == 10 then
          some (LX.out (j5.2.1, j5.2.2.1, j5.2.2.2.1, j5.2.2.2.2.1, x.kind == 10))
         else
          bif x.kind == 11 then
           some (LX.out (j5.2.1, j5.2.2.1, j5.2.2.2.1, j5.2.2.2.2.1, x.kind == 11))
          else
           some (LX.out (j5.2.1, j5.2.2.1, j5.2.2.2.1, j5.2.2.2.2.1, x.kind == 12))) fun j9 =>
       bif j9.2.2.2.2 then
        some (LX.out (j5.1, x.kind == 12, true, x.kind != 11, bif bif bif bif j9.2.2.2.1 then decide (x.num ≥ (-1000000000000)) else false then decide (x.num ≤ 1000000000000) else false then bif !x.flag then true else Int.tmod x.num 1000 == 0 else false then bif !(x.kind == 12) then true else !(x.unit == []) else false))
       else
        some (LX.out (j5.1, j9.1, j9.2.1, j9.2.2.1, bif decide (x.kind ≥ 13) then decide (x.kind ≤ 24) else false))) fun j10 =>
 some (bif bif bif bif j10.2.2.2.2 then bif j10.1 then true else x.text == [] else false then bif j10.2.1 then true else x.unit == [] else false then bif j10.2.2.1 then true else x.num == 0 else false then bif j10.2.2.2.1 then true else !x.flag else false)
theorem zk0 (n : Nat) (x : zh) : Le (zem n x) (zao x) := by
 unfold zem zao
 exact (.need (.bind (ZN n _) fun _ => (.join (.join (.bif .rfl (.bif .rfl .rfl)) fun _ => (.bif .rfl (.bif (.bind (.cond (zdc n _)) fun _ => (.bind (.cond (Zu n _)) fun _ => .rfl)) (.join (.bif .rfl .rfl) fun _ => (.bif .rfl (.bif (.bind .rfl fun _ => (.bind (.cond (zbn n _)) fun _ => (.bind (.cond (zeq n _)) fun _ => .rfl))) (.join (.bif .rfl (.bif .rfl .rfl)) fun _ => (.bif .rfl .rfl)))))))) fun _ => .rfl)))
def QN (n : Nat) (x : (Int × Int) × List zh) : Option Bool :=
 zb (zy (decide (x.1.1 < (x.2.length : Int))) (geti x.2 x.1.1) (default : zh)) fun y1 =>
 some (bif decide (x.1.1 < (x.2.length : Int)) then y1.kind == x.1.2 else false)
theorem zbL (n : Nat) (x : (Int × Int) × List zh) : Le (QN n x) (Qn x) := by
 unfold QN Qn
 exact (.bind .rfl fun _ => .rfl)
def zbm (n : Nat) (x : Str) : Option Str :=
 need (decide (x.length ≤ maxLen)) <|
 zbq n (fun (s1 : Int × List UInt8) =>
   bif decide (s1.1 < (x.length : Int)) then
    zJ (X := Int × List UInt8) (
      need (decide (0 ≤ s1.1) && decide (s1.1 < (s1.2.length : Int))) <|
      zb s1.2[s1.1.toNat]? fun y2 =>
      bif bif decide (65 ≤ (y2.toNat : Int)) then decide ((y2.toNat : Int) ≤ 90) else false then
       need (decide (0 ≤ s1.1) && decide (s1.1 < (s1.2.length : Int))) <|
       zb s1.2[s1.1.toNat]? fun y3 =>
       need (decide (0 ≤ s1.1) && decide (s1.1 < (s1.2.length : Int))) <|
       zb s1.2[s1.1.toNat]? fun y4 =>
       zb (zZ (ibOr IntKind.u8 (y3.toNat : Int) 32)) fun y5 =>
       some (LX.out (s1.1, List.set s1.2 s1.1.toNat y5))
      else
       some (LX.out (s1.1, s1.2))) fun j6 =>
    some (LO.again (w64 (j6.1 + 1), j6.2))
   else
    some (LO.out s1.2) : Int × List UInt8 → Option (LO (Int × List UInt8) (List UInt8) _)) (0, x) fun o7 =>
 some o7
theorem zd4 (n : Nat) (x : Str) : Le (zbm n x) (zaN x) := by
 unfold zbm zaN
 exact (.need (.loop (fun _ => (.bif (.join (.need (.bind .rfl fun _ => (.bif (.need (.bind .rfl fun _ => (.need (.bind .rfl fun _ => (.bind .rfl fun _ => .rfl))))) .rfl))) fun _ => .rfl) .rfl)) fun _ => .rfl))
def zbl (n : Nat) (x : Str × Str) : Option Bool :=
 zb (zbm n x.1) fun y1 =>
 zb (zbm n x.2) fun y2 =>
 some (y1 == y2)
theorem zd3 (n : Nat) (x : Str × Str) : Le (zbl n x) (Q0 x) := by
 unfold zbl Q0
 exact (.bind (zd4 n _) fun _ => (.bind (zd4 n _) fun _ => .rfl))
def zbY (n : Nat) (x : List zh) : Option Int :=
 zb (geti x 0) fun y1 =>
 bif bif y1.kind == 9 then y1.text == [92] else false then
  zb (QN n ((1, 13), x)) fun y2 =>
  bif !y2 then
   some 0
  else
   some 2
 else
  zb (zy (y1.kind == 2) (zbl n (y1.text, [117, 114, 108])) (default : Bool)) fun y3 =>
  bif bif y1.kind == 2 then y3 else false then
   zJ (X := Int) (
     zb (QN n ((1, 13), x)) fun y4 =>
     bif y4 then
      some (LX.out 2)
     else
      some (LX.out 1)) fun j5 =>
   zb (QN n ((j5, 5), x)) fun y6 =>
   bif !y6 then
    some 0
   else
    some (w64 (j5 + 1))
  else
   some 1
theorem zeU (n : Nat) (x : List zh) : Le (zbY n x) (zaM x) := by
 unfold zbY zaM
 exact (.bind .rfl fun _ => (.bif (.bind (zbL n _) fun _ => (.bif .rfl .rfl)) (.bind (.cond (zd3 n _)) fun _ => (.bif (.join (.bind (zbL n _) fun _ => (.bif .rfl .rfl)) fun _ => (.bind (zbL n _) fun _ => (.bif .rfl .rfl))) .rfl))))
def zc8 (n : Nat) (x : List zh) : Option Int :=
 bif decide ((x.length : Int) > 1500) then
  some 4
 else
  zbq n (fun (s1 : Int) =>
    bif decide (s1 < (x.length : Int)) then
     zb (geti x s1) fun y2 =>
     zb (zem n y2) fun y3 =>
     need (decide (0 ≤ s1) && decide (s1 ≤ (x.length : Int)) || !(!(!y3))) <|
     zb (zy (!(!y3)) (zbY n (List.drop s1.toNat x)) (default : Int)) fun y4 =>
     bif bif !y3 then true else y4 == 0 then
      some (LO.ret 8)
     else
      some (LO.again (w64 (s1 + 1)))
    else
     some (LO.out ()) : Int → Option (LO (Int) (Unit) _)) 0 fun o5 =>
  some 0
theorem zcD (n : Nat) (x : List zh) : Le (zc8 n x) (zaK x) := by
 unfold zc8 zaK
 exact (.bif .rfl (.loop (fun _ => (.bif (.bind .rfl fun _ => (.bind (zk0 n _) fun _ => (.need (.bind (.cond (zeU n _)) fun _ => (.bif .rfl .rfl))))) .rfl)) fun _ => .rfl))
def qI (n : Nat) (x : Str) : Option Int :=
 zb (zY n (x, [45])) fun y1 =>
 bif y1 then
  some 2
 else
  some 1
theorem Qz (n : Nat) (x : Str) : Le (qI n x) (Zt x) := by
 unfold qI Zt
 exact (.bind (Zu n _) fun _ => (.bif .rfl .rfl))
def Z0 (n : Nat) (x : Int × List UInt8) : Option (List UInt8) :=
 zb (zy (bif decide (x.1 > 32) then decide (x.1 < 127) else false) (qH n x.1) (default : Bool)) fun y1 =>
 zb (zy (bif bif decide (x.1 > 32) then decide (x.1 < 127) else false then !y1 else false) (zbi n x.1) (default : Bool)) fun y2 =>
 bif bif bif bif decide (x.1 > 32) then decide (x.1 < 127) else false then !y1 else false then !y2 else false then
  zb (zZ x.1) fun y3 =>
  need (zx x.2.length 2 1) <|
  some (x.2 ++ [(92 : UInt8), y3])
 else
  need (zx x.2.length 1 1) <|
  zb (zih n ((wu64 x.1, 16), x.2 ++ [(92 : UInt8)])) fun y4 =>
  need (zx y4.length 1 1) <|
  some (y4 ++ [(32 : UInt8)])
theorem qY (n : Nat) (x : Int × List UInt8) : Le (Z0 n x) (zP x) := by
 unfold Z0 zP
 exact (.bind (.cond (Qy n _)) fun _ => (.bind (.cond (zd2 n _)) fun _ => (.bif (.bind .rfl fun _ => (.need .rfl)) (.need (.bind (zmd n _) fun _ => (.need .rfl))))))
def zcB (n : Nat) (x : Str × Int) : Option (List UInt8) :=
 zbq n (fun (s1 : Int × List UInt8) =>
   bif decide (s1.1 < (x.1.length : Int)) then
    zJ (X := Int × List UInt8) (
      zb (geti x.1 s1.1) fun y2 =>
      zb (zab n (y2.toNat : Int)) fun y3 =>
      zb (zy (!(decide (s1.1 ≥ x.2)) && y3) (qH n (y2.toNat : Int)) (default : Bool)) fun y4 =>
      bif bif bif y3 then bif decide (s1.1 ≥ x.2) then true else !y4 else false then bif x.2 == 0 then true else !(x.1 == [45]) else false then
       zb (zZ (y2.toNat : Int)) fun y5 =>
       need (zx s1.2.length 1 1) <|
       some (LX.out (s1.1, s1.2 ++ [y5]))
      else
       zb (Z0 n ((y2.toNat : Int), s1.2)) fun y6 =>
       some (LX.out (s1.1, y6))) fun j7 =>
    some (LO.again (w64 (j7.1 + 1), j7.2))
   else
    some (LO.out s1.2) : Int × List UInt8 → Option (LO (Int × List UInt8) (List UInt8) _)) (0, []) fun o8 =>
 some o8
theorem zhZ (n : Nat) (x : Str × Int) : Le (zcB n x) (QZ x) := by
 unfold zcB QZ
 exact (.loop (fun _ => (.bif (.join (.bind .rfl fun _ => (.bind (zbn n _) fun _ => (.bind (.cond (Qy n _)) fun _ => (.bif (.bind .rfl fun _ => (.need .rfl)) (.bind (qY n _) fun _ => .rfl))))) fun _ => .rfl) .rfl)) fun _ => .rfl)
def qg (n : Nat) (x : (Str × Int) × List UInt8) : Option (List UInt8) :=
 zbq n (fun (s1 : Int × List UInt8) =>
   bif decide (s1.1 < (x.1.1.length : Int)) then
    zJ (X := Int × List UInt8) (
      zb (geti x.1.1 s1.1) fun y2 =>
      zb (zab n (y2.toNat : Int)) fun y3 =>
      zb (zy (!(decide (s1.1 ≥ x.1.2)) && y3) (qH n (y2.toNat : Int)) (default : Bool)) fun y4 =>
      bif bif bif y3 then bif decide (s1.1 ≥ x.1.2) then true else !y4 else false then bif x.1.2 == 0 then true else !(x.1.1 == [45]) else false then
       zb (zZ (y2.toNat : Int)) fun y5 =>
       need (zx s1.2.length 1 1) <|
       some (LX.out (s1.1, s1.2 ++ [y5]))
      else
       zb (Z0 n ((y2.toNat : Int), s1.2)) fun y6 =>
       some (LX.out (s1.1, y6))) fun j7 =>
    some (LO.again (w64 (j7.1 + 1), j7.2))
   else
    some (LO.out s1.2) : Int × List UInt8 → Option (LO (Int × List UInt8) (List UInt8) _)) (0, x.2) fun o8 =>
 some o8
theorem Qc (n : Nat) (x : (Str × Int) × List UInt8) : Le (qg n x) (Zk x) := by
 unfold qg Zk
 exact (.loop (fun _ => (.bif (.join (.bind .rfl fun _ => (.bind (zbn n _) fun _ => (.bind (.cond (Qy n _)) fun _ => (.bif (.bind .rfl fun _ => (.need .rfl)) (.bind (qY n _) fun _ => .rfl))))) fun _ => .rfl) .rfl)) fun _ => .rfl)
def zda (n : Nat) (x : Unit) : Option qd :=
 some (⟨[32], [60, 33, 45, 45], [45, 45, 62], [58], [59], [44], [91], [93], [40], [41], [123], [125]⟩ : qd)
theorem zjC (n : Nat) (x : Unit) : Le (zda n x) (zaL x) := by
 unfold zda zaL
 exact .rfl
def Qm (n : Nat) (x : (Int × Bool) × List UInt8) : Option (List UInt8) :=
 zJ (X := Int × List UInt8) (
   bif decide (x.1.1 < 0) then
    need (zx x.2.length 1 1) <|
    some (LX.out (w64 (0 - x.1.1), x.2 ++ [(45 : UInt8)]))
   else
    some (LX.out (x.1.1, x.2))) fun j1 =>
 zb (zif n ((w64 (Int.tdiv j1.1 1000), 10), j1.2)) fun y2 =>
 zb (zkH n (w64 (1000 + Int.tmod j1.1 1000), 10)) fun y3 =>
 need (decide (1 ≤ (y3.length : Int))) <|
 zb (znb n (List.drop 1 y3, [48])) fun y4 =>
 zJ (X := List UInt8) (
   bif !(y4 == []) then
    need (zx y2.length 1 1) <|
    need (zx (y2 ++ [(46 : UInt8)]).length y4.length 1) <|
    some (LX.out (y2 ++ [(46 : UInt8)] ++ y4))
   else
    bif x.1.2 then
     need (zx y2.length ([46, 48] : Str).length 1) <|
     some (LX.out (y2 ++ ([46, 48] : Str)))
    else
     some (LX.out y2)) fun j5 =>
 some j5
theorem za5 (n : Nat) (x : (Int × Bool) × List UInt8) : Le (Qm n x) (qO x) := by
 unfold Qm qO
 exact (.join (.bif (.need .rfl) .rfl) fun _ => (.bind (zmc n _) fun _ => (.bind (znL n _) fun _ => (.need (.bind (zo6 n _) fun _ => (.join (.bif (.need (.need .rfl)) (.bif (.need .rfl) .rfl)) fun _ => .rfl))))))
def zcC (n : Nat) (x : zh × List UInt8) : Option (List UInt8) :=
 bif x.1.kind == 1 then
  zb (qI n x.1.text) fun y1 =>
  zb (qg n ((x.1.text, y1), x.2)) fun y2 =>
  some y2
 else
  bif x.1.kind == 2 then
   zb (qI n x.1.text) fun y3 =>
   zb (qg n ((x.1.text, y3), x.2)) fun y4 =>
   need (zx y4.length 1 1) <|
   some (y4 ++ [(40 : UInt8)])
  else
   bif x.1.kind == 3 then
    need (zx x.2.length 1 1) <|
    zb (qI n x.1.text) fun y5 =>
    zb (qg n ((x.1.text, y5), x.2 ++ [(64 : UInt8)])) fun y6 =>
    some y6
   else
    bif x.1.kind == 4 then
     zJ (X := Int × List UInt8) (
       bif x.1.flag then
        zb (qI n x.1.text) fun y7 =>
        some (LX.out (y7, x.2))
       else
        some (LX.out (0, x.2))) fun j8 =>
     need (zx j8.2.length 1 1) <|
     zb (qg n ((x.1.text, j8.1), j8.2 ++ [(35 : UInt8)])) fun y9 =>
     some y9
    else
     bif x.1.kind == 5 then
      need (zx x.2.length 1 1) <|
      need (decide (x.1.text.length ≤ maxLen)) <|
      zbq n (fun (s10 : Int × List UInt8) =>
        bif decide (s10.1 < (x.1.text.length : Int)) then
         zJ (X := Int × List UInt8) (
           need (decide (0 ≤ s10.1) && decide (s10.1 < (x.1.text.length : Int))) <|
           zb x.1.text[s10.1.toNat]? fun y11 =>
           zb (Zl n ([10, 12, 13, 34, 92], (y11.toNat : Int))) fun y12 =>
           bif decide (y12 ≥ 0) then
            zb (Z0 n ((y11.toNat : Int), s10.2)) fun y13 =>
            some (LX.out (s10.1, y13))
           else
            zb (zZ (y11.toNat : Int)) fun y14 =>
            need (zx s10.2.length 1 1) <|
            some (LX.out (s10.1, s10.2 ++ [y14]))) fun j15 =>
         some (LO.again (w64 (j15.1 + 1), j15.2))
        else
         some (LO.out s10.2) : Int × List UInt8 → Option (LO (Int × List UInt8) (List UInt8) _)) (0, x.2 ++ [(34 : UInt8)]) fun o16 =>
      need (zx o16.length 1 1) <|
      some (o16 ++ [(34 : UInt8)])
     else
      bif x.1.kind == 7 then
       need (zx x.2.length ([117, 114, 108, 40] : Str).length 1) <|
       need (decide (x.1.text.length ≤ maxLen)) <|
       zbq n (fun (s17 : Int × List UInt8) =>
         bif decide (s17.1 < (x.1.text.length : Int)) then
          zJ (X := Int × List UInt8) (
            need (decide (0 ≤ s17.1) && decide (s17.1 < (x.1.text.length : Int))) <|
            zb x.1.text[s17.1.toNat]? fun y18 =>
            zb (zy (!(decide ((y18.toNat : Int) ≤ 32))) (Zl n ([34, 39, 40, 41, 92, 127], (y18.toNat : Int))) (default : Int)) fun y19 =>
            bif bif decide ((y18.toNat : Int) ≤ 32) then true else decide (y19 ≥ 0) then
             zb (Z0 n ((y18.toNat : Int), s17.2)) fun y20 =>
             some (LX.out (s17.1, y20))
            else
             zb (zZ (y18.toNat : Int)) fun y21 =>
             need (zx s17.2.length 1 1) <|
             some (LX.out (s17.1, s17.2 ++ [y21]))) fun j22 =>
          some (LO.again (w64 (j22.1 + 1), j22.2))
         else
          some (LO.out s17.2) : Int × List UInt8 → Option (LO (Int × List UInt8) (List UInt8) _)) (0, x.2 ++ ([117, 114, 108, 40] : Str)) fun o23 =>
       need (zx o23.length 1 1) <|
       some (o23 ++ [(41 : UInt8)])
      else
       bif x.1.kind == 9 then
        need (zx x.2.length x.1.text.length 1) <|
        some (x.2 ++ x.1.text)
       else
        bif x.1.kind == 10 then
         zb (Qm n ((x.1.num, !x.1.flag), x.2)) fun y24 =>
         some y24
        else
         bif x.1.kind == 11 then
          zb (Qm n ((x.1.num, false), x.2)) fun y25 =>
          need (zx y25.length 1 1) <|
          some (y25 ++ [(37 : UInt8)])
         else
          bif x.1.kind == 12 then
           zb (Qm n ((x.1.num, !x.1.flag), x.2)) fun y26 =>
           zb (geti x.1.unit 0) fun y27 =>
           need (decide (1 ≤ (x.1.unit.length : Int)) || !(ibOr IntKind.u8 (y27.toNat : Int) 32 == 101)) <|
           zb (zy (ibOr IntKind.u8 (y27.toNat : Int) 32 == 101) (zaV n (List.drop 1 x.1.unit)) (default : Bool)) fun y28 =>
           need (decide (1 ≤ (x.1.unit.length : Int)) || !(bif ibOr IntKind.u8 (y27.toNat : Int) 32 == 101 then y28 else false)) <|
           zb (zy (bif ibOr IntKind.u8 (y27.toNat : Int) 32 == 101 then y28 else false) (zY n (List.drop 1 x.1.unit, [45, 45])) (default : Bool)) fun y29 =>
           bif bif bif ibOr IntKind.u8 (y27.toNat : Int) 32 == 101 then y28 else false then !y29 else false then
            zb (geti x.1.unit 0) fun y30 =>
            zb (Z0 n ((y30.toNat : Int), y26)) fun y31 =>
            need (decide (1 ≤ (x.1.unit.length : Int))) <|
            zb (qg n ((List.drop 1 x.1.unit, 0), y31)) fun y32 =>
            some y32
           else
            zb (qI n x.1.unit) fun y33 =>
            zb (qg n ((x.1.unit, y33), y26)) fun y34 =>
            some y34
          else
           zb (zda n ()) fun y35 =>
           zb (geti [y35.e0, y35.e1, y35.e2, y35.e3, y35.e4, y35.e5, y35.e6, y35.e7, y35.e8, y35.e9, y35.e10, y35.e11] (wu8 (x.1.kind - 13))) fun y36 =>
           need (zx x.2.length y36.length 1) <|
           some (x.2 ++ y36)
theorem zh0 (n : Nat) (x : zh × List UInt8) : Le (zcC n x) (zbJ x) := by
 unfold zcC zbJ
 exact (.bif (.bind (Qz n _) fun _ => (.bind (Qc n _) fun _ => .rfl)) (.bif (.bind (Qz n _) fun _ => (.bind (Qc n _) fun _ => (.need .rfl))) (.bif (.need (.bind (Qz n _) fun _ => (.bind (Qc n _) fun _ => .rfl))) (.bif (.join (.bif (.bind (Qz n _) fun _ => .rfl) .rfl) fun _ => (.need (.bind (Qc n _) fun _ => .rfl))) (.bif (.need (.need (.loop (fun _ => (.bif (.join (.need (.bind .rfl fun _ => (.bind (ZN n _) fun _ => (.bif (.bind (qY n _) fun _ => .rfl) (.bind .rfl fun _ => (.need .rfl)))))) fun _ => .rfl) .rfl)) fun _ => (.need .rfl)))) (.bif (.need (.need (.loop (fun _ => (.bif (.join (.need (.bind .rfl fun _ => (.bind (.cond (ZN n _)) fun _ => (.bif (.bind (qY n _) fun _ => .rfl) (.bind .rfl fun _ => (.need .rfl)))))) fun _ => .rfl) .rfl)) fun _ => (.need .rfl)))) (.bif (.need .rfl) (.bif (.bind (za5 n _) fun _ => .rfl) (.bif (.bind (za5 n _) fun _ => (.need .rfl)) (.bif (.bind (za5 n _) fun _ => (.bind .rfl fun _ => (.need (.bind (.cond (zdc n _)) fun _ => (.need (.bind (.cond (Zu n _)) fun _ => (.bif (.bind .rfl fun _ => (.bind (qY n _) fun _ => (.need (.bind (Qc n _) fun _ => .rfl)))) (.bind (Qz n _) fun _ => (.bind (Qc n _) fun _ => .rfl))))))))) (.bind (zjC n _) fun _ => (.bind .rfl fun _ => (.need .rfl)))))))))))))
def ZJ (n : Nat) (x : za) : Option za :=
 zbq n (fun (s1 : za) =>
   need (decide (0 ≤ s1.at_) && decide (s1.at_ ≤ (s1.s.length : Int))) <|
   zb (zY n (List.drop s1.at_.toNat s1.s, [47, 42])) fun y2 =>
   bif y2 then
    need (decide (0 ≤ w64 (s1.at_ + 2)) && decide (w64 (s1.at_ + 2) ≤ (s1.s.length : Int))) <|
    zb (zjw n (List.drop (w64 (s1.at_ + 2)).toNat s1.s, [42, 47])) fun y3 =>
    bif decide (y3 < 0) then
     some (LO.ret (⟨s1.s, (s1.s.length : Int)⟩ : za))
    else
     some (LO.again (⟨s1.s, w64 (s1.at_ + w64 (y3 + 4))⟩ : za))
   else
    some (LO.out s1) : za → Option (LO (za) (za) _)) x fun o4 =>
 some o4
theorem QO (n : Nat) (x : za) : Le (ZJ n x) (Zd x) := by
 unfold ZJ Zd
 exact (.loop (fun _ => (.need (.bind (Zu n _) fun _ => (.bif (.need (.bind (zk2 n _) fun _ => (.bif .rfl .rfl))) .rfl)))) fun _ => .rfl)
def zg (n : Nat) (x : Int × za) : Option Int :=
 bif decide (w64 (x.2.at_ + x.1) < (x.2.s.length : Int)) then
  zb (geti x.2.s (w64 (x.2.at_ + x.1))) fun y1 =>
  some (w64 (y1.toNat : Int))
 else
  some (-1)
theorem zf (n : Nat) (x : Int × za) : Le (zg n x) (ze x) := by
 unfold zg ze
 exact (.bif (.bind .rfl fun _ => .rfl) .rfl)
def qV (n : Nat) (x : Int) : Option Bool :=
 some (bif bif x == 32 then true else x == 9 then true else x == 10)
theorem QP (n : Nat) (x : Int) : Le (qV n x) (ZA x) := by
 unfold qV ZA
 exact .rfl
def Zn (n : Nat) (x : za) : Option za :=
 zbq n (fun (s1 : za) =>
   zb (zg n (0, s1)) fun y2 =>
   zb (qV n y2) fun y3 =>
   bif y3 then
    some (LO.again (⟨s1.s, w64 (s1.at_ + 1)⟩ : za))
   else
    some (LO.out s1) : za → Option (LO (za) (za) _)) x fun o4 =>
 some o4
theorem qa (n : Nat) (x : za) : Le (Zn n x) (zK x) := by
 unfold Zn zK
 exact (.loop (fun _ => (.bind (zf n _) fun _ => (.bind (QP n _) fun _ => (.bif .rfl .rfl)))) fun _ => .rfl)
def Z7 (n : Nat) (x : Int) : Option (List UInt8) :=
 bif decide (wu32 x ≤ 2047) then
  zb (zZ (ibOr IntKind.u8 192 (wu8 (zbk IntKind.i32 x 6)))) fun y1 =>
  zb (zZ (ibOr IntKind.u8 128 (zbj IntKind.u8 (wu8 x) 63))) fun y2 =>
  need (zx 0 2 1) <|
  some [y1, y2]
 else
  zJ (X := Bool) (
    bif decide (wu32 x < 55296) then
     some (LX.out (decide (wu32 x < 55296)))
    else
     some (LX.out (bif decide (57343 < wu32 x) then decide (wu32 x ≤ 65535) else false))) fun j3 =>
  bif j3 then
   zb (zZ (ibOr IntKind.u8 224 (wu8 (zbk IntKind.i32 x 12)))) fun y4 =>
   zb (zZ (ibOr IntKind.u8 128 (zbj IntKind.u8 (wu8 (zbk IntKind.i32 x 6)) 63))) fun y5 =>
   zb (zZ (ibOr IntKind.u8 128 (zbj IntKind.u8 (wu8 x) 63))) fun y6 =>
   need (zx 0 3 1) <|
   some [y4, y5, y6]
  else
   bif bif decide (wu32 x > 65535) then decide (wu32 x ≤ 1114111) else false then
    zb (zZ (ibOr IntKind.u8 240 (wu8 (zbk IntKind.i32 x 18)))) fun y7 =>
    zb (zZ (ibOr IntKind.u8 128 (zbj IntKind.u8 (wu8 (zbk IntKind.i32 x 12)) 63))) fun y8 =>
    zb (zZ (ibOr IntKind.u8 128 (zbj IntKind.u8 (wu8 (zbk IntKind.i32 x 6)) 63))) fun y9 =>
    zb (zZ (ibOr IntKind.u8 128 (zbj IntKind.u8 (wu8 x) 63))) fun y10 =>
    need (zx 0 4 1) <|
    some [y7, y8, y9, y10]
   else
    need (zx 0 3 1) <|
    some [(239 : UInt8), (191 : UInt8), (189 : UInt8)]
theorem zbo (n : Nat) (x : Int) : Le (Z7 n x) (Zf x) := by
 unfold Z7 Zf
 exact (.bif (.bind .rfl fun _ => (.bind .rfl fun _ => (.need .rfl))) (.join (.bif .rfl .rfl) fun _ => (.bif (.bind .rfl fun _ => (.bind .rfl fun _ => (.bind .rfl fun _ => (.need .rfl)))) (.bif (.bind .rfl fun _ => (.bind .rfl fun _ => (.bind .rfl fun _ => (.bind .rfl fun _ => (.need .rfl))))) (.need .rfl)))))
def qW (n : Nat) (x : Int) : Option (List UInt8) :=
 bif decide (wu32 x ≤ 127) then
  zb (zZ (wu8 x)) fun y1 =>
  need (zx 0 1 1) <|
  some [y1]
 else
  zb (Z7 n x) fun y2 =>
  some y2
theorem zbc (n : Nat) (x : Int) : Le (qW n x) (ZX x) := by
 unfold qW ZX
 exact (.bif (.bind .rfl fun _ => (.need .rfl)) (.bind (zbo n _) fun _ => .rfl))
def Qd (n : Nat) (x : Int × Int × Int) : Option Bool :=
 some (bif decide (x.2.1 ≤ x.1) then decide (x.1 ≤ x.2.2) else false)
theorem zar (n : Nat) (x : Int × Int × Int) : Le (Qd n x) (ZG x) := by
 unfold Qd ZG
 exact .rfl
def qm (n : Nat) (x : Int) : Option Bool :=
 zb (Qd n (x, 48, 57)) fun y1 =>
 some y1
theorem ZU (n : Nat) (x : Int) : Le (qm n x) (zU x) := by
 unfold qm zU
 exact (.bind (zar n _) fun _ => .rfl)
def zaT (n : Nat) (x : Int) : Option Int :=
 zb (qm n x) fun y1 =>
 bif y1 then
  some (w64 (x - 48))
 else
  zb (zy (x != (-1)) (Qd n (ibOr IntKind.i64 x 32, 97, 102)) (default : Bool)) fun y2 =>
  bif bif bif bif x != (-1) then y2 else false then decide (x > 64) else false then decide (x < 128) else false then
   some (w64 (w64 (ibOr IntKind.i64 x 32 - 97) + 10))
  else
   some (-1)
theorem zb0 (n : Nat) (x : Int) : Le (zaT n x) (zaD x) := by
 unfold zaT zaD
 exact (.bind (ZU n _) fun _ => (.bif .rfl (.bind (.cond (zar n _)) fun _ => (.bif .rfl .rfl))))
def qp (n : Nat) (x : za) : Option (za × List UInt8) :=
 zb (zg n (0, (⟨x.s, w64 (x.at_ + 1)⟩ : za))) fun y1 =>
 bif y1 == (-1) then
  zb (qW n 65533) fun y2 =>
  some ((⟨x.s, w64 (x.at_ + 1)⟩ : za), y2)
 else
  zb (zaT n y1) fun y3 =>
  bif decide (y3 < 0) then
   zb (zZ (wu8 y1)) fun y4 =>
   need (zx 0 1 1) <|
   some ((⟨x.s, w64 (w64 (x.at_ + 1) + 1)⟩ : za), [y4])
  else
   zbq n (fun (s5 : (Int × Int) × za) =>
     bif decide (s5.1.2 < 6) then
      zb (zg n (0, s5.2)) fun y6 =>
      zb (zaT n y6) fun y7 =>
      bif decide (y7 < 0) then
       some (LO.out (s5.1.1, s5.2))
      else
       some (LO.again ((ibOr IntKind.i64 (zqw IntKind.i64 s5.1.1 4) y7, w64 (s5.1.2 + 1)), (⟨s5.2.s, w64 (s5.2.at_ + 1)⟩ : za)))
     else
      some (LO.out (s5.1.1, s5.2)) : (Int × Int) × za → Option (LO ((Int × Int) × za) (Int × za) _)) ((0, 0), (⟨x.s, w64 (x.at_ + 1)⟩ : za)) fun o8 =>
   zJ (X := Int × za) (
     zb (zg n (0, o8.2)) fun y9 =>
     zb (qV n y9) fun y10 =>
     bif y10 then
      some (LX.out (o8.1, (⟨o8.2.s, w64 (o8.2.at_ + 1)⟩ : za)))
     else
      some (LX.out (o8.1, o8.2))) fun j11 =>
   zJ (X := Int) (
     bif j11.1 == 0 then
      some (LX.out 65533)
     else
      some (LX.out j11.1)) fun j12 =>
   zb (qW n (w32 j12)) fun y13 =>
   some (j11.2, y13)
theorem zbQ (n : Nat) (x : za) : Le (qp n x) (Zq x) := by
 unfold qp Zq
 exact (.bind (zf n _) fun _ => (.bif (.bind (zbc n _) fun _ => .rfl) (.bind (zb0 n _) fun _ => (.bif (.bind .rfl fun _ => (.need .rfl)) (.loop (fun _ => (.bif (.bind (zf n _) fun _ => (.bind (zb0 n _) fun _ => (.bif .rfl .rfl))) .rfl)) fun _ => (.join (.bind (zf n _) fun _ => (.bind (QP n _) fun _ => (.bif .rfl .rfl))) fun _ => (.join (.bif .rfl .rfl) fun _ => (.bind (zbc n _) fun _ => .rfl))))))))
def Z8 (n : Nat) (x : Int × List UInt8) : Option (List UInt8) :=
 bif decide (wu32 x.1 ≤ 2047) then
  zb (zZ (ibOr IntKind.u8 192 (wu8 (zbk IntKind.i32 x.1 6)))) fun y1 =>
  zb (zZ (ibOr IntKind.u8 128 (zbj IntKind.u8 (wu8 x.1) 63))) fun y2 =>
  need (zx x.2.length 2 1) <|
  some (x.2 ++ [y1, y2])
 else
  zJ (X := Bool × List UInt8) (
    bif decide (wu32 x.1 < 55296) then
     some (LX.out (decide (wu32 x.1 < 55296), x.2))
    else
     some (LX.out (bif decide (57343 < wu32 x.1) then decide (wu32 x.1 ≤ 65535) else false, x.2))) fun j3 =>
  bif j3.1 then
   zb (zZ (ibOr IntKind.u8 224 (wu8 (zbk IntKind.i32 x.1 12)))) fun y4 =>
   zb (zZ (ibOr IntKind.u8 128 (zbj IntKind.u8 (wu8 (zbk IntKind.i32 x.1 6)) 63))) fun y5 =>
   zb (zZ (ibOr IntKind.u8 128 (zbj IntKind.u8 (wu8 x.1) 63))) fun y6 =>
   need (zx j3.2.length 3 1) <|
   some (j3.2 ++ [y4, y5, y6])
  else
   bif bif decide (wu32 x.1 > 65535) then decide (wu32 x.1 ≤ 1114111) else false then
    zb (zZ (ibOr IntKind.u8 240 (wu8 (zbk IntKind.i32 x.1 18)))) fun y7 =>
    zb (zZ (ibOr IntKind.u8 128 (zbj IntKind.u8 (wu8 (zbk IntKind.i32 x.1 12)) 63))) fun y8 =>
    zb (zZ (ibOr IntKind.u8 128 (zbj IntKind.u8 (wu8 (zbk IntKind.i32 x.1 6)) 63))) fun y9 =>
    zb (zZ (ibOr IntKind.u8 128 (zbj IntKind.u8 (wu8 x.1) 63))) fun y10 =>
    need (zx j3.2.length 4 1) <|
    some (j3.2 ++ [y7, y8, y9, y10])
   else
    need (zx j3.2.length 3 1) <|
    some (j3.2 ++ [(239 : UInt8), (191 : UInt8), (189 : UInt8)])
theorem zbp (n : Nat) (x : Int × List UInt8) : Le (Z8 n x) (Zg x) := by
 unfold Z8 Zg
 exact (.bif (.bind .rfl fun _ => (.bind .rfl fun _ => (.need .rfl))) (.join (.bif .rfl .rfl) fun _ => (.bif (.bind .rfl fun _ => (.bind .rfl fun _ => (.bind .rfl fun _ => (.need .rfl)))) (.bif (.bind .rfl fun _ => (.bind .rfl fun _ => (.bind .rfl fun _ => (.bind .rfl fun _ => (.need .rfl))))) (.need .rfl)))))
def qX (n : Nat) (x : Int × List UInt8) : Option (List UInt8) :=
 bif decide (wu32 x.1 ≤ 127) then
  zb (zZ (wu8 x.1)) fun y1 =>
  need (zx x.2.length 1 1) <|
  some (x.2 ++ [y1])
 else
  zb (Z8 n (x.1, x.2)) fun y2 =>
  some y2
theorem zbd (n : Nat) (x : Int × List UInt8) : Le (qX n x) (ZY x) := by
 unfold qX ZY
 exact (.bif (.bind .rfl fun _ => (.need .rfl)) (.bind (zbp n _) fun _ => .rfl))
def Ze (n : Nat) (x : za × List UInt8) : Option (za × List UInt8) :=
 zb (zg n (0, (⟨x.1.s, w64 (x.1.at_ + 1)⟩ : za))) fun y1 =>
 bif y1 == (-1) then
  zb (qX n (65533, x.2)) fun y2 =>
  some ((⟨x.1.s, w64 (x.1.at_ + 1)⟩ : za), y2)
 else
  zb (zaT n y1) fun y3 =>
  bif decide (y3 < 0) then
   zb (zZ (wu8 y1)) fun y4 =>
   need (zx x.2.length 1 1) <|
   some ((⟨x.1.s, w64 (w64 (x.1.at_ + 1) + 1)⟩ : za), x.2 ++ [y4])
  else
   zbq n (fun (s5 : (Int × Int) × za) =>
     bif decide (s5.1.2 < 6) then
      zb (zg n (0, s5.2)) fun y6 =>
      zb (zaT n y6) fun y7 =>
      bif decide (y7 < 0) then
       some (LO.out (s5.1.1, s5.2))
      else
       some (LO.again ((ibOr IntKind.i64 (zqw IntKind.i64 s5.1.1 4) y7, w64 (s5.1.2 + 1)), (⟨s5.2.s, w64 (s5.2.at_ + 1)⟩ : za)))
     else
      some (LO.out (s5.1.1, s5.2)) : (Int × Int) × za → Option (LO ((Int × Int) × za) (Int × za) _)) ((0, 0), (⟨x.1.s, w64 (x.1.at_ + 1)⟩ : za)) fun o8 =>
   zJ (X := Int × za × List UInt8) (
     zb (zg n (0, o8.2)) fun y9 =>
     zb (qV n y9) fun y10 =>
     bif y10 then
      some (LX.out (o8.1, (⟨o8.2.s, w64 (o8.2.at_ + 1)⟩ : za), x.2))
     else
      some (LX.out (o8.1, o8.2, x.2))) fun j11 =>
   zJ (X := Int × List UInt8) (
     bif j11.1 == 0 then
      some (LX.out (65533, j11.2.2))
     else
      some (LX.out (j11.1, j11.2.2))) fun j12 =>
   zb (qX n (w32 j12.1, j12.2)) fun y13 =>
   some (j11.2.1, y13)
theorem qb (n : Nat) (x : za × List UInt8) : Le (Ze n x) (zA x) := by
 unfold Ze zA
 exact (.bind (zf n _) fun _ => (.bif (.bind (zbd n _) fun _ => .rfl) (.bind (zb0 n _) fun _ => (.bif (.bind .rfl fun _ => (.need .rfl)) (.loop (fun _ => (.bif (.bind (zf n _) fun _ => (.bind (zb0 n _) fun _ => (.bif .rfl .rfl))) .rfl)) fun _ => (.join (.bind (zf n _) fun _ => (.bind (QP n _) fun _ => (.bif .rfl .rfl))) fun _ => (.join (.bif .rfl .rfl) fun _ => (.bind (zbd n _) fun _ => .rfl))))))))
def Qh (n : Nat) (x : za) : Option (zh × za) :=
 zb (zg n (0, x)) fun y1 =>
 zbq n (fun (s2 : za × zh × List UInt8) =>
   zb (zg n (0, s2.1)) fun y3 =>
   bif y3 == (-1) then
    some (LO.out (s2.1, s2.2.1, s2.2.2))
   else
    bif y3 == y1 then
     some (LO.out ((⟨s2.1.s, w64 (s2.1.at_ + 1)⟩ : za), s2.2.1, s2.2.2))
    else
     bif y3 == 10 then
      some (LO.ret ((⟨6, [], 0, [], false⟩ : zh), s2.1))
     else
      zb (zy (y3 == 92) (zg n (1, s2.1)) (default : Int)) fun y4 =>
      zb (zy (!(y4 == (-1)) && y3 == 92) (zg n (1, s2.1)) (default : Int)) fun y5 =>
      bif bif y3 == 92 then bif y4 == (-1) then true else y5 == 10 else false then
       some (LO.again ((⟨s2.1.s, if (s2.1.s.length : Int) < w64 (s2.1.at_ + 2) then (s2.1.s.length : Int) else w64 (s2.1.at_ + 2)⟩ : za), s2.2.1, s2.2.2))
      else
       bif y3 == 92 then
        zb (Ze n (s2.1, s2.2.2)) fun y6 =>
        some (LO.again (y6.1, s2.2.1, y6.2))
       else
        zb (zZ (wu8 y3)) fun y7 =>
        need (zx s2.2.2.length 1 1) <|
        some (LO.again ((⟨s2.1.s, w64 (s2.1.at_ + 1)⟩ : za), s2.2.1, s2.2.2 ++ [y7])) : za × zh × List UInt8 → Option (LO (za × zh × List UInt8) (za × zh × List UInt8) _)) ((⟨x.s, w64 (x.at_ + 1)⟩ : za), (⟨0, [], 0, [], false⟩ : zh), []) fun o8 =>
 some ((⟨5, o8.2.2, 0, [], false⟩ : zh), o8.1)
theorem zcF (n : Nat) (x : za) : Le (Qh n x) (ZP x) := by
 unfold Qh ZP
 exact (.bind (zf n _) fun _ => (.loop (fun _ => (.bind (zf n _) fun _ => (.bif .rfl (.bif .rfl (.bif .rfl (.bind (.cond (zf n _)) fun _ => (.bind (.cond (zf n _)) fun _ => (.bif .rfl (.bif (.bind (qb n _) fun _ => .rfl) (.bind .rfl fun _ => (.need .rfl))))))))))) fun _ => .rfl))
def zaC (n : Nat) (x : Int) : Option Bool :=
 zb (Qd n (ibOr IntKind.i64 x 32, 97, 122)) fun y1 =>
 some (bif bif bif bif y1 then decide (x < 128) else false then decide (x > 64) else false then true else x == 95 then true else decide (x ≥ 128))
theorem zb8 (n : Nat) (x : Int) : Le (zaC n x) (Qr x) := by
 unfold zaC Qr
 exact (.bind (zar n _) fun _ => .rfl)
def zaY (n : Nat) (x : Int) : Option Bool :=
 zb (zaC n x) fun y1 =>
 zb (zy (!y1) (qm n x) (default : Bool)) fun y2 =>
 some (bif bif y1 then true else y2 then true else x == 45)
theorem zdf (n : Nat) (x : Int) : Le (zaY n x) (Qs x) := by
 unfold zaY Qs
 exact (.bind (zb8 n _) fun _ => (.bind (.cond (ZU n _)) fun _ => .rfl))
def zM (n : Nat) (x : Int × za) : Option Bool :=
 zb (zg n (x.1, x.2)) fun y1 =>
 zb (zy (y1 == 92) (zg n (w64 (x.1 + 1), x.2)) (default : Int)) fun y2 =>
 some (bif y1 == 92 then y2 != 10 else false)
theorem Za (n : Nat) (x : Int × za) : Le (zM n x) (zt x) := by
 unfold zM zt
 exact (.bind (zf n _) fun _ => (.bind (.cond (zf n _)) fun _ => .rfl))
def Zw (n : Nat) (x : Int × za) : Option Bool :=
 zb (zg n (x.1, x.2)) fun y1 =>
 bif y1 != 45 then
  zb (zg n (x.1, x.2)) fun y2 =>
  zb (zaC n y2) fun y3 =>
  zb (zy (!y3) (zM n (x.1, x.2)) (default : Bool)) fun y4 =>
  some (bif y3 then true else y4)
 else
  zb (zg n (w64 (x.1 + 1), x.2)) fun y5 =>
  zb (zaC n y5) fun y6 =>
  zb (zy (!y6) (zg n (w64 (x.1 + 1), x.2)) (default : Int)) fun y7 =>
  zb (zy (!(bif y6 then true else y7 == 45)) (zM n (w64 (x.1 + 1), x.2)) (default : Bool)) fun y8 =>
  some (bif bif y6 then true else y7 == 45 then true else y8)
theorem qh (n : Nat) (x : Int × za) : Le (Zw n x) (zV x) := by
 unfold Zw zV
 exact (.bind (zf n _) fun _ => (.bif (.bind (zf n _) fun _ => (.bind (zb8 n _) fun _ => (.bind (.cond (Za n _)) fun _ => .rfl))) (.bind (zf n _) fun _ => (.bind (zb8 n _) fun _ => (.bind (.cond (zf n _)) fun _ => (.bind (.cond (Za n _)) fun _ => .rfl))))))
def Zx (n : Nat) (x : za) : Option (Str × za) :=
 zbq n (fun (s1 : za × List UInt8) =>
   zb (zg n (0, s1.1)) fun y2 =>
   zb (zaY n y2) fun y3 =>
   bif y3 then
    zb (zZ (wu8 y2)) fun y4 =>
    need (zx s1.2.length 1 1) <|
    some (LO.again ((⟨s1.1.s, w64 (s1.1.at_ + 1)⟩ : za), s1.2 ++ [y4]))
   else
    zb (zy (y2 != (-1)) (zM n (0, s1.1)) (default : Bool)) fun y5 =>
    bif bif y2 != (-1) then y5 else false then
     zb (Ze n (s1.1, s1.2)) fun y6 =>
     some (LO.again (y6.1, y6.2))
    else
     some (LO.ret (s1.2, s1.1)) : za × List UInt8 → Option (LO (za × List UInt8) (Unit) _)) (x, []) fun o7 =>
 none
theorem qi (n : Nat) (x : za) : Le (Zx n x) (zO x) := by
 unfold Zx zO
 exact (.loop (fun _ => (.bind (zf n _) fun _ => (.bind (zdf n _) fun _ => (.bif (.bind .rfl fun _ => (.need .rfl)) (.bind (.cond (Za n _)) fun _ => (.bif (.bind (qb n _) fun _ => .rfl) .rfl)))))) fun _ => .none)
def Qg (n : Nat) (x : za) : Option Bool :=
 zJ (X := Int) (
   zb (zg n (0, x)) fun y1 =>
   bif bif y1 == 43 then true else y1 == 45 then
    some (LX.out 1)
   else
    some (LX.out 0)) fun j2 =>
 zJ (X := Int) (
   zb (zg n (j2, x)) fun y3 =>
   bif y3 == 46 then
    some (LX.out (w64 (j2 + 1)))
   else
    some (LX.out j2)) fun j4 =>
 zb (zg n (j4, x)) fun y5 =>
 zb (qm n y5) fun y6 =>
 some y6
theorem zcE (n : Nat) (x : za) : Le (Qg n x) (zD x) := by
 unfold Qg zD
 exact (.join (.bind (zf n _) fun _ => (.bif .rfl .rfl)) fun _ => (.join (.bind (zf n _) fun _ => (.bif .rfl .rfl)) fun _ => (.bind (zf n _) fun _ => (.bind (ZU n _) fun _ => .rfl))))
def Zr (n : Nat) (x : za) : Option za :=
 zbq n (fun (s1 : za) =>
   zb (zg n (0, s1)) fun y2 =>
   zb (qm n y2) fun y3 =>
   bif y3 then
    some (LO.again (⟨s1.s, w64 (s1.at_ + 1)⟩ : za))
   else
    some (LO.out s1) : za → Option (LO (za) (za) _)) x fun o4 =>
 some o4
theorem qA (n : Nat) (x : za) : Le (Zr n x) (zu x) := by
 unfold Zr zu
 exact (.loop (fun _ => (.bind (zf n _) fun _ => (.bind (ZU n _) fun _ => (.bif .rfl .rfl)))) fun _ => .rfl)
def qR (n : Nat) (x : za) : Option (Bool × za) :=
 zJ (X := za) (
   zb (zg n (0, x)) fun y1 =>
   bif bif y1 == 43 then true else y1 == 45 then
    some (LX.out (⟨x.s, w64 (x.at_ + 1)⟩ : za))
   else
    some (LX.out x)) fun j2 =>
 zb (Zr n j2) fun y3 =>
 zJ (X := Bool × za) (
   zb (zg n (0, y3)) fun y4 =>
   zb (zy (y4 == 46) (zg n (1, y3)) (default : Int)) fun y5 =>
   zb (zy (y4 == 46) (qm n y5) (default : Bool)) fun y6 =>
   bif bif y4 == 46 then y6 else false then
    zb (Zr n (⟨y3.s, w64 (y3.at_ + 1)⟩ : za)) fun y7 =>
    some (LX.out (false, y7))
   else
    some (LX.out (true, y3))) fun j8 =>
 zJ (X := Bool × za) (
   zb (zg n (0, j8.2)) fun y9 =>
   zb (zy (!(y9 == 101)) (zg n (0, j8.2)) (default : Int)) fun y10 =>
   bif bif y9 == 101 then true else y10 == 69 then
    zJ (X := (Bool × Int) × za) (
      zb (zg n (1, j8.2)) fun y11 =>
      bif bif y11 == 43 then true else y11 == 45 then
       some (LX.out ((j8.1, 2), j8.2))
      else
       some (LX.out ((j8.1, 1), j8.2))) fun j12 =>
    zb (zg n (j12.1.2, j12.2)) fun y13 =>
    zb (qm n y13) fun y14 =>
    bif y14 then
     zb (Zr n (⟨j12.2.s, w64 (j12.2.at_ + j12.1.2)⟩ : za)) fun y15 =>
     some (LX.out (false, y15))
    else
     some (LX.out (j12.1.1, j12.2))
   else
    some (LX.out (j8.1, j8.2))) fun j16 =>
 some (j16.1, j16.2)
theorem zck (n : Nat) (x : za) : Le (qR n x) (zI x) := by
 unfold qR zI
 exact (.join (.bind (zf n _) fun _ => (.bif .rfl .rfl)) fun _ => (.bind (qA n _) fun _ => (.join (.bind (zf n _) fun _ => (.bind (.cond (zf n _)) fun _ => (.bind (.cond (ZU n _)) fun _ => (.bif (.bind (qA n _) fun _ => .rfl) .rfl)))) fun _ => (.join (.bind (zf n _) fun _ => (.bind (.cond (zf n _)) fun _ => (.bif (.join (.bind (zf n _) fun _ => (.bif .rfl .rfl)) fun _ => (.bind (zf n _) fun _ => (.bind (ZU n _) fun _ => (.bif (.bind (qA n _) fun _ => .rfl) .rfl)))) .rfl))) fun _ => .rfl))))
def Q6 (n : Nat) (x : Str) : Option Int :=
 zb (geti x 0) fun y1 =>
 zb (zj4 n (x, [43, 45])) fun y2 =>
 zJ (X := Str × Int) (
   zb (zg1 n (y2, [101, 69])) fun y3 =>
   bif decide (y3 ≥ 0) then
    need (decide (0 ≤ w64 (y3 + 1)) && decide (w64 (y3 + 1) ≤ (y2.length : Int))) <|
    zb (zj4 n (List.drop (w64 (y3 + 1)).toNat y2, [43, 45])) fun y4 =>
    need (decide (y4.length ≤ maxLen)) <|
    zbq n (fun (s5 : Int × Int) =>
      bif decide (s5.2 < (y4.length : Int)) then
       need (decide (0 ≤ s5.2) && decide (s5.2 < (y4.length : Int))) <|
       zb y4[s5.2.toNat]? fun y6 =>
       some (LO.again (if 1048576 < w64 (w64 (10 * s5.1) + w64 (wu8 ((y6.toNat : Int) - 48))) then 1048576 else w64 (w64 (10 * s5.1) + w64 (wu8 ((y6.toNat : Int) - 48))), w64 (s5.2 + 1)))
      else
       some (LO.out s5.1) : Int × Int → Option (LO (Int × Int) (Int) _)) (0, 0) fun o7 =>
    zJ (X := Str × Int × Int) (
      zb (geti y2 (w64 (y3 + 1))) fun y8 =>
      bif (y8.toNat : Int) == 45 then
       some (LX.out (y2, 3, w64 (0 - o7)))
      else
       some (LX.out (y2, 3, o7))) fun j9 =>
    need (decide (0 ≤ y3) && decide (y3 ≤ (j9.1.length : Int))) <|
    some (LX.out (List.take y3.toNat j9.1, w64 (j9.2.1 + j9.2.2)))
   else
    some (LX.out (y2, 3))) fun j10 =>
 zb (zrh n (j10.1, [46])) fun y11 =>
 need (zjW y11.1.length y11.2.1.length) <|
 zJ (X := Str × Int) (
   bif decide (w64 (j10.2 - (y11.2.1.length : Int)) < 0) then
    need (decide (0 ≤ (if w64 (((y11.1 ++ y11.2.1).length : Int) + w64 (j10.2 - (y11.2.1.length : Int))) > 0 then w64 (((y11.1 ++ y11.2.1).length : Int) + w64 (j10.2 - (y11.2.1.length : Int))) else 0)) && decide ((if w64 (((y11.1 ++ y11.2.1).length : Int) + w64 (j10.2 - (y11.2.1.length : Int))) > 0 then w64 (((y11.1 ++ y11.2.1).length : Int) + w64 (j10.2 - (y11.2.1.length : Int))) else 0) ≤ ((y11.1 ++ y11.2.1).length : Int))) <|
    some (LX.out (List.take (if w64 (((y11.1 ++ y11.2.1).length : Int) + w64 (j10.2 - (y11.2.1.length : Int))) > 0 then w64 (((y11.1 ++ y11.2.1).length : Int) + w64 (j10.2 - (y11.2.1.length : Int))) else 0).toNat (y11.1 ++ y11.2.1), w64 (j10.2 - (y11.2.1.length : Int))))
   else
    some (LX.out (y11.1 ++ y11.2.1, w64 (j10.2 - (y11.2.1.length : Int))))) fun j12 =>
 need (decide (j12.1.length ≤ maxLen)) <|
 zbq n (fun (s13 : Int × Int) =>
   bif decide (s13.2 < (j12.1.length : Int)) then
    need (decide (0 ≤ s13.2) && decide (s13.2 < (j12.1.length : Int))) <|
    zb j12.1[s13.2.toNat]? fun y14 =>
    some (LO.again (if 1000000000000 < w64 (w64 (10 * s13.1) + w64 (wu8 ((y14.toNat : Int) - 48))) then 1000000000000 else w64 (w64 (10 * s13.1) + w64 (wu8 ((y14.toNat : Int) - 48))), w64 (s13.2 + 1)))
   else
    some (LO.out s13.1) : Int × Int → Option (LO (Int × Int) (Int) _)) (0, 0) fun o15 =>
 zbq n (fun (s16 : Int × Int) =>
   bif bif bif decide (s16.1 > 0) then decide (s16.2 > 0) else false then decide (s16.2 < 1000000000000) else false then
    some (LO.again (w64 (s16.1 - 1), if 1000000000000 < w64 (10 * s16.2) then 1000000000000 else w64 (10 * s16.2)))
   else
    some (LO.out s16.2) : Int × Int → Option (LO (Int × Int) (Int) _)) (j12.2, o15) fun o17 =>
 zJ (X := Int) (
   bif (y1.toNat : Int) == 45 then
    some (LX.out (w64 (0 - o17)))
   else
    some (LX.out o17)) fun j18 =>
 some j18
theorem zdO (n : Nat) (x : Str) : Le (Q6 n x) (Zb x) := by
 unfold Q6 Zb
 exact (.bind .rfl fun _ => (.bind (zk3 n _) fun _ => (.join (.bind (zk1 n _) fun _ => (.bif (.need (.bind (zk3 n _) fun _ => (.need (.loop (fun _ => (.bif (.need (.bind .rfl fun _ => .rfl)) .rfl)) fun _ => (.join (.bind .rfl fun _ => (.bif .rfl .rfl)) fun _ => (.need .rfl)))))) .rfl)) fun _ => (.bind (zrP n _) fun _ => (.need (.join (.bif (.need .rfl) .rfl) fun _ => (.need (.loop (fun _ => (.bif (.need (.bind .rfl fun _ => .rfl)) .rfl)) fun _ => (.loop (fun _ => (.bif .rfl .rfl)) fun _ => (.join (.bif .rfl .rfl) fun _ => .rfl))))))))))
def qU (n : Nat) (x : za) : Option (zh × za) :=
 zb (qR n x) fun y1 =>
 need (decide (0 ≤ x.at_) && (decide (x.at_ ≤ y1.2.at_) && decide (y1.2.at_ ≤ (y1.2.s.length : Int)))) <|
 zb (Q6 n (List.drop x.at_.toNat (List.take y1.2.at_.toNat y1.2.s))) fun y2 =>
 zJ (X := za × zh × zh) (
   zb (Zw n (0, y1.2)) fun y3 =>
   bif y3 then
    zb (Zx n y1.2) fun y4 =>
    some (LX.out (y4.2, (⟨0, [], 0, [], false⟩ : zh), (⟨12, [], y2, y4.1, y1.1⟩ : zh)))
   else
    zb (zg n (0, y1.2)) fun y5 =>
    bif y5 == 37 then
     some (LX.out ((⟨y1.2.s, w64 (y1.2.at_ + 1)⟩ : za), (⟨0, [], 0, [], false⟩ : zh), (⟨11, [], y2, [], false⟩ : zh)))
    else
     some (LX.out (y1.2, (⟨0, [], 0, [], false⟩ : zh), (⟨10, [], y2, [], y1.1⟩ : zh)))) fun j6 =>
 some (j6.2.2, j6.1)
theorem zcl (n : Nat) (x : za) : Le (qU n x) (ZF x) := by
 unfold qU ZF
 exact (.bind (zck n _) fun _ => (.need (.bind (zdO n _) fun _ => (.join (.bind (qh n _) fun _ => (.bif (.bind (qi n _) fun _ => .rfl) (.bind (zf n _) fun _ => (.bif .rfl .rfl)))) fun _ => .rfl))))
def Z5 (n : Nat) (x : za) : Option (zh × za) :=
 zbq n (fun (s1 : za × zh) =>
   zb (zg n (0, s1.1)) fun y2 =>
   bif y2 == (-1) then
    some (LO.ret ((⟨8, [], 0, [], false⟩ : zh), s1.1))
   else
    zb (zM n (0, s1.1)) fun y3 =>
    bif y3 then
     zb (qp n s1.1) fun y4 =>
     some (LO.again (y4.1, s1.2))
    else
     zb (geti s1.1.s (w64 (w64 (s1.1.at_ + 1) - 1))) fun y5 =>
     bif (y5.toNat : Int) == 41 then
      some (LO.ret ((⟨8, [], 0, [], false⟩ : zh), (⟨s1.1.s, w64 (s1.1.at_ + 1)⟩ : za)))
     else
      some (LO.again ((⟨s1.1.s, w64 (s1.1.at_ + 1)⟩ : za), s1.2)) : za × zh → Option (LO (za × zh) (Unit) _)) (x, (⟨0, [], 0, [], false⟩ : zh)) fun o6 =>
 none
theorem QH (n : Nat) (x : za) : Le (Z5 n x) (Zz x) := by
 unfold Z5 Zz
 exact (.loop (fun _ => (.bind (zf n _) fun _ => (.bif .rfl (.bind (Za n _) fun _ => (.bif (.bind (zbQ n _) fun _ => .rfl) (.bind .rfl fun _ => (.bif .rfl .rfl))))))) fun _ => .none)
def Q5 (n : Nat) (x : za) : Option (zh × za) :=
 zb (Zn n x) fun y1 =>
 zbq n (fun (s2 : za × zh × List UInt8) =>
   zb (zg n (0, s2.1)) fun y3 =>
   zJ (X := Int × za × zh × List UInt8) (
     zb (qV n y3) fun y4 =>
     bif y4 then
      zb (Zn n s2.1) fun y5 =>
      zb (zg n (0, y5)) fun y6 =>
      bif bif y6 != 41 then y6 != (-1) else false then
       zb (Z5 n y5) fun y7 =>
       some (LX.ret (LO.ret (y7.1, y7.2)))
      else
       some (LX.out (y6, y5, s2.2.1, s2.2.2))
     else
      some (LX.out (y3, s2.1, s2.2.1, s2.2.2))) fun j8 =>
   bif j8.1 == (-1) then
    some (LO.ret ((⟨7, j8.2.2.2, 0, [], false⟩ : zh), j8.2.1))
   else
    bif j8.1 == 41 then
     some (LO.ret ((⟨7, j8.2.2.2, 0, [], false⟩ : zh), (⟨j8.2.1.s, w64 (j8.2.1.at_ + 1)⟩ : za)))
    else
     zb (zy (!(bif bif bif bif j8.1 == 34 then true else j8.1 == 39 then true else j8.1 == 40 then true else decide (j8.1 ≤ 8) then true else j8.1 == 11)) (Qd n (j8.1, 14, 31)) (default : Bool)) fun y9 =>
     bif bif bif bif bif bif bif j8.1 == 34 then true else j8.1 == 39 then true else j8.1 == 40 then true else decide (j8.1 ≤ 8) then true else j8.1 == 11 then true else y9 then true else j8.1 == 127 then
      zb (Z5 n j8.2.1) fun y10 =>
      some (LO.ret (y10.1, y10.2))
     else
      bif j8.1 != 92 then
       zb (zZ (wu8 j8.1)) fun y11 =>
       need (zx j8.2.2.2.length 1 1) <|
       some (LO.again ((⟨j8.2.1.s, w64 (j8.2.1.at_ + 1)⟩ : za), j8.2.2.1, j8.2.2.2 ++ [y11]))
      else
       zb (zM n (0, j8.2.1)) fun y12 =>
       bif y12 then
        zb (Ze n (j8.2.1, j8.2.2.2)) fun y13 =>
        some (LO.again (y13.1, j8.2.2.1, y13.2))
       else
        zb (Z5 n j8.2.1) fun y14 =>
        some (LO.ret (y14.1, y14.2)) : za × zh × List UInt8 → Option (LO (za × zh × List UInt8) (Unit) _)) (y1, (⟨0, [], 0, [], false⟩ : zh), []) fun o15 =>
 none
theorem zdN (n : Nat) (x : za) : Le (Q5 n x) (qF x) := by
 unfold Q5 qF
 exact (.bind (qa n _) fun _ => (.loop (fun _ => (.bind (zf n _) fun _ => (.join (.bind (QP n _) fun _ => (.bif (.bind (qa n _) fun _ => (.bind (zf n _) fun _ => (.bif (.bind (QH n _) fun _ => .rfl) .rfl))) .rfl)) fun _ => (.bif .rfl (.bif .rfl (.bind (.cond (zar n _)) fun _ => (.bif (.bind (QH n _) fun _ => .rfl) (.bif (.bind .rfl fun _ => (.need .rfl)) (.bind (Za n _) fun _ => (.bif (.bind (qb n _) fun _ => .rfl) (.bind (QH n _) fun _ => .rfl))))))))))) fun _ => .none))
def Qt (n : Nat) (x : za) : Option (zh × za) :=
 zb (Zx n x) fun y1 =>
 zb (zg n (0, y1.2)) fun y2 =>
 bif y2 != 40 then
  some ((⟨1, y1.1, 0, [], false⟩ : zh), y1.2)
 else
  zJ (X := za × zh) (
    zb (zbl n (y1.1, [117, 114, 108])) fun y3 =>
    bif y3 then
     zb (Zn n (⟨y1.2.s, w64 (y1.2.at_ + 1)⟩ : za)) fun y4 =>
     zb (zg n (0, y4)) fun y5 =>
     bif bif y5 != 34 then y5 != 39 else false then
      zb (Q5 n (⟨y1.2.s, w64 (y1.2.at_ + 1)⟩ : za)) fun y6 =>
      some (LX.ret (y6.1, y6.2))
     else
      some (LX.out ((⟨y1.2.s, w64 (y1.2.at_ + 1)⟩ : za), (⟨0, [], 0, [], false⟩ : zh)))
    else
     some (LX.out ((⟨y1.2.s, w64 (y1.2.at_ + 1)⟩ : za), (⟨0, [], 0, [], false⟩ : zh)))) fun j7 =>
  some ((⟨2, y1.1, 0, [], false⟩ : zh), j7.1)
theorem zcT (n : Nat) (x : za) : Le (Qt n x) (Z6 x) := by
 unfold Qt Z6
 exact (.bind (qi n _) fun _ => (.bind (zf n _) fun _ => (.bif .rfl (.join (.bind (zd3 n _) fun _ => (.bif (.bind (qa n _) fun _ => (.bind (zf n _) fun _ => (.bif (.bind (zdN n _) fun _ => .rfl) .rfl))) .rfl)) fun _ => .rfl))))
def QK (n : Nat) (x : za) : Option (zh × za) :=
 zb (zg n (0, x)) fun y1 =>
 need (decide (0 ≤ x.at_) && decide (x.at_ ≤ (x.s.length : Int))) <|
 zb (qV n y1) fun y2 =>
 bif y2 then
  zb (Zn n x) fun y3 =>
  some ((⟨13, [], 0, [], false⟩ : zh), y3)
 else
  bif bif y1 == 34 then true else y1 == 39 then
   zb (Qh n x) fun y4 =>
   some (y4.1, y4.2)
  else
   zb (zy (y1 == 35) (zg n (1, x)) (default : Int)) fun y5 =>
   zb (zy (y1 == 35) (zaY n y5) (default : Bool)) fun y6 =>
   zb (zy (!y6 && y1 == 35) (zM n (1, x)) (default : Bool)) fun y7 =>
   bif bif y1 == 35 then bif y6 then true else y7 else false then
    zb (Zw n (1, x)) fun y8 =>
    zb (Zx n (⟨x.s, w64 (x.at_ + 1)⟩ : za)) fun y9 =>
    some ((⟨4, y9.1, 0, [], y8⟩ : zh), y9.2)
   else
    zb (Qg n x) fun y10 =>
    bif y10 then
     zb (qU n x) fun y11 =>
     some (y11.1, y11.2)
    else
     zb (zY n (List.drop x.at_.toNat x.s, [45, 45, 62])) fun y12 =>
     bif y12 then
      some ((⟨15, [], 0, [], false⟩ : zh), (⟨x.s, w64 (x.at_ + 3)⟩ : za))
     else
      zb (zY n (List.drop x.at_.toNat x.s, [60, 33, 45, 45])) fun y13 =>
      bif y13 then
       some ((⟨14, [], 0, [], false⟩ : zh), (⟨x.s, w64 (x.at_ + 4)⟩ : za))
      else
       zb (zy (y1 == 64) (Zw n (1, x)) (default : Bool)) fun y14 =>
       bif bif y1 == 64 then y14 else false then
        zb (Zx n (⟨x.s, w64 (x.at_ + 1)⟩ : za)) fun y15 =>
        some ((⟨3, y15.1, 0, [], false⟩ : zh), y15.2)
       else
        zb (Zw n (0, x)) fun y16 =>
        bif y16 then
         zb (Qt n x) fun y17 =>
         some (y17.1, y17.2)
        else
         zb (Zl n ([58, 59, 44, 91, 93, 40, 41, 123, 125], wu8 y1)) fun y18 =>
         bif decide (y18 ≥ 0) then
          some ((⟨wu8 (16 + wu8 y18), [], 0, [], false⟩ : zh), (⟨x.s, w64 (x.at_ + 1)⟩ : za))
         else
          need (decide (1 ≤ ((List.drop x.at_.toNat x.s).length : Int))) <|
          some ((⟨9, List.take 1 (List.drop x.at_.toNat x.s), 0, [], false⟩ : zh), (⟨x.s, w64 (x.at_ + 1)⟩ : za))
theorem zdg (n : Nat) (x : za) : Le (QK n x) (qo x) := by
 unfold QK qo
 exact (.bind (zf n _) fun _ => (.need (.bind (QP n _) fun _ => (.bif (.bind (qa n _) fun _ => .rfl) (.bif (.bind (zcF n _) fun _ => .rfl) (.bind (.cond (zf n _)) fun _ => (.bind (.cond (zdf n _)) fun _ => (.bind (.cond (Za n _)) fun _ => (.bif (.bind (qh n _) fun _ => (.bind (qi n _) fun _ => .rfl)) (.bind (zcE n _) fun _ => (.bif (.bind (zcl n _) fun _ => .rfl) (.bind (Zu n _) fun _ => (.bif .rfl (.bind (Zu n _) fun _ => (.bif .rfl (.bind (.cond (qh n _)) fun _ => (.bif (.bind (qi n _) fun _ => .rfl) (.bind (qh n _) fun _ => (.bif (.bind (zcT n _) fun _ => .rfl) (.bind (ZN n _) fun _ => (.bif .rfl (.need .rfl))))))))))))))))))))))
def zaB (n : Nat) (x : (zh × Int × Int) × List zh) : Option (List zh) :=
 need (zx x.2.length 1 56) <|
 some (x.2 ++ [x.1.1])
theorem zer (n : Nat) (x : (zh × Int × Int) × List zh) : Le (zaB n x) (Qa x) := by
 unfold zaB Qa
 exact (.need .rfl)
def zcd (n : Nat) (x : Str) : Option (Int × List zh) :=
 zb (zmG n x) fun y1 =>
 bif y1.2 != 0 then
  some (y1.2, [])
 else
  zb (ZJ n (⟨y1.1, 0⟩ : za)) fun y2 =>
  zbq n (fun (s3 : Int × List zh × za) =>
    bif decide (s3.2.2.at_ < (y1.1.length : Int)) then
     bif decide (w64 (s3.1 + 1) > 1500) then
      some (LO.ret (4, s3.2.1))
     else
      zb (QK n s3.2.2) fun y4 =>
      zb (zaB n ((y4.1, s3.2.2.at_, y4.2.at_), s3.2.1)) fun y5 =>
      zb (ZJ n y4.2) fun y6 =>
      some (LO.again (w64 (s3.1 + 1), y5, y6))
    else
     some (LO.out (s3.2.1, s3.2.2)) : Int × List zh × za → Option (LO (Int × List zh × za) (List zh × za) _)) (0, [], y2) fun o7 =>
  some (0, o7.1)
theorem zg8 (n : Nat) (x : Str) : Le (zcd n x) (za4 x) := by
 unfold zcd za4
 exact (.bind (zo5 n _) fun _ => (.bif .rfl (.bind (QO n _) fun _ => (.loop (fun _ => (.bif (.bif .rfl (.bind (zdg n _) fun _ => (.bind (zer n _) fun _ => (.bind (QO n _) fun _ => .rfl)))) .rfl)) fun _ => .rfl))))
def zcc (n : Nat) (x : Str) : Option (List zh × Int) :=
 zb (zcd n x) fun y1 =>
 bif y1.1 != 0 then
  some ([], y1.1)
 else
  some (y1.2, 0)
theorem zg7 (n : Nat) (x : Str) : Le (zcc n x) (za3 x) := by
 unfold zcc za3
 exact (.bind (zg8 n _) fun _ => (.bif .rfl .rfl))
def QI (n : Nat) (x : List zh × List zh) : Option Bool :=
 bif (x.1.length : Int) != (x.2.length : Int) then
  some false
 else
  zbq n (fun (s1 : Int) =>
    bif decide (s1 < (x.1.length : Int)) then
     zb (geti x.1 s1) fun y2 =>
     zb (geti x.2 s1) fun y3 =>
     bif !(y2.kind == y3.kind && (y2.text == y3.text && (y2.num == y3.num && (y2.unit == y3.unit && (y2.flag == y3.flag && true))))) then
      some (LO.ret false)
     else
      some (LO.again (w64 (s1 + 1)))
    else
     some (LO.out ()) : Int → Option (LO (Int) (Unit) _)) 0 fun o4 =>
  some true
theorem zdd (n : Nat) (x : List zh × List zh) : Le (QI n x) (ql x) := by
 unfold QI ql
 exact (.bif .rfl (.loop (fun _ => (.bif (.bind .rfl fun _ => (.bind .rfl fun _ => (.bif .rfl .rfl))) .rfl)) fun _ => .rfl))
def zc9 (n : Nat) (x : List zh) : Option (Str × Int) :=
 zb (zc8 n x) fun y1 =>
 bif y1 != 0 then
  some ([], y1)
 else
  zbq n (fun (s2 : Int × List UInt8 × List zo) =>
    bif decide (s2.1 < (x.length : Int)) then
     need (decide (0 ≤ s2.1) && decide (s2.1 ≤ (x.length : Int))) <|
     zb (zbY n (List.drop s2.1.toNat x)) fun y3 =>
     need (decide (0 ≤ s2.1) && (decide (s2.1 ≤ w64 (s2.1 + y3)) && decide (w64 (s2.1 + y3) ≤ (x.length : Int)))) <|
     zbq n (fun (s4 : Int × List UInt8) =>
       bif decide (s4.1 < ((List.drop s2.1.toNat (List.take (w64 (s2.1 + y3)).toNat x)).length : Int)) then
        zb (geti (List.drop s2.1.toNat (List.take (w64 (s2.1 + y3)).toNat x)) s4.1) fun y5 =>
        zb (zcC n (y5, s4.2)) fun y6 =>
        some (LO.again (w64 (s4.1 + 1), y6))
       else
        some (LO.out s4.2) : Int × List UInt8 → Option (LO (Int × List UInt8) (List UInt8) _)) (0, []) fun o7 =>
     zJ (X := Int × List UInt8 × List zo × List UInt8) (
       zb (geti x s2.1) fun y8 =>
       bif bif y8.kind == 9 then y3 == 2 else false then
        some (LX.out (s2.1, s2.2.1, s2.2.2, [(92 : UInt8), (10 : UInt8)]))
       else
        some (LX.out (s2.1, s2.2.1, s2.2.2, o7))) fun j9 =>
     zJ (X := Int × List UInt8 × List zo × zo) (
       bif decide (w64 ((j9.2.2.1.length : Int) - 4) ≥ 0) then
        need (decide (0 ≤ w64 ((j9.2.2.1.length : Int) - 4)) && decide (w64 ((j9.2.2.1.length : Int) - 4) < (j9.2.2.1.length : Int))) <|
        zb (j9.2.2.1[(w64 ((j9.2.2.1.length : Int) - 4)).toNat]?) fun y10 =>
        some (LX.out (j9.1, j9.2.1, j9.2.2.1, y10))
       else
        some (LX.out (j9.1, j9.2.1, j9.2.2.1, (⟨0, 0⟩ : zo)))) fun j11 =>
     need (decide (0 ≤ j11.2.2.2.at_) && decide (j11.2.2.2.at_ ≤ (j11.2.1.length : Int))) <|
     need (decide (j11.2.2.2.at_.toNat + (j11.2.1.length - j11.2.2.2.at_.toNat) ≤ j11.2.1.length)) <|
     need (zjW (List.take (j11.2.1.length - j11.2.2.2.at_.toNat) (List.drop j11.2.2.2.at_.toNat j11.2.1)).length j9.2.2.2.length) <|
     zb (zcc n (List.take (j11.2.1.length - j11.2.2.2.at_.toNat) (List.drop j11.2.2.2.at_.toNat j11.2.1) ++ j9.2.2.2)) fun y12 =>
     zJ (X := Int × List zo × List UInt8) (
       need (decide (0 ≤ j11.2.2.2.token) && (decide (j11.2.2.2.token ≤ w64 (j11.1 + y3)) && decide (w64 (j11.1 + y3) ≤ (x.length : Int))) || !(!(y12.2 != 0))) <|
       zb (zy (!(y12.2 != 0)) (QI n (y12.1, List.drop j11.2.2.2.token.toNat (List.take (w64 (j11.1 + y3)).toNat x))) (default : Bool)) fun y13 =>
       bif bif y12.2 != 0 then true else !y13 then
        need (zx j11.2.1.length ([47, 42, 42, 47] : Str).length 1) <|
        some (LX.out (j11.1, j11.2.2.1, j11.2.1 ++ ([47, 42, 42, 47] : Str)))
       else
        some (LX.out (j11.1, j11.2.2.1, j11.2.1))) fun j14 =>
     need (zx j14.2.1.length 1 16) <|
     need (zx j14.2.2.length j9.2.2.2.length 1) <|
     bif decide (((j14.2.2 ++ j9.2.2.2).length : Int) > 4000) then
      some (LO.ret ([], 28))
     else
      some (LO.again (w64 (j14.1 + y3), j14.2.2 ++ j9.2.2.2, j14.2.1 ++ [(⟨j14.1, (j14.2.2.length : Int)⟩ : zo)]))
    else
     some (LO.out s2.2.1) : Int × List UInt8 × List zo → Option (LO (Int × List UInt8 × List zo) (List UInt8) _)) (0, [], []) fun o15 =>
  some (o15, 0)
theorem zjB (n : Nat) (x : List zh) : Le (zc9 n x) (zci x) := by
 unfold zc9 zci
 exact (.bind (zcD n _) fun _ => (.bif .rfl (.loop (fun _ => (.bif (.need (.bind (zeU n _) fun _ => (.need (.loop (fun _ => (.bif (.bind .rfl fun _ => (.bind (zh0 n _) fun _ => .rfl)) .rfl)) fun _ => (.join (.bind .rfl fun _ => (.bif .rfl .rfl)) fun _ => (.join (.bif (.need (.bind .rfl fun _ => .rfl)) .rfl) fun _ => (.need (.need (.need (.bind (zg7 n _) fun _ => (.join (.need (.bind (.cond (zdd n _)) fun _ => (.bif (.need .rfl) .rfl))) fun _ => (.need (.need (.bif .rfl .rfl)))))))))))))) .rfl)) fun _ => .rfl)))
def ZT (n : Nat) (x : Str × List zh) : Option Bool :=
 zb (zc9 n x.2) fun y1 =>
 some (bif y1.2 == 0 then y1.1 == x.1 else false)
theorem zG (n : Nat) (x : Str × List zh) : Le (ZT n x) (zL x) := by
 unfold ZT zL
 exact (.bind (zjB n _) fun _ => .rfl)
def zeT (n : Nat) (x : Unit) : Option Bool :=
 zb (Qx n [49, 32, 97]) fun y1 =>
 zb (ZT n ([92, 51, 49, 32, 92, 50, 48, 32, 97], [y1])) fun y2 =>
 zb (zy y2 (ZT n ([34, 97, 92, 34, 92, 97, 32, 34], [(⟨5, [97, 34, 10], 0, [], false⟩ : zh)])) (default : Bool)) fun y3 =>
 zb (zy (bif y2 then y3 else false) (ZT n ([49, 46, 53, 92, 54, 53, 32, 51], [(⟨12, [], 1500, [101, 51], false⟩ : zh)])) (default : Bool)) fun y4 =>
 zb (zy (bif bif y2 then y3 else false then y4 else false) (Qx n [97]) (default : zh)) fun y5 =>
 zb (zy (bif bif y2 then y3 else false then y4 else false) (Qx n [98]) (default : zh)) fun y6 =>
 zb (zy (bif bif y2 then y3 else false then y4 else false) (ZT n ([97, 47, 42, 42, 47, 98], [y5, y6])) (default : Bool)) fun y7 =>
 zb (zy (bif bif bif y2 then y3 else false then y4 else false then y7 else false) (Qx n [97]) (default : zh)) fun y8 =>
 zb (zy (bif bif bif y2 then y3 else false then y4 else false then y7 else false) (ZT n ([97, 58], [y8, (⟨16, [], 0, [], false⟩ : zh)])) (default : Bool)) fun y9 =>
 zb (zy (bif bif bif bif y2 then y3 else false then y4 else false then y7 else false then y9 else false) (ZT n ([50, 46, 48], [(⟨10, [], 2000, [], false⟩ : zh)])) (default : Bool)) fun y10 =>
 some (bif bif bif bif bif y2 then y3 else false then y4 else false then y7 else false then y9 else false then y10 else false)
theorem zh1 (n : Nat) (x : Unit) : Le (zeT n x) (Q3 x) := by
 unfold zeT Q3
 exact (.bind (zaW n _) fun _ => (.bind (zG n _) fun _ => (.bind (.cond (zG n _)) fun _ => (.bind (.cond (zG n _)) fun _ => (.bind (.cond (zaW n _)) fun _ => (.bind (.cond (zaW n _)) fun _ => (.bind (.cond (zG n _)) fun _ => (.bind (.cond (zaW n _)) fun _ => (.bind (.cond (zG n _)) fun _ => (.bind (.cond (zG n _)) fun _ => .rfl))))))))))
def zgY (n : Nat) (x : Str) : Option (Str × Int) :=
 zb (zy (!(x == [])) (Zl n (x, 0)) (default : Int)) fun y1 =>
 bif bif x == [] then true else decide (y1 ≥ 0) then
  some ([], 8)
 else
  zb (qI n x) fun y2 =>
  zb (zcB n (x, y2)) fun y3 =>
  bif bif decide ((x.length : Int) > 4000) then true else decide ((y3.length : Int) > 4000) then
   some ([], 28)
  else
   some (y3, 0)
theorem zbZ (n : Nat) (x : Str) : Le (zgY n x) (zch x) := by
 unfold zgY zch
 exact (.bind (.cond (ZN n _)) fun _ => (.bif .rfl (.bind (Qz n _) fun _ => (.bind (zhZ n _) fun _ => (.bif .rfl .rfl)))))
end Go.Lv.VT
