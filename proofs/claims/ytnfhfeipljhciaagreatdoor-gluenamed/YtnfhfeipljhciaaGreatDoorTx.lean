/- Texts. -/
import Derived.Test.YtnfhfeipljhciaaGreatDoorTy
import Derived.Test.YtnfhfeipljhciaaGreatDoorLf
namespace Go.Lv.VT
set_option maxRecDepth 100000
noncomputable def Z5 (x : Str) : Option zh :=
 some (⟨1, x, 0, [], false⟩ : zh)
noncomputable def strings_IndexByte (x : Str × Int) : Option Int :=
 zb (zel (x.1, x.2)) fun y1 =>
 some y1
noncomputable def stringslite_HasPrefix (x : Str × Str) : Option Bool :=
 need (decide (0 ≤ (x.2.length : Int)) && decide ((x.2.length : Int) ≤ (x.1.length : Int)) || !(decide ((x.1.length : Int) ≥ (x.2.length : Int)))) <|
 some (bif decide ((x.1.length : Int) ≥ (x.2.length : Int)) then List.take x.2.length x.1 == x.2 else false)
noncomputable def stringslite_TrimPrefix (x : Str × Str) : Option Str :=
 zb (stringslite_HasPrefix (x.1, x.2)) fun y1 =>
 bif y1 then
  need (decide (0 ≤ (x.2.length : Int)) && decide ((x.2.length : Int) ≤ (x.1.length : Int))) <|
  some (List.drop x.2.length x.1)
 else
  some x.1
noncomputable def strings_TrimPrefix (x : Str × Str) : Option Str :=
 zb (stringslite_TrimPrefix (x.1, x.2)) fun y1 =>
 some y1
noncomputable def Zy (x : Int) : Option Bool :=
 some (bif decide (48 ≤ x) then decide (x ≤ 57) else false)
noncomputable def Qu (x : Str) : Option Bool :=
 zb (strings_TrimPrefix (x, [45])) fun y1 =>
 zb (zy (!(y1 == [])) (geti y1 0) 0) fun y2 =>
 zb (zy (!(y1 == [])) (Zy (y2.toNat : Int)) (default : Bool)) fun y3 =>
 some (bif !(y1 == []) then y3 else false)
noncomputable def strings_HasPrefix (x : Str × Str) : Option Bool :=
 zb (stringslite_HasPrefix (x.1, x.2)) fun y1 =>
 some y1
noncomputable def Qs (x : Int) : Option Bool :=
 some (bif bif decide (97 ≤ ibOr IntKind.u8 x 32) then decide (ibOr IntKind.u8 x 32 ≤ 122) else false then decide (x < 128) else false)
noncomputable def qE (x : Int) : Option Bool :=
 zb (Qs x) fun y1 =>
 zb (zy (!y1) (Zy x) (default : Bool)) fun y2 =>
 some (bif bif bif bif y1 then true else y2 then true else x == 95 then true else x == 45 then true else decide (x ≥ 128))
noncomputable def strings_Contains (x : Str × Str) : Option Bool :=
 zb (zfU (x.1, x.2)) fun y1 =>
 some (decide (y1 ≥ 0))
noncomputable def zc7 (x : zh) : Option Bool :=
 need (zjC x.text.length x.unit.length) <|
 zb (strings_IndexByte (x.text ++ x.unit, 0)) fun y1 =>
 zO (X := Bool × Bool × Bool × Bool × Bool) (
   zO (X := Bool × Bool × Bool × Bool × Bool × Bool) (
     bif x.kind == 1 then
      some (LX.out (false, false, false, false, decide (y1 < 0), x.kind == 1))
     else
      bif x.kind == 2 then
       some (LX.out (false, false, false, false, decide (y1 < 0), x.kind == 2))
      else
       some (LX.out (false, false, false, false, decide (y1 < 0), x.kind == 3))) fun j2 =>
   bif j2.2.2.2.2.2 then
    some (LX.out (true, j2.2.1, j2.2.2.1, j2.2.2.2.1, bif j2.2.2.2.2.1 then !(x.text == []) else false))
   else
    bif x.kind == 4 then
     zb (zy (!x.flag && (bif j2.2.2.2.2.1 then !(x.text == []) else false)) (Qu x.text) (default : Bool)) fun y3 =>
     zb (zy (y3 && (!x.flag && (bif j2.2.2.2.2.1 then !(x.text == []) else false))) (strings_HasPrefix (x.text, [45, 45])) (default : Bool)) fun y4 =>
     some (LX.out (true, j2.2.1, j2.2.2.1, true, bif bif j2.2.2.2.2.1 then !(x.text == []) else false then bif bif x.flag then true else bif y3 then !y4 else false then true else x.text == [45] else false))
    else
     zO (X := Bool × Bool × Bool × Bool × Bool × Bool) (
       bif x.kind == 5 then
        some (LX.out (j2.1, j2.2.1, j2.2.2.1, j2.2.2.2.1, j2.2.2.2.2.1, x.kind == 5))
       else
        some (LX.out (j2.1, j2.2.1, j2.2.2.1, j2.2.2.2.1, j2.2.2.2.2.1, x.kind == 7))) fun j5 =>
     bif j5.2.2.2.2.2 then
      some (LX.out (true, j5.2.1, j5.2.2.1, j5.2.2.2.1, j5.2.2.2.2.1))
     else
      bif x.kind == 9 then
       zb (zy (bif j5.2.2.2.2.1 then (x.text.length : Int) == 1 else false) (geti x.text 0) 0) fun y6 =>
       zb (zy (bif j5.2.2.2.2.1 then (x.text.length : Int) == 1 else false) (qE (y6.toNat : Int)) (default : Bool)) fun y7 =>
       zb (zy (bif bif bif j5.2.2.2.2.1 then (x.text.length : Int) == 1 else false then !y7 else false then true else x.text == [45]) (strings_Contains ([32, 9, 10, 12, 13, 34, 39, 58, 59, 44, 91, 93, 40, 41, 123, 125], x.text)) (default : Bool)) fun y8 =>
       some (LX.out (true, j5.2.1, j5.2.2.1, j5.2.2.2.1, bif bif bif bif j5.2.2.2.2.1 then (x.text.length : Int) == 1 else false then !y7 else false then true else x.text == [45] then !y8 else false))
      else
       zO (X := Bool × Bool × Bool × Bool × Bool) (
         bif x.kind == 10 then
          some (LX.out (j5.2.1, j5.2.2.1, j5.2.2.2.1, j5.2.2.2.2.1, x.kind == 10))
         else
          bif x.kind == 11 then
           some (LX.out (j5.2.1, j5.2.2.1, j5.2.2.2.1, j5.2.2.2.2.1, x.kind == 11))
          else
           some (LX.out (j5.2.1, j5.2.2.1, j5.2.2.2.1, j5.2.2.2.2.1, x.kind == 12))) fun j9 =>
       bif j9.2.2.2.2 then
        some (LX.out (j5.1, x.kind == 12, true, x.kind != 11, bif bif bif bif j9.2.2.2.1 then decide (x.num ≥ (-1000000000000)) else false then decide (x.num ≤ 1000000000000) else false then bif !x.flag then true else Int.tmod x.num 1000 == 0 else false then bif !(x.kind == 12) then true else !(x.unit == []) else false))
       else
        some (LX.out (j5.1, j9.1, j9.2.1, j9.2.2.1, bif decide (x.kind ≥ 13) then decide (x.kind ≤ 24) else false))) fun j10 =>
 some (bif bif bif bif j10.2.2.2.2 then bif j10.1 then true else x.text == [] else false then bif j10.2.1 then true else x.unit == [] else false then bif j10.2.2.1 then true else x.num == 0 else false then bif j10.2.2.2.1 then true else !x.flag else false)
noncomputable def Qv (x : (Int × Int) × List zh) : Option Bool :=
 zb (zy (decide (x.1.1 < (x.2.length : Int))) (geti x.2 x.1.1) (default : zh)) fun y1 =>
 some (bif decide (x.1.1 < (x.2.length : Int)) then y1.kind == x.1.2 else false)
noncomputable def zaS (x : Str) : Option Str :=
 need (decide (x.length ≤ maxLen)) <|
 zaA (fun (s1 : Int × List UInt8) =>
   bif decide (s1.1 < (x.length : Int)) then
    zO (X := Int × List UInt8) (
      need (decide (0 ≤ s1.1) && decide (s1.1 < (s1.2.length : Int))) <|
      zb s1.2[s1.1.toNat]? fun y2 =>
      bif bif decide (65 ≤ (y2.toNat : Int)) then decide ((y2.toNat : Int) ≤ 90) else false then
       need (decide (0 ≤ s1.1) && decide (s1.1 < (s1.2.length : Int))) <|
       zb s1.2[s1.1.toNat]? fun y3 =>
       need (decide (0 ≤ s1.1) && decide (s1.1 < (s1.2.length : Int))) <|
       zb s1.2[s1.1.toNat]? fun y4 =>
       zb (zW (ibOr IntKind.u8 (y3.toNat : Int) 32)) fun y5 =>
       some (LX.out (s1.1, List.set s1.2 s1.1.toNat y5))
      else
       some (LX.out (s1.1, s1.2))) fun j6 =>
    some (LO.again (w64 (j6.1 + 1), j6.2))
   else
    some (LO.out s1.2) : Int × List UInt8 → Option (LO (Int × List UInt8) (List UInt8) _)) (0, x) fun o7 =>
 some o7
noncomputable def Q3 (x : Str × Str) : Option Bool :=
 zb (zaS x.1) fun y1 =>
 zb (zaS x.2) fun y2 =>
 some (y1 == y2)
noncomputable def zaR (x : List zh) : Option Int :=
 zb (geti x 0) fun y1 =>
 bif bif y1.kind == 9 then y1.text == [92] else false then
  zb (Qv ((1, 13), x)) fun y2 =>
  bif !y2 then
   some 0
  else
   some 2
 else
  zb (zy (y1.kind == 2) (Q3 (y1.text, [117, 114, 108])) (default : Bool)) fun y3 =>
  bif bif y1.kind == 2 then y3 else false then
   zO (X := Int) (
     zb (Qv ((1, 13), x)) fun y4 =>
     bif y4 then
      some (LX.out 2)
     else
      some (LX.out 1)) fun j5 =>
   zb (Qv ((j5, 5), x)) fun y6 =>
   bif !y6 then
    some 0
   else
    some (w64 (j5 + 1))
  else
   some 1
noncomputable def zaQ (x : List zh) : Option Int :=
 bif decide ((x.length : Int) > 1500) then
  some 4
 else
  zaA (fun (s1 : Int) =>
    bif decide (s1 < (x.length : Int)) then
     zb (geti x s1) fun y2 =>
     zb (zc7 y2) fun y3 =>
     need (decide (0 ≤ s1) && decide (s1 ≤ (x.length : Int)) || !(!(!y3))) <|
     zb (zy (!(!y3)) (zaR (List.drop s1.toNat x)) (default : Int)) fun y4 =>
     bif bif !y3 then true else y4 == 0 then
      some (LO.ret 8)
     else
      some (LO.again (w64 (s1 + 1)))
    else
     some (LO.out ()) : Int → Option (LO (Int) (Unit) _)) 0 fun o5 =>
  some 0
noncomputable def ZX (x : Str) : Option Int :=
 zb (strings_HasPrefix (x, [45])) fun y1 =>
 bif y1 then
  some 2
 else
  some 1
noncomputable def zZ (x : Int × List UInt8) : Option (List UInt8) :=
 zb (zy (bif decide (x.1 > 32) then decide (x.1 < 127) else false) (Zy x.1) (default : Bool)) fun y1 =>
 zb (zy (bif bif decide (x.1 > 32) then decide (x.1 < 127) else false then !y1 else false) (Qs x.1) (default : Bool)) fun y2 =>
 bif bif bif bif decide (x.1 > 32) then decide (x.1 < 127) else false then !y1 else false then !y2 else false then
  zb (zW x.1) fun y3 =>
  need (zB x.2.length 2 1) <|
  some (x.2 ++ [(92 : UInt8), y3])
 else
  need (zB x.2.length 1 1) <|
  zb (zbf ((wu64 x.1, 16), x.2 ++ [(92 : UInt8)])) fun y4 =>
  need (zB y4.length 1 1) <|
  some (y4 ++ [(32 : UInt8)])
noncomputable def Q0 (x : Str × Int) : Option (List UInt8) :=
 zaA (fun (s1 : Int × List UInt8) =>
   bif decide (s1.1 < (x.1.length : Int)) then
    zO (X := Int × List UInt8) (
      zb (geti x.1 s1.1) fun y2 =>
      zb (qE (y2.toNat : Int)) fun y3 =>
      zb (zy (!(decide (s1.1 ≥ x.2)) && y3) (Zy (y2.toNat : Int)) (default : Bool)) fun y4 =>
      bif bif bif y3 then bif decide (s1.1 ≥ x.2) then true else !y4 else false then bif x.2 == 0 then true else !(x.1 == [45]) else false then
       zb (zW (y2.toNat : Int)) fun y5 =>
       need (zB s1.2.length 1 1) <|
       some (LX.out (s1.1, s1.2 ++ [y5]))
      else
       zb (zZ ((y2.toNat : Int), s1.2)) fun y6 =>
       some (LX.out (s1.1, y6))) fun j7 =>
    some (LO.again (w64 (j7.1 + 1), j7.2))
   else
    some (LO.out s1.2) : Int × List UInt8 → Option (LO (Int × List UInt8) (List UInt8) _)) (0, []) fun o8 =>
 some o8
noncomputable def qy (x : (Str × Int) × List UInt8) : Option (List UInt8) :=
 zaA (fun (s1 : Int × List UInt8) =>
   bif decide (s1.1 < (x.1.1.length : Int)) then
    zO (X := Int × List UInt8) (
      zb (geti x.1.1 s1.1) fun y2 =>
      zb (qE (y2.toNat : Int)) fun y3 =>
      zb (zy (!(decide (s1.1 ≥ x.1.2)) && y3) (Zy (y2.toNat : Int)) (default : Bool)) fun y4 =>
      bif bif bif y3 then bif decide (s1.1 ≥ x.1.2) then true else !y4 else false then bif x.1.2 == 0 then true else !(x.1.1 == [45]) else false then
       zb (zW (y2.toNat : Int)) fun y5 =>
       need (zB s1.2.length 1 1) <|
       some (LX.out (s1.1, s1.2 ++ [y5]))
      else
       zb (zZ ((y2.toNat : Int), s1.2)) fun y6 =>
       some (LX.out (s1.1, y6))) fun j7 =>
    some (LO.again (w64 (j7.1 + 1), j7.2))
   else
    some (LO.out s1.2) : Int × List UInt8 → Option (LO (Int × List UInt8) (List UInt8) _)) (0, x.2) fun o8 =>
 some o8
noncomputable def zcd (x : Unit) : Option qf :=
 some (⟨[32], [60, 33, 45, 45], [45, 45, 62], [58], [59], [44], [91], [93], [40], [41], [123], [125]⟩ : qf)
noncomputable def qX (x : (Int × Bool) × List UInt8) : Option (List UInt8) :=
 zO (X := Int × List UInt8) (
   bif decide (x.1.1 < 0) then
    need (zB x.2.length 1 1) <|
    some (LX.out (w64 (0 - x.1.1), x.2 ++ [(45 : UInt8)]))
   else
    some (LX.out (x.1.1, x.2))) fun j1 =>
 zb (zdy ((w64 (Int.tdiv j1.1 1000), 10), j1.2)) fun y2 =>
 zb (zfo (w64 (1000 + Int.tmod j1.1 1000), 10)) fun y3 =>
 need (decide (1 ≤ (y3.length : Int))) <|
 zb (zfW (List.drop 1 y3, [48])) fun y4 =>
 zO (X := List UInt8) (
   bif !(y4 == []) then
    need (zB y2.length 1 1) <|
    need (zB (y2 ++ [(46 : UInt8)]).length y4.length 1) <|
    some (LX.out (y2 ++ [(46 : UInt8)] ++ y4))
   else
    bif x.1.2 then
     need (zB y2.length ([46, 48] : Str).length 1) <|
     some (LX.out (y2 ++ ([46, 48] : Str)))
    else
     some (LX.out y2)) fun j5 =>
 some j5
noncomputable def zbF (x : zh × List UInt8) : Option (List UInt8) :=
 bif x.1.kind == 1 then
  zb (ZX x.1.text) fun y1 =>
  zb (qy ((x.1.text, y1), x.2)) fun y2 =>
  some y2
 else
  bif x.1.kind == 2 then
   zb (ZX x.1.text) fun y3 =>
   zb (qy ((x.1.text, y3), x.2)) fun y4 =>
   need (zB y4.length 1 1) <|
   some (y4 ++ [(40 : UInt8)])
  else
   bif x.1.kind == 3 then
    need (zB x.2.length 1 1) <|
    zb (ZX x.1.text) fun y5 =>
    zb (qy ((x.1.text, y5), x.2 ++ [(64 : UInt8)])) fun y6 =>
    some y6
   else
    bif x.1.kind == 4 then
     zO (X := Int × List UInt8) (
       bif x.1.flag then
        zb (ZX x.1.text) fun y7 =>
        some (LX.out (y7, x.2))
       else
        some (LX.out (0, x.2))) fun j8 =>
     need (zB j8.2.length 1 1) <|
     zb (qy ((x.1.text, j8.1), j8.2 ++ [(35 : UInt8)])) fun y9 =>
     some y9
    else
     bif x.1.kind == 5 then
      need (zB x.2.length 1 1) <|
      need (decide (x.1.text.length ≤ maxLen)) <|
      zaA (fun (s10 : Int × List UInt8) =>
        bif decide (s10.1 < (x.1.text.length : Int)) then
         zO (X := Int × List UInt8) (
           need (decide (0 ≤ s10.1) && decide (s10.1 < (x.1.text.length : Int))) <|
           zb x.1.text[s10.1.toNat]? fun y11 =>
           zb (strings_IndexByte ([10, 12, 13, 34, 92], (y11.toNat : Int))) fun y12 =>
           bif decide (y12 ≥ 0) then
            zb (zZ ((y11.toNat : Int), s10.2)) fun y13 =>
            some (LX.out (s10.1, y13))
           else
            zb (zW (y11.toNat : Int)) fun y14 =>
            need (zB s10.2.length 1 1) <|
            some (LX.out (s10.1, s10.2 ++ [y14]))) fun j15 =>
         some (LO.again (w64 (j15.1 + 1), j15.2))
        else
         some (LO.out s10.2) : Int × List UInt8 → Option (LO (Int × List UInt8) (List UInt8) _)) (0, x.2 ++ [(34 : UInt8)]) fun o16 =>
      need (zB o16.length 1 1) <|
      some (o16 ++ [(34 : UInt8)])
     else
      bif x.1.kind == 7 then
       need (zB x.2.length ([117, 114, 108, 40] : Str).length 1) <|
       need (decide (x.1.text.length ≤ maxLen)) <|
       zaA (fun (s17 : Int × List UInt8) =>
         bif decide (s17.1 < (x.1.text.length : Int)) then
          zO (X := Int × List UInt8) (
            need (decide (0 ≤ s17.1) && decide (s17.1 < (x.1.text.length : Int))) <|
            zb x.1.text[s17.1.toNat]? fun y18 =>
            zb (zy (!(decide ((y18.toNat : Int) ≤ 32))) (strings_IndexByte ([34, 39, 40, 41, 92, 127], (y18.toNat : Int))) (default : Int)) fun y19 =>
            bif bif decide ((y18.toNat : Int) ≤ 32) then true else decide (y19 ≥ 0) then
             zb (zZ ((y18.toNat : Int), s17.2)) fun y20 =>
             some (LX.out (s17.1, y20))
            else
             zb (zW (y18.toNat : Int)) fun y21 =>
             need (zB s17.2.length 1 1) <|
             some (LX.out (s17.1, s17.2 ++ [y21]))) fun j22 =>
          some (LO.again (w64 (j22.1 + 1), j22.2))
         else
          some (LO.out s17.2) : Int × List UInt8 → Option (LO (Int × List UInt8) (List UInt8) _)) (0, x.2 ++ ([117, 114, 108, 40] : Str)) fun o23 =>
       need (zB o23.length 1 1) <|
       some (o23 ++ [(41 : UInt8)])
      else
       bif x.1.kind == 9 then
        need (zB x.2.length x.1.text.length 1) <|
        some (x.2 ++ x.1.text)
       else
        bif x.1.kind == 10 then
         zb (qX ((x.1.num, !x.1.flag), x.2)) fun y24 =>
         some y24
        else
         bif x.1.kind == 11 then
          zb (qX ((x.1.num, false), x.2)) fun y25 =>
          need (zB y25.length 1 1) <|
          some (y25 ++ [(37 : UInt8)])
         else
          bif x.1.kind == 12 then
           zb (qX ((x.1.num, !x.1.flag), x.2)) fun y26 =>
           zb (geti x.1.unit 0) fun y27 =>
           need (decide (1 ≤ (x.1.unit.length : Int)) || !(ibOr IntKind.u8 (y27.toNat : Int) 32 == 101)) <|
           zb (zy (ibOr IntKind.u8 (y27.toNat : Int) 32 == 101) (Qu (List.drop 1 x.1.unit)) (default : Bool)) fun y28 =>
           need (decide (1 ≤ (x.1.unit.length : Int)) || !(bif ibOr IntKind.u8 (y27.toNat : Int) 32 == 101 then y28 else false)) <|
           zb (zy (bif ibOr IntKind.u8 (y27.toNat : Int) 32 == 101 then y28 else false) (strings_HasPrefix (List.drop 1 x.1.unit, [45, 45])) (default : Bool)) fun y29 =>
           bif bif bif ibOr IntKind.u8 (y27.toNat : Int) 32 == 101 then y28 else false then !y29 else false then
            zb (geti x.1.unit 0) fun y30 =>
            zb (zZ ((y30.toNat : Int), y26)) fun y31 =>
            need (decide (1 ≤ (x.1.unit.length : Int))) <|
            zb (qy ((List.drop 1 x.1.unit, 0), y31)) fun y32 =>
            some y32
           else
            zb (ZX x.1.unit) fun y33 =>
            zb (qy ((x.1.unit, y33), y26)) fun y34 =>
            some y34
          else
           zb (zcd ()) fun y35 =>
           zb (geti [y35.e0, y35.e1, y35.e2, y35.e3, y35.e4, y35.e5, y35.e6, y35.e7, y35.e8, y35.e9, y35.e10, y35.e11] (wu8 (x.1.kind - 13))) fun y36 =>
           need (zB x.2.length y36.length 1) <|
           some (x.2 ++ y36)
noncomputable def zJ (x : za) : Option za :=
 zaA (fun (s1 : za) =>
   need (decide (0 ≤ s1.at_) && decide (s1.at_ ≤ (s1.s.length : Int))) <|
   zb (strings_HasPrefix (List.drop s1.at_.toNat s1.s, [47, 42])) fun y2 =>
   bif y2 then
    need (decide (0 ≤ w64 (s1.at_ + 2)) && decide (w64 (s1.at_ + 2) ≤ (s1.s.length : Int))) <|
    zb (zfU (List.drop (w64 (s1.at_ + 2)).toNat s1.s, [42, 47])) fun y3 =>
    bif decide (y3 < 0) then
     some (LO.ret (⟨s1.s, (s1.s.length : Int)⟩ : za))
    else
     some (LO.again (⟨s1.s, w64 (s1.at_ + w64 (y3 + 4))⟩ : za))
   else
    some (LO.out s1) : za → Option (LO (za) (za) _)) x fun o4 =>
 some o4
noncomputable def ze (x : Int × za) : Option Int :=
 bif decide (w64 (x.2.at_ + x.1) < (x.2.s.length : Int)) then
  zb (geti x.2.s (w64 (x.2.at_ + x.1))) fun y1 =>
  some (w64 (y1.toNat : Int))
 else
  some (-1)
noncomputable def Zr (x : Int) : Option Bool :=
 some (bif bif x == 32 then true else x == 9 then true else x == 10)
noncomputable def zH (x : za) : Option za :=
 zaA (fun (s1 : za) =>
   zb (ze (0, s1)) fun y2 =>
   zb (Zr y2) fun y3 =>
   bif y3 then
    some (LO.again (⟨s1.s, w64 (s1.at_ + 1)⟩ : za))
   else
    some (LO.out s1) : za → Option (LO (za) (za) _)) x fun o4 =>
 some o4
noncomputable def Zg (x : Int) : Option (List UInt8) :=
 bif decide (wu32 x ≤ 2047) then
  zb (zW (ibOr IntKind.u8 192 (wu8 (zat IntKind.i32 x 6)))) fun y1 =>
  zb (zW (ibOr IntKind.u8 128 (za4 IntKind.u8 (wu8 x) 63))) fun y2 =>
  need (zB 0 2 1) <|
  some [y1, y2]
 else
  zO (X := Bool) (
    bif decide (wu32 x < 55296) then
     some (LX.out (decide (wu32 x < 55296)))
    else
     some (LX.out (bif decide (57343 < wu32 x) then decide (wu32 x ≤ 65535) else false))) fun j3 =>
  bif j3 then
   zb (zW (ibOr IntKind.u8 224 (wu8 (zat IntKind.i32 x 12)))) fun y4 =>
   zb (zW (ibOr IntKind.u8 128 (za4 IntKind.u8 (wu8 (zat IntKind.i32 x 6)) 63))) fun y5 =>
   zb (zW (ibOr IntKind.u8 128 (za4 IntKind.u8 (wu8 x) 63))) fun y6 =>
   need (zB 0 3 1) <|
   some [y4, y5, y6]
  else
   bif bif decide (wu32 x > 65535) then decide (wu32 x ≤ 1114111) else false then
    zb (zW (ibOr IntKind.u8 240 (wu8 (zat IntKind.i32 x 18)))) fun y7 =>
    zb (zW (ibOr IntKind.u8 128 (za4 IntKind.u8 (wu8 (zat IntKind.i32 x 12)) 63))) fun y8 =>
    zb (zW (ibOr IntKind.u8 128 (za4 IntKind.u8 (wu8 (zat IntKind.i32 x 6)) 63))) fun y9 =>
    zb (zW (ibOr IntKind.u8 128 (za4 IntKind.u8 (wu8 x) 63))) fun y10 =>
    need (zB 0 4 1) <|
    some [y7, y8, y9, y10]
   else
    need (zB 0 3 1) <|
    some [(239 : UInt8), (191 : UInt8), (189 : UInt8)]
noncomputable def ZZ (x : Int) : Option (List UInt8) :=
 bif decide (wu32 x ≤ 127) then
  zb (zW (wu8 x)) fun y1 =>
  need (zB 0 1 1) <|
  some [y1]
 else
  zb (Zg x) fun y2 =>
  some y2
noncomputable def ZF (x : Int × Int × Int) : Option Bool :=
 some (bif decide (x.2.1 ≤ x.1) then decide (x.1 ≤ x.2.2) else false)
noncomputable def Zc (x : Int) : Option Bool :=
 zb (ZF (x, 48, 57)) fun y1 =>
 some y1
noncomputable def QY (x : Int) : Option Int :=
 zb (Zc x) fun y1 =>
 bif y1 then
  some (w64 (x - 48))
 else
  zb (zy (x != (-1)) (ZF (ibOr IntKind.i64 x 32, 97, 102)) (default : Bool)) fun y2 =>
  bif bif bif bif x != (-1) then y2 else false then decide (x > 64) else false then decide (x < 128) else false then
   some (w64 (w64 (ibOr IntKind.i64 x 32 - 97) + 10))
  else
   some (-1)
noncomputable def Zp (x : za) : Option (za × List UInt8) :=
 zb (ze (0, (⟨x.s, w64 (x.at_ + 1)⟩ : za))) fun y1 =>
 bif y1 == (-1) then
  zb (ZZ 65533) fun y2 =>
  some ((⟨x.s, w64 (x.at_ + 1)⟩ : za), y2)
 else
  zb (QY y1) fun y3 =>
  bif decide (y3 < 0) then
   zb (zW (wu8 y1)) fun y4 =>
   need (zB 0 1 1) <|
   some ((⟨x.s, w64 (w64 (x.at_ + 1) + 1)⟩ : za), [y4])
  else
   zaA (fun (s5 : (Int × Int) × za) =>
     bif decide (s5.1.2 < 6) then
      zb (ze (0, s5.2)) fun y6 =>
      zb (QY y6) fun y7 =>
      bif decide (y7 < 0) then
       some (LO.out (s5.1.1, s5.2))
      else
       some (LO.again ((ibOr IntKind.i64 (zlS IntKind.i64 s5.1.1 4) y7, w64 (s5.1.2 + 1)), (⟨s5.2.s, w64 (s5.2.at_ + 1)⟩ : za)))
     else
      some (LO.out (s5.1.1, s5.2)) : (Int × Int) × za → Option (LO ((Int × Int) × za) (Int × za) _)) ((0, 0), (⟨x.s, w64 (x.at_ + 1)⟩ : za)) fun o8 =>
   zO (X := Int × za) (
     zb (ze (0, o8.2)) fun y9 =>
     zb (Zr y9) fun y10 =>
     bif y10 then
      some (LX.out (o8.1, (⟨o8.2.s, w64 (o8.2.at_ + 1)⟩ : za)))
     else
      some (LX.out (o8.1, o8.2))) fun j11 =>
   zO (X := Int) (
     bif j11.1 == 0 then
      some (LX.out 65533)
     else
      some (LX.out j11.1)) fun j12 =>
   zb (ZZ (w32 j12)) fun y13 =>
   some (j11.2, y13)
noncomputable def zQ (x : Int × List UInt8) : Option (List UInt8) :=
 bif decide (wu32 x.1 ≤ 2047) then
  zb (zW (ibOr IntKind.u8 192 (wu8 (zat IntKind.i32 x.1 6)))) fun y1 =>
  zb (zW (ibOr IntKind.u8 128 (za4 IntKind.u8 (wu8 x.1) 63))) fun y2 =>
  need (zB x.2.length 2 1) <|
  some (x.2 ++ [y1, y2])
 else
  zO (X := Bool × List UInt8) (
    bif decide (wu32 x.1 < 55296) then
     some (LX.out (decide (wu32 x.1 < 55296), x.2))
    else
     some (LX.out (bif decide (57343 < wu32 x.1) then decide (wu32 x.1 ≤ 65535) else false, x.2))) fun j3 =>
  bif j3.1 then
   zb (zW (ibOr IntKind.u8 224 (wu8 (zat IntKind.i32 x.1 12)))) fun y4 =>
   zb (zW (ibOr IntKind.u8 128 (za4 IntKind.u8 (wu8 (zat IntKind.i32 x.1 6)) 63))) fun y5 =>
   zb (zW (ibOr IntKind.u8 128 (za4 IntKind.u8 (wu8 x.1) 63))) fun y6 =>
   need (zB j3.2.length 3 1) <|
   some (j3.2 ++ [y4, y5, y6])
  else
   bif bif decide (wu32 x.1 > 65535) then decide (wu32 x.1 ≤ 1114111) else false then
    zb (zW (ibOr IntKind.u8 240 (wu8 (zat IntKind.i32 x.1 18)))) fun y7 =>
    zb (zW (ibOr IntKind.u8 128 (za4 IntKind.u8 (wu8 (zat IntKind.i32 x.1 12)) 63))) fun y8 =>
    zb (zW (ibOr IntKind.u8 128 (za4 IntKind.u8 (wu8 (zat IntKind.i32 x.1 6)) 63))) fun y9 =>
    zb (zW (ibOr IntKind.u8 128 (za4 IntKind.u8 (wu8 x.1) 63))) fun y10 =>
    need (zB j3.2.length 4 1) <|
    some (j3.2 ++ [y7, y8, y9, y10])
   else
    need (zB j3.2.length 3 1) <|
    some (j3.2 ++ [(239 : UInt8), (191 : UInt8), (189 : UInt8)])
noncomputable def Zb (x : Int × List UInt8) : Option (List UInt8) :=
 bif decide (wu32 x.1 ≤ 127) then
  zb (zW (wu8 x.1)) fun y1 =>
  need (zB x.2.length 1 1) <|
  some (x.2 ++ [y1])
 else
  zb (zQ (x.1, x.2)) fun y2 =>
  some y2
noncomputable def zu (x : za × List UInt8) : Option (za × List UInt8) :=
 zb (ze (0, (⟨x.1.s, w64 (x.1.at_ + 1)⟩ : za))) fun y1 =>
 bif y1 == (-1) then
  zb (Zb (65533, x.2)) fun y2 =>
  some ((⟨x.1.s, w64 (x.1.at_ + 1)⟩ : za), y2)
 else
  zb (QY y1) fun y3 =>
  bif decide (y3 < 0) then
   zb (zW (wu8 y1)) fun y4 =>
   need (zB x.2.length 1 1) <|
   some ((⟨x.1.s, w64 (w64 (x.1.at_ + 1) + 1)⟩ : za), x.2 ++ [y4])
  else
   zaA (fun (s5 : (Int × Int) × za) =>
     bif decide (s5.1.2 < 6) then
      zb (ze (0, s5.2)) fun y6 =>
      zb (QY y6) fun y7 =>
      bif decide (y7 < 0) then
       some (LO.out (s5.1.1, s5.2))
      else
       some (LO.again ((ibOr IntKind.i64 (zlS IntKind.i64 s5.1.1 4) y7, w64 (s5.1.2 + 1)), (⟨s5.2.s, w64 (s5.2.at_ + 1)⟩ : za)))
     else
      some (LO.out (s5.1.1, s5.2)) : (Int × Int) × za → Option (LO ((Int × Int) × za) (Int × za) _)) ((0, 0), (⟨x.1.s, w64 (x.1.at_ + 1)⟩ : za)) fun o8 =>
   zO (X := Int × za × List UInt8) (
     zb (ze (0, o8.2)) fun y9 =>
     zb (Zr y9) fun y10 =>
     bif y10 then
      some (LX.out (o8.1, (⟨o8.2.s, w64 (o8.2.at_ + 1)⟩ : za), x.2))
     else
      some (LX.out (o8.1, o8.2, x.2))) fun j11 =>
   zO (X := Int × List UInt8) (
     bif j11.1 == 0 then
      some (LX.out (65533, j11.2.2))
     else
      some (LX.out (j11.1, j11.2.2))) fun j12 =>
   zb (Zb (w32 j12.1, j12.2)) fun y13 =>
   some (j11.2.1, y13)
noncomputable def ZQ (x : za) : Option (zh × za) :=
 zb (ze (0, x)) fun y1 =>
 zaA (fun (s2 : za × zh × List UInt8) =>
   zb (ze (0, s2.1)) fun y3 =>
   bif y3 == (-1) then
    some (LO.out (s2.1, s2.2.1, s2.2.2))
   else
    bif y3 == y1 then
     some (LO.out ((⟨s2.1.s, w64 (s2.1.at_ + 1)⟩ : za), s2.2.1, s2.2.2))
    else
     bif y3 == 10 then
      some (LO.ret ((⟨6, [], 0, [], false⟩ : zh), s2.1))
     else
      zb (zy (y3 == 92) (ze (1, s2.1)) (default : Int)) fun y4 =>
      zb (zy (!(y4 == (-1)) && y3 == 92) (ze (1, s2.1)) (default : Int)) fun y5 =>
      bif bif y3 == 92 then bif y4 == (-1) then true else y5 == 10 else false then
       some (LO.again ((⟨s2.1.s, if (s2.1.s.length : Int) < w64 (s2.1.at_ + 2) then (s2.1.s.length : Int) else w64 (s2.1.at_ + 2)⟩ : za), s2.2.1, s2.2.2))
      else
       bif y3 == 92 then
        zb (zu (s2.1, s2.2.2)) fun y6 =>
        some (LO.again (y6.1, s2.2.1, y6.2))
       else
        zb (zW (wu8 y3)) fun y7 =>
        need (zB s2.2.2.length 1 1) <|
        some (LO.again ((⟨s2.1.s, w64 (s2.1.at_ + 1)⟩ : za), s2.2.1, s2.2.2 ++ [y7])) : za × zh × List UInt8 → Option (LO (za × zh × List UInt8) (za × zh × List UInt8) _)) ((⟨x.s, w64 (x.at_ + 1)⟩ : za), (⟨0, [], 0, [], false⟩ : zh), []) fun o8 =>
 some ((⟨5, o8.2.2, 0, [], false⟩ : zh), o8.1)
noncomputable def Qa (x : Int) : Option Bool :=
 zb (ZF (ibOr IntKind.i64 x 32, 97, 122)) fun y1 =>
 some (bif bif bif bif y1 then decide (x < 128) else false then decide (x > 64) else false then true else x == 95 then true else decide (x ≥ 128))
noncomputable def qR (x : Int) : Option Bool :=
 zb (Qa x) fun y1 =>
 zb (zy (!y1) (Zc x) (default : Bool)) fun y2 =>
 some (bif bif y1 then true else y2 then true else x == 45)
noncomputable def zm (x : Int × za) : Option Bool :=
 zb (ze (x.1, x.2)) fun y1 =>
 zb (zy (y1 == 92) (ze (w64 (x.1 + 1), x.2)) (default : Int)) fun y2 =>
 some (bif y1 == 92 then y2 != 10 else false)
noncomputable def zw (x : Int × za) : Option Bool :=
 zb (ze (x.1, x.2)) fun y1 =>
 bif y1 != 45 then
  zb (ze (x.1, x.2)) fun y2 =>
  zb (Qa y2) fun y3 =>
  zb (zy (!y3) (zm (x.1, x.2)) (default : Bool)) fun y4 =>
  some (bif y3 then true else y4)
 else
  zb (ze (w64 (x.1 + 1), x.2)) fun y5 =>
  zb (Qa y5) fun y6 =>
  zb (zy (!y6) (ze (w64 (x.1 + 1), x.2)) (default : Int)) fun y7 =>
  zb (zy (!(bif y6 then true else y7 == 45)) (zm (w64 (x.1 + 1), x.2)) (default : Bool)) fun y8 =>
  some (bif bif y6 then true else y7 == 45 then true else y8)
noncomputable def zx (x : za) : Option (Str × za) :=
 zaA (fun (s1 : za × List UInt8) =>
   zb (ze (0, s1.1)) fun y2 =>
   zb (qR y2) fun y3 =>
   bif y3 then
    zb (zW (wu8 y2)) fun y4 =>
    need (zB s1.2.length 1 1) <|
    some (LO.again ((⟨s1.1.s, w64 (s1.1.at_ + 1)⟩ : za), s1.2 ++ [y4]))
   else
    zb (zy (y2 != (-1)) (zm (0, s1.1)) (default : Bool)) fun y5 =>
    bif bif y2 != (-1) then y5 else false then
     zb (zu (s1.1, s1.2)) fun y6 =>
     some (LO.again (y6.1, y6.2))
    else
     some (LO.ret (s1.2, s1.1)) : za × List UInt8 → Option (LO (za × List UInt8) (Unit) _)) (x, []) fun o7 =>
 none
noncomputable def zS (x : za) : Option Bool :=
 zO (X := Int) (
   zb (ze (0, x)) fun y1 =>
   bif bif y1 == 43 then true else y1 == 45 then
    some (LX.out 1)
   else
    some (LX.out 0)) fun j2 =>
 zO (X := Int) (
   zb (ze (j2, x)) fun y3 =>
   bif y3 == 46 then
    some (LX.out (w64 (j2 + 1)))
   else
    some (LX.out j2)) fun j4 =>
 zb (ze (j4, x)) fun y5 =>
 zb (Zc y5) fun y6 =>
 some y6
noncomputable def zY (x : za) : Option za :=
 zaA (fun (s1 : za) =>
   zb (ze (0, s1)) fun y2 =>
   zb (Zc y2) fun y3 =>
   bif y3 then
    some (LO.again (⟨s1.s, w64 (s1.at_ + 1)⟩ : za))
   else
    some (LO.out s1) : za → Option (LO (za) (za) _)) x fun o4 =>
 some o4
noncomputable def ZC (x : za) : Option (Bool × za) :=
 zO (X := za) (
   zb (ze (0, x)) fun y1 =>
   bif bif y1 == 43 then true else y1 == 45 then
    some (LX.out (⟨x.s, w64 (x.at_ + 1)⟩ : za))
   else
    some (LX.out x)) fun j2 =>
 zb (zY j2) fun y3 =>
 zO (X := Bool × za) (
   zb (ze (0, y3)) fun y4 =>
   zb (zy (y4 == 46) (ze (1, y3)) (default : Int)) fun y5 =>
   zb (zy (y4 == 46) (Zc y5) (default : Bool)) fun y6 =>
   bif bif y4 == 46 then y6 else false then
    zb (zY (⟨y3.s, w64 (y3.at_ + 1)⟩ : za)) fun y7 =>
    some (LX.out (false, y7))
   else
    some (LX.out (true, y3))) fun j8 =>
 zO (X := Bool × za) (
   zb (ze (0, j8.2)) fun y9 =>
   zb (zy (!(y9 == 101)) (ze (0, j8.2)) (default : Int)) fun y10 =>
   bif bif y9 == 101 then true else y10 == 69 then
    zO (X := (Bool × Int) × za) (
      zb (ze (1, j8.2)) fun y11 =>
      bif bif y11 == 43 then true else y11 == 45 then
       some (LX.out ((j8.1, 2), j8.2))
      else
       some (LX.out ((j8.1, 1), j8.2))) fun j12 =>
    zb (ze (j12.1.2, j12.2)) fun y13 =>
    zb (Zc y13) fun y14 =>
    bif y14 then
     zb (zY (⟨j12.2.s, w64 (j12.2.at_ + j12.1.2)⟩ : za)) fun y15 =>
     some (LX.out (false, y15))
    else
     some (LX.out (j12.1.1, j12.2))
   else
    some (LX.out (j8.1, j8.2))) fun j16 =>
 some (j16.1, j16.2)
noncomputable def qN (x : Str) : Option Int :=
 zb (geti x 0) fun y1 =>
 zb (zhs (x, [43, 45])) fun y2 =>
 zO (X := Str × Int) (
   zb (zcf (y2, [101, 69])) fun y3 =>
   bif decide (y3 ≥ 0) then
    need (decide (0 ≤ w64 (y3 + 1)) && decide (w64 (y3 + 1) ≤ (y2.length : Int))) <|
    zb (zhs (List.drop (w64 (y3 + 1)).toNat y2, [43, 45])) fun y4 =>
    need (decide (y4.length ≤ maxLen)) <|
    zaA (fun (s5 : Int × Int) =>
      bif decide (s5.2 < (y4.length : Int)) then
       need (decide (0 ≤ s5.2) && decide (s5.2 < (y4.length : Int))) <|
       zb y4[s5.2.toNat]? fun y6 =>
       some (LO.again (if 1048576 < w64 (w64 (10 * s5.1) + w64 (wu8 ((y6.toNat : Int) - 48))) then 1048576 else w64 (w64 (10 * s5.1) + w64 (wu8 ((y6.toNat : Int) - 48))), w64 (s5.2 + 1)))
      else
       some (LO.out s5.1) : Int × Int → Option (LO (Int × Int) (Int) _)) (0, 0) fun o7 =>
    zO (X := Str × Int × Int) (
      zb (geti y2 (w64 (y3 + 1))) fun y8 =>
      bif (y8.toNat : Int) == 45 then
       some (LX.out (y2, 3, w64 (0 - o7)))
      else
       some (LX.out (y2, 3, o7))) fun j9 =>
    need (decide (0 ≤ y3) && decide (y3 ≤ (j9.1.length : Int))) <|
    some (LX.out (List.take y3.toNat j9.1, w64 (j9.2.1 + j9.2.2)))
   else
    some (LX.out (y2, 3))) fun j10 =>
 zb (cutF (j10.1, [46])) fun y11 =>
 need (zjC y11.1.length y11.2.1.length) <|
 zO (X := Str × Int) (
   bif decide (w64 (j10.2 - (y11.2.1.length : Int)) < 0) then
    need (decide (0 ≤ (if w64 (((y11.1 ++ y11.2.1).length : Int) + w64 (j10.2 - (y11.2.1.length : Int))) > 0 then w64 (((y11.1 ++ y11.2.1).length : Int) + w64 (j10.2 - (y11.2.1.length : Int))) else 0)) && decide ((if w64 (((y11.1 ++ y11.2.1).length : Int) + w64 (j10.2 - (y11.2.1.length : Int))) > 0 then w64 (((y11.1 ++ y11.2.1).length : Int) + w64 (j10.2 - (y11.2.1.length : Int))) else 0) ≤ ((y11.1 ++ y11.2.1).length : Int))) <|
    some (LX.out (List.take (if w64 (((y11.1 ++ y11.2.1).length : Int) + w64 (j10.2 - (y11.2.1.length : Int))) > 0 then w64 (((y11.1 ++ y11.2.1).length : Int) + w64 (j10.2 - (y11.2.1.length : Int))) else 0).toNat (y11.1 ++ y11.2.1), w64 (j10.2 - (y11.2.1.length : Int))))
   else
    some (LX.out (y11.1 ++ y11.2.1, w64 (j10.2 - (y11.2.1.length : Int))))) fun j12 =>
 need (decide (j12.1.length ≤ maxLen)) <|
 zaA (fun (s13 : Int × Int) =>
   bif decide (s13.2 < (j12.1.length : Int)) then
    need (decide (0 ≤ s13.2) && decide (s13.2 < (j12.1.length : Int))) <|
    zb j12.1[s13.2.toNat]? fun y14 =>
    some (LO.again (if 1000000000000 < w64 (w64 (10 * s13.1) + w64 (wu8 ((y14.toNat : Int) - 48))) then 1000000000000 else w64 (w64 (10 * s13.1) + w64 (wu8 ((y14.toNat : Int) - 48))), w64 (s13.2 + 1)))
   else
    some (LO.out s13.1) : Int × Int → Option (LO (Int × Int) (Int) _)) (0, 0) fun o15 =>
 zaA (fun (s16 : Int × Int) =>
   bif bif bif decide (s16.1 > 0) then decide (s16.2 > 0) else false then decide (s16.2 < 1000000000000) else false then
    some (LO.again (w64 (s16.1 - 1), if 1000000000000 < w64 (10 * s16.2) then 1000000000000 else w64 (10 * s16.2)))
   else
    some (LO.out s16.2) : Int × Int → Option (LO (Int × Int) (Int) _)) (j12.2, o15) fun o17 =>
 zO (X := Int) (
   bif (y1.toNat : Int) == 45 then
    some (LX.out (w64 (0 - o17)))
   else
    some (LX.out o17)) fun j18 =>
 some j18
noncomputable def ZE (x : za) : Option (zh × za) :=
 zb (ZC x) fun y1 =>
 need (decide (0 ≤ x.at_) && (decide (x.at_ ≤ y1.2.at_) && decide (y1.2.at_ ≤ (y1.2.s.length : Int)))) <|
 zb (qN (List.drop x.at_.toNat (List.take y1.2.at_.toNat y1.2.s))) fun y2 =>
 zO (X := za × zh × zh) (
   zb (zw (0, y1.2)) fun y3 =>
   bif y3 then
    zb (zx y1.2) fun y4 =>
    some (LX.out (y4.2, (⟨0, [], 0, [], false⟩ : zh), (⟨12, [], y2, y4.1, y1.1⟩ : zh)))
   else
    zb (ze (0, y1.2)) fun y5 =>
    bif y5 == 37 then
     some (LX.out ((⟨y1.2.s, w64 (y1.2.at_ + 1)⟩ : za), (⟨0, [], 0, [], false⟩ : zh), (⟨11, [], y2, [], false⟩ : zh)))
    else
     some (LX.out (y1.2, (⟨0, [], 0, [], false⟩ : zh), (⟨10, [], y2, [], y1.1⟩ : zh)))) fun j6 =>
 some (j6.2.2, j6.1)
noncomputable def Zz (x : za) : Option (zh × za) :=
 zaA (fun (s1 : za × zh) =>
   zb (ze (0, s1.1)) fun y2 =>
   bif y2 == (-1) then
    some (LO.ret ((⟨8, [], 0, [], false⟩ : zh), s1.1))
   else
    zb (zm (0, s1.1)) fun y3 =>
    bif y3 then
     zb (Zp s1.1) fun y4 =>
     some (LO.again (y4.1, s1.2))
    else
     zb (geti s1.1.s (w64 (w64 (s1.1.at_ + 1) - 1))) fun y5 =>
     bif (y5.toNat : Int) == 41 then
      some (LO.ret ((⟨8, [], 0, [], false⟩ : zh), (⟨s1.1.s, w64 (s1.1.at_ + 1)⟩ : za)))
     else
      some (LO.again ((⟨s1.1.s, w64 (s1.1.at_ + 1)⟩ : za), s1.2)) : za × zh → Option (LO (za × zh) (Unit) _)) (x, (⟨0, [], 0, [], false⟩ : zh)) fun o6 =>
 none
noncomputable def qM (x : za) : Option (zh × za) :=
 zb (zH x) fun y1 =>
 zaA (fun (s2 : za × zh × List UInt8) =>
   zb (ze (0, s2.1)) fun y3 =>
   zO (X := Int × za × zh × List UInt8) (
     zb (Zr y3) fun y4 =>
     bif y4 then
      zb (zH s2.1) fun y5 =>
      zb (ze (0, y5)) fun y6 =>
      bif bif y6 != 41 then y6 != (-1) else false then
       zb (Zz y5) fun y7 =>
       some (LX.ret (LO.ret (y7.1, y7.2)))
      else
       some (LX.out (y6, y5, s2.2.1, s2.2.2))
     else
      some (LX.out (y3, s2.1, s2.2.1, s2.2.2))) fun j8 =>
   bif j8.1 == (-1) then
    some (LO.ret ((⟨7, j8.2.2.2, 0, [], false⟩ : zh), j8.2.1))
   else
    bif j8.1 == 41 then
     some (LO.ret ((⟨7, j8.2.2.2, 0, [], false⟩ : zh), (⟨j8.2.1.s, w64 (j8.2.1.at_ + 1)⟩ : za)))
    else
     zb (zy (!(bif bif bif bif j8.1 == 34 then true else j8.1 == 39 then true else j8.1 == 40 then true else decide (j8.1 ≤ 8) then true else j8.1 == 11)) (ZF (j8.1, 14, 31)) (default : Bool)) fun y9 =>
     bif bif bif bif bif bif bif j8.1 == 34 then true else j8.1 == 39 then true else j8.1 == 40 then true else decide (j8.1 ≤ 8) then true else j8.1 == 11 then true else y9 then true else j8.1 == 127 then
      zb (Zz j8.2.1) fun y10 =>
      some (LO.ret (y10.1, y10.2))
     else
      bif j8.1 != 92 then
       zb (zW (wu8 j8.1)) fun y11 =>
       need (zB j8.2.2.2.length 1 1) <|
       some (LO.again ((⟨j8.2.1.s, w64 (j8.2.1.at_ + 1)⟩ : za), j8.2.2.1, j8.2.2.2 ++ [y11]))
      else
       zb (zm (0, j8.2.1)) fun y12 =>
       bif y12 then
        zb (zu (j8.2.1, j8.2.2.2)) fun y13 =>
        some (LO.again (y13.1, j8.2.2.1, y13.2))
       else
        zb (Zz j8.2.1) fun y14 =>
        some (LO.ret (y14.1, y14.2)) : za × zh × List UInt8 → Option (LO (za × zh × List UInt8) (Unit) _)) (y1, (⟨0, [], 0, [], false⟩ : zh), []) fun o15 =>
 none
noncomputable def zM (x : za) : Option (zh × za) :=
 zb (zx x) fun y1 =>
 zb (ze (0, y1.2)) fun y2 =>
 bif y2 != 40 then
  some ((⟨1, y1.1, 0, [], false⟩ : zh), y1.2)
 else
  zO (X := za × zh) (
    zb (Q3 (y1.1, [117, 114, 108])) fun y3 =>
    bif y3 then
     zb (zH (⟨y1.2.s, w64 (y1.2.at_ + 1)⟩ : za)) fun y4 =>
     zb (ze (0, y4)) fun y5 =>
     bif bif y5 != 34 then y5 != 39 else false then
      zb (qM (⟨y1.2.s, w64 (y1.2.at_ + 1)⟩ : za)) fun y6 =>
      some (LX.ret (y6.1, y6.2))
     else
      some (LX.out ((⟨y1.2.s, w64 (y1.2.at_ + 1)⟩ : za), (⟨0, [], 0, [], false⟩ : zh)))
    else
     some (LX.out ((⟨y1.2.s, w64 (y1.2.at_ + 1)⟩ : za), (⟨0, [], 0, [], false⟩ : zh)))) fun j7 =>
  some ((⟨2, y1.1, 0, [], false⟩ : zh), j7.1)
noncomputable def Zd (x : za) : Option (zh × za) :=
 zb (ze (0, x)) fun y1 =>
 need (decide (0 ≤ x.at_) && decide (x.at_ ≤ (x.s.length : Int))) <|
 zb (Zr y1) fun y2 =>
 bif y2 then
  zb (zH x) fun y3 =>
  some ((⟨13, [], 0, [], false⟩ : zh), y3)
 else
  bif bif y1 == 34 then true else y1 == 39 then
   zb (ZQ x) fun y4 =>
   some (y4.1, y4.2)
  else
   zb (zy (y1 == 35) (ze (1, x)) (default : Int)) fun y5 =>
   zb (zy (y1 == 35) (qR y5) (default : Bool)) fun y6 =>
   zb (zy (!y6 && y1 == 35) (zm (1, x)) (default : Bool)) fun y7 =>
   bif bif y1 == 35 then bif y6 then true else y7 else false then
    zb (zw (1, x)) fun y8 =>
    zb (zx (⟨x.s, w64 (x.at_ + 1)⟩ : za)) fun y9 =>
    some ((⟨4, y9.1, 0, [], y8⟩ : zh), y9.2)
   else
    zb (zS x) fun y10 =>
    bif y10 then
     zb (ZE x) fun y11 =>
     some (y11.1, y11.2)
    else
     zb (strings_HasPrefix (List.drop x.at_.toNat x.s, [45, 45, 62])) fun y12 =>
     bif y12 then
      some ((⟨15, [], 0, [], false⟩ : zh), (⟨x.s, w64 (x.at_ + 3)⟩ : za))
     else
      zb (strings_HasPrefix (List.drop x.at_.toNat x.s, [60, 33, 45, 45])) fun y13 =>
      bif y13 then
       some ((⟨14, [], 0, [], false⟩ : zh), (⟨x.s, w64 (x.at_ + 4)⟩ : za))
      else
       zb (zy (y1 == 64) (zw (1, x)) (default : Bool)) fun y14 =>
       bif bif y1 == 64 then y14 else false then
        zb (zx (⟨x.s, w64 (x.at_ + 1)⟩ : za)) fun y15 =>
        some ((⟨3, y15.1, 0, [], false⟩ : zh), y15.2)
       else
        zb (zw (0, x)) fun y16 =>
        bif y16 then
         zb (zM x) fun y17 =>
         some (y17.1, y17.2)
        else
         zb (strings_IndexByte ([58, 59, 44, 91, 93, 40, 41, 123, 125], wu8 y1)) fun y18 =>
         bif decide (y18 ≥ 0) then
          some ((⟨wu8 (16 + wu8 y18), [], 0, [], false⟩ : zh), (⟨x.s, w64 (x.at_ + 1)⟩ : za))
         else
          need (decide (1 ≤ ((List.drop x.at_.toNat x.s).length : Int))) <|
          some ((⟨9, List.take 1 (List.drop x.at_.toNat x.s), 0, [], false⟩ : zh), (⟨x.s, w64 (x.at_ + 1)⟩ : za))
noncomputable def qg (x : (zh × Int × Int) × List zh) : Option (List zh) :=
 need (zB x.2.length 1 56) <|
 some (x.2 ++ [x.1.1])
noncomputable def zai (x : Str) : Option (Int × List zh) :=
 zb (zeG x) fun y1 =>
 bif y1.2 != 0 then
  some (y1.2, [])
 else
  zb (zJ (⟨y1.1, 0⟩ : za)) fun y2 =>
  zaA (fun (s3 : Int × List zh × za) =>
    bif decide (s3.2.2.at_ < (y1.1.length : Int)) then
     bif decide (w64 (s3.1 + 1) > 1500) then
      some (LO.ret (4, s3.2.1))
     else
      zb (Zd s3.2.2) fun y4 =>
      zb (qg ((y4.1, s3.2.2.at_, y4.2.at_), s3.2.1)) fun y5 =>
      zb (zJ y4.2) fun y6 =>
      some (LO.again (w64 (s3.1 + 1), y5, y6))
    else
     some (LO.out (s3.2.1, s3.2.2)) : Int × List zh × za → Option (LO (Int × List zh × za) (List zh × za) _)) (0, [], y2) fun o7 =>
  some (0, o7.1)
noncomputable def qw (x : Str) : Option (List zh × Int) :=
 zb (zai x) fun y1 =>
 bif y1.1 != 0 then
  some ([], y1.1)
 else
  some (y1.2, 0)
noncomputable def qp (x : List zh × List zh) : Option Bool :=
 bif (x.1.length : Int) != (x.2.length : Int) then
  some false
 else
  zaA (fun (s1 : Int) =>
    bif decide (s1 < (x.1.length : Int)) then
     zb (geti x.1 s1) fun y2 =>
     zb (geti x.2 s1) fun y3 =>
     bif !(y2.kind == y3.kind && (y2.text == y3.text && (y2.num == y3.num && (y2.unit == y3.unit && (y2.flag == y3.flag && true))))) then
      some (LO.ret false)
     else
      some (LO.again (w64 (s1 + 1)))
    else
     some (LO.out ()) : Int → Option (LO (Int) (Unit) _)) 0 fun o4 =>
  some true
noncomputable def zcc (x : List zh) : Option (Str × Int) :=
 zb (zaQ x) fun y1 =>
 bif y1 != 0 then
  some ([], y1)
 else
  zaA (fun (s2 : Int × List UInt8 × List zq) =>
    bif decide (s2.1 < (x.length : Int)) then
     need (decide (0 ≤ s2.1) && decide (s2.1 ≤ (x.length : Int))) <|
     zb (zaR (List.drop s2.1.toNat x)) fun y3 =>
     need (decide (0 ≤ s2.1) && (decide (s2.1 ≤ w64 (s2.1 + y3)) && decide (w64 (s2.1 + y3) ≤ (x.length : Int)))) <|
     zaA (fun (s4 : Int × List UInt8) =>
       bif decide (s4.1 < ((List.drop s2.1.toNat (List.take (w64 (s2.1 + y3)).toNat x)).length : Int)) then
        zb (geti (List.drop s2.1.toNat (List.take (w64 (s2.1 + y3)).toNat x)) s4.1) fun y5 =>
        zb (zbF (y5, s4.2)) fun y6 =>
        some (LO.again (w64 (s4.1 + 1), y6))
       else
        some (LO.out s4.2) : Int × List UInt8 → Option (LO (Int × List UInt8) (List UInt8) _)) (0, []) fun o7 =>
     zO (X := Int × List UInt8 × List zq × List UInt8) (
       zb (geti x s2.1) fun y8 =>
       bif bif y8.kind == 9 then y3 == 2 else false then
        some (LX.out (s2.1, s2.2.1, s2.2.2, [(92 : UInt8), (10 : UInt8)]))
       else
        some (LX.out (s2.1, s2.2.1, s2.2.2, o7))) fun j9 =>
     zO (X := Int × List UInt8 × List zq × zq) (
       bif decide (w64 ((j9.2.2.1.length : Int) - 4) ≥ 0) then
        need (decide (0 ≤ w64 ((j9.2.2.1.length : Int) - 4)) && decide (w64 ((j9.2.2.1.length : Int) - 4) < (j9.2.2.1.length : Int))) <|
        zb (j9.2.2.1[(w64 ((j9.2.2.1.length : Int) - 4)).toNat]?) fun y10 =>
        some (LX.out (j9.1, j9.2.1, j9.2.2.1, y10))
       else
        some (LX.out (j9.1, j9.2.1, j9.2.2.1, (⟨0, 0⟩ : zq)))) fun j11 =>
     need (decide (0 ≤ j11.2.2.2.at_) && decide (j11.2.2.2.at_ ≤ (j11.2.1.length : Int))) <|
     need (decide (j11.2.2.2.at_.toNat + (j11.2.1.length - j11.2.2.2.at_.toNat) ≤ j11.2.1.length)) <|
     need (zjC (List.take (j11.2.1.length - j11.2.2.2.at_.toNat) (List.drop j11.2.2.2.at_.toNat j11.2.1)).length j9.2.2.2.length) <|
     zb (qw (List.take (j11.2.1.length - j11.2.2.2.at_.toNat) (List.drop j11.2.2.2.at_.toNat j11.2.1) ++ j9.2.2.2)) fun y12 =>
     zO (X := Int × List zq × List UInt8) (
       need (decide (0 ≤ j11.2.2.2.token) && (decide (j11.2.2.2.token ≤ w64 (j11.1 + y3)) && decide (w64 (j11.1 + y3) ≤ (x.length : Int))) || !(!(y12.2 != 0))) <|
       zb (zy (!(y12.2 != 0)) (qp (y12.1, List.drop j11.2.2.2.token.toNat (List.take (w64 (j11.1 + y3)).toNat x))) (default : Bool)) fun y13 =>
       bif bif y12.2 != 0 then true else !y13 then
        need (zB j11.2.1.length ([47, 42, 42, 47] : Str).length 1) <|
        some (LX.out (j11.1, j11.2.2.1, j11.2.1 ++ ([47, 42, 42, 47] : Str)))
       else
        some (LX.out (j11.1, j11.2.2.1, j11.2.1))) fun j14 =>
     need (zB j14.2.1.length 1 16) <|
     need (zB j14.2.2.length j9.2.2.2.length 1) <|
     bif decide (((j14.2.2 ++ j9.2.2.2).length : Int) > 4000) then
      some (LO.ret ([], 28))
     else
      some (LO.again (w64 (j14.1 + y3), j14.2.2 ++ j9.2.2.2, j14.2.1 ++ [(⟨j14.1, (j14.2.2.length : Int)⟩ : zq)]))
    else
     some (LO.out s2.2.1) : Int × List UInt8 × List zq → Option (LO (Int × List UInt8 × List zq) (List UInt8) _)) (0, [], []) fun o15 =>
  some (o15, 0)
noncomputable def zI (x : Str × List zh) : Option Bool :=
 zb (zcc x.2) fun y1 =>
 some (bif y1.2 == 0 then y1.1 == x.1 else false)
noncomputable def Qx (x : Unit) : Option Bool :=
 zb (Z5 [49, 32, 97]) fun y1 =>
 zb (zI ([92, 51, 49, 32, 92, 50, 48, 32, 97], [y1])) fun y2 =>
 zb (zy y2 (zI ([34, 97, 92, 34, 92, 97, 32, 34], [(⟨5, [97, 34, 10], 0, [], false⟩ : zh)])) (default : Bool)) fun y3 =>
 zb (zy (bif y2 then y3 else false) (zI ([49, 46, 53, 92, 54, 53, 32, 51], [(⟨12, [], 1500, [101, 51], false⟩ : zh)])) (default : Bool)) fun y4 =>
 zb (zy (bif bif y2 then y3 else false then y4 else false) (Z5 [97]) (default : zh)) fun y5 =>
 zb (zy (bif bif y2 then y3 else false then y4 else false) (Z5 [98]) (default : zh)) fun y6 =>
 zb (zy (bif bif y2 then y3 else false then y4 else false) (zI ([97, 47, 42, 42, 47, 98], [y5, y6])) (default : Bool)) fun y7 =>
 zb (zy (bif bif bif y2 then y3 else false then y4 else false then y7 else false) (Z5 [97]) (default : zh)) fun y8 =>
 zb (zy (bif bif bif y2 then y3 else false then y4 else false then y7 else false) (zI ([97, 58], [y8, (⟨16, [], 0, [], false⟩ : zh)])) (default : Bool)) fun y9 =>
 zb (zy (bif bif bif bif y2 then y3 else false then y4 else false then y7 else false then y9 else false) (zI ([50, 46, 48], [(⟨10, [], 2000, [], false⟩ : zh)])) (default : Bool)) fun y10 =>
 some (bif bif bif bif bif y2 then y3 else false then y4 else false then y7 else false then y9 else false then y10 else false)
noncomputable def Qg (x : Str) : Option (Str × Int) :=
 zb (zy (!(x == [])) (strings_IndexByte (x, 0)) (default : Int)) fun y1 =>
 bif bif x == [] then true else decide (y1 ≥ 0) then
  some ([], 8)
 else
  zb (ZX x) fun y2 =>
  zb (Q0 (x, y2)) fun y3 =>
  bif bif decide ((x.length : Int) > 4000) then true else decide ((y3.length : Int) > 4000) then
   some ([], 28)
  else
   some (y3, 0)
noncomputable def zco (x : Str) : Option (Str × Int) :=
 bif decide ((x.length : Int) > 4000) then
  some ([], 28)
 else
  zb (zw (0, (⟨x, 0⟩ : za))) fun y1 =>
  bif !y1 then
   some ([], 12)
  else
   zb (zx (⟨x, 0⟩ : za)) fun y2 =>
   bif decide (y2.2.at_ < (x.length : Int)) then
    some ([], 12)
   else
    some (y2.1, 0)
noncomputable def zav (x : Str × Str) : Option Bool :=
 bif bif decide ((x.1.length : Int) > 300) then true else decide ((x.2.length : Int) > 300) then
  zb (Qx ()) fun y1 =>
  some y1
 else
  zb (Qg x.1) fun y2 =>
  zb (Qg x.2) fun y3 =>
  bif bif y2.2 != 0 then true else y3.2 != 0 then
   zb (Qx ()) fun y4 =>
   some y4
  else
   zb (zco y2.1) fun y5 =>
   zb (qw y2.1) fun y6 =>
   zb (zy (bif bif bif y5.2 == 0 then y5.1 == x.1 else false then y6.2 == 0 else false then (y6.1.length : Int) == 1 else false) (geti y6.1 0) (default : zh)) fun y7 =>
   zb (zy (bif bif bif y5.2 == 0 then y5.1 == x.1 else false then y6.2 == 0 else false then (y6.1.length : Int) == 1 else false) (Z5 x.1) (default : zh)) fun y8 =>
   zb (zy (bif bif bif bif bif y5.2 == 0 then y5.1 == x.1 else false then y6.2 == 0 else false then (y6.1.length : Int) == 1 else false then y7.kind == y8.kind && (y7.text == y8.text && (y7.num == y8.num && (y7.unit == y8.unit && (y7.flag == y8.flag && true)))) else false then (y2.1 == y3.1) == (x.1 == x.2) else false) (Qx ()) (default : Bool)) fun y9 =>
   some (bif bif bif bif bif bif y5.2 == 0 then y5.1 == x.1 else false then y6.2 == 0 else false then (y6.1.length : Int) == 1 else false then y7.kind == y8.kind && (y7.text == y8.text && (y7.num == y8.num && (y7.unit == y8.unit && (y7.flag == y8.flag && true)))) else false then (y2.1 == y3.1) == (x.1 == x.2) else false then y9 else false)
end Go.Lv.VT
