/- Texts. -/
import Derived.Test.YtnfhfeipljhciaaGreatDoorTy
import Derived.Test.YtnfhfeipljhciaaGreatDoorLf
namespace Go.Lv.VT
set_option maxRecDepth 100000
noncomputable def Zn (x : Str) : Option ze :=
 some (⟨1, x, 0, [], false⟩ : ze)
noncomputable def strings_IndexByte (x : Str × Int) : Option Int :=
 zb (zet (x.1, x.2)) fun y1 =>
 some y1
noncomputable def stringslite_HasPrefix (x : Str × Str) : Option Bool :=
 need (decide (0 ≤ (x.2.length : Int)) && decide ((x.2.length : Int) ≤ (x.1.length : Int)) || !(decide ((x.1.length : Int) ≥ (x.2.length : Int)))) <|
 some (bif decide ((x.1.length : Int) ≥ (x.2.length : Int)) then List.take x.2.length x.1 == x.2 else false)
noncomputable def stringslite_TrimPrefix (x : Str × Str) : Option Str :=
 zb (stringslite_HasPrefix (x.1, x.2)) fun y1 =>
 bif y1 then
  need (decide (0 ≤ (x.2.length : Int)) && decide ((x.2.length : Int) ≤ (x.1.length : Int))) <|
  some (List.drop x.2.length x.1)
 else
  some x.1
noncomputable def strings_TrimPrefix (x : Str × Str) : Option Str :=
 zb (stringslite_TrimPrefix (x.1, x.2)) fun y1 =>
 some y1
noncomputable def ZH (x : Int) : Option Bool :=
 some (bif decide (48 ≤ x) then decide (x ≤ 57) else false)
noncomputable def ZM (x : Str) : Option Bool :=
 zb (strings_TrimPrefix (x, [45])) fun y1 =>
 zb (zx (!(y1 == [])) (geti y1 0) 0) fun y2 =>
 zb (zx (!(y1 == [])) (ZH (y2.toNat : Int)) (default : Bool)) fun y3 =>
 some (bif !(y1 == []) then y3 else false)
noncomputable def strings_HasPrefix (x : Str × Str) : Option Bool :=
 zb (stringslite_HasPrefix (x.1, x.2)) fun y1 =>
 some y1
noncomputable def Q8 (x : Int) : Option Bool :=
 some (bif bif decide (97 ≤ ibOr IntKind.u8 x 32) then decide (ibOr IntKind.u8 x 32 ≤ 122) else false then decide (x < 128) else false)
noncomputable def Ql (x : Int) : Option Bool :=
 zb (Q8 x) fun y1 =>
 zb (zx (!y1) (ZH x) (default : Bool)) fun y2 =>
 some (bif bif bif bif y1 then true else y2 then true else x == 95 then true else x == 45 then true else decide (x ≥ 128))
noncomputable def strings_Contains (x : Str × Str) : Option Bool :=
 zb (zeT (x.1, x.2)) fun y1 =>
 some (decide (y1 ≥ 0))
noncomputable def zaq (x : ze) : Option Bool :=
 need (zhW x.text.length x.unit.length) <|
 zb (strings_IndexByte (x.text ++ x.unit, 0)) fun y1 =>
 zH (X := Bool × Bool × Bool × Bool × Bool) (
   zH (X := Bool × Bool × Bool × Bool × Bool × Bool) (
     bif x.kind == 1 then
      some (LX.out (false, false, false, false, decide (y1 < 0), x.kind == 1))
     else
      bif x.kind == 2 then
       some (LX.out (false, false, false, false, decide (y1 < 0), x.kind == 2))
      else
       some (LX.out (false, false, false, false, decide (y1 < 0), x.kind == 3))) fun j2 =>
   bif j2.2.2.2.2.2 then
    some (LX.out (true, j2.2.1, j2.2.2.1, j2.2.2.2.1, bif j2.2.2.2.2.1 then !(x.text == []) else false))
   else
    bif x.kind == 4 then
     zb (zx (!x.flag && (bif j2.2.2.2.2.1 then !(x.text == []) else false)) (ZM x.text) (default : Bool)) fun y3 =>
     zb (zx (y3 && (!x.flag && (bif j2.2.2.2.2.1 then !(x.text == []) else false))) (strings_HasPrefix (x.text, [45, 45])) (default : Bool)) fun y4 =>
     some (LX.out (true, j2.2.1, j2.2.2.1, true, bif bif j2.2.2.2.2.1 then !(x.text == []) else false then bif bif x.flag then true else bif y3 then !y4 else false then true else x.text == [45] else false))
    else
     zH (X := Bool × Bool × Bool × Bool × Bool × Bool) (
       bif x.kind == 5 then
        some (LX.out (j2.1, j2.2.1, j2.2.2.1, j2.2.2.2.1, j2.2.2.2.2.1, x.kind == 5))
       else
        some (LX.out (j2.1, j2.2.1, j2.2.2.1, j2.2.2.2.1, j2.2.2.2.2.1, x.kind == 7))) fun j5 =>
     bif j5.2.2.2.2.2 then
      some (LX.out (true, j5.2.1, j5.2.2.1, j5.2.2.2.1, j5.2.2.2.2.1))
     else
      bif x.kind == 9 then
       zb (zx (bif j5.2.2.2.2.1 then (x.text.length : Int) == 1 else false) (geti x.text 0) 0) fun y6 =>
       zb (zx (bif j5.2.2.2.2.1 then (x.text.length : Int) == 1 else false) (Ql (y6.toNat : Int)) (default : Bool)) fun y7 =>
       zb (zx (bif bif bif j5.2.2.2.2.1 then (x.text.length : Int) == 1 else false then !y7 else false then true else x.text == [45]) (strings_Contains ([32, 9, 10, 12, 13, 34, 39, 58, 59, 44, 91, 93, 40, 41, 123, 125], x.text)) (default : Bool)) fun y8 =>
       some (LX.out (true, j5.2.1, j5.2.2.1, j5.2.2.2.1, bif bif bif bif j5.2.2.2.2.1 then (x.text.length : Int) == 1 else false then !y7 else false then true else x.text == [45] then !y8 else false))
      else
       zH (X := Bool × Bool × Bool × Bool × Bool) (
         bif x.kind == 10 then
          some (LX.out (j5.2.1, j5.2.2.1, j5.2.2.2.1, j5.2.2.2.2.1, x.kind == 10))
         else
          bif x.kind == 11 then
           some (LX.out (j5.2.1, j5.2.2.1, j5.2.2.2.1, j5.2.2.2.2.1, x.kind == 11))
          else
           some (LX.out (j5.2.1, j5.2.2.1, j5.2.2.2.1, j5.2.2.2.2.1, x.kind == 12))) fun j9 =>
       bif j9.2.2.2.2 then
        some (LX.out (j5.1, x.kind == 12, true, x.kind != 11, bif bif bif bif j9.2.2.2.1 then decide (x.num ≥ (-1000000000000)) else false then decide (x.num ≤ 1000000000000) else false then bif !x.flag then true else Int.tmod x.num 1000 == 0 else false then bif !(x.kind == 12) then true else !(x.unit == []) else false))
       else
        some (LX.out (j5.1, j9.1, j9.2.1, j9.2.2.1, bif decide (x.kind ≥ 13) then decide (x.kind ≤ 24) else false))) fun j10 =>
 some (bif bif bif bif j10.2.2.2.2 then bif j10.1 then true else x.text == [] else false then bif j10.2.1 then true else x.unit == [] else false then bif j10.2.2.1 then true else x.num == 0 else false then bif j10.2.2.2.1 then true else !x.flag else false)
noncomputable def ZN (x : (Int × Int) × List ze) : Option Bool :=
 zb (zx (decide (x.1.1 < (x.2.length : Int))) (geti x.2 x.1.1) (default : ze)) fun y1 =>
 some (bif decide (x.1.1 < (x.2.length : Int)) then y1.kind == x.1.2 else false)
noncomputable def Qz (x : Str) : Option Str :=
 need (decide (x.length ≤ maxLen)) <|
 Qs (fun (s1 : Int × List UInt8) =>
   bif decide (s1.1 < (x.length : Int)) then
    zH (X := Int × List UInt8) (
      need (decide (0 ≤ s1.1) && decide (s1.1 < (s1.2.length : Int))) <|
      zb s1.2[s1.1.toNat]? fun y2 =>
      bif bif decide (65 ≤ (y2.toNat : Int)) then decide ((y2.toNat : Int) ≤ 90) else false then
       need (decide (0 ≤ s1.1) && decide (s1.1 < (s1.2.length : Int))) <|
       zb s1.2[s1.1.toNat]? fun y3 =>
       need (decide (0 ≤ s1.1) && decide (s1.1 < (s1.2.length : Int))) <|
       zb s1.2[s1.1.toNat]? fun y4 =>
       zb (zT (ibOr IntKind.u8 (y3.toNat : Int) 32)) fun y5 =>
       some (LX.out (s1.1, List.set s1.2 s1.1.toNat y5))
      else
       some (LX.out (s1.1, s1.2))) fun j6 =>
    some (LO.again (w64 (j6.1 + 1), j6.2))
   else
    some (LO.out s1.2) : Int × List UInt8 → Option (LO (Int × List UInt8) (List UInt8) _)) (0, x) fun o7 =>
 some o7
noncomputable def Qa (x : Str × Str) : Option Bool :=
 zb (Qz x.1) fun y1 =>
 zb (Qz x.2) fun y2 =>
 some (y1 == y2)
noncomputable def qH (x : List ze) : Option Int :=
 zb (geti x 0) fun y1 =>
 bif bif y1.kind == 9 then y1.text == [92] else false then
  zb (ZN ((1, 13), x)) fun y2 =>
  bif !y2 then
   some 0
  else
   some 2
 else
  zb (zx (y1.kind == 2) (Qa (y1.text, [117, 114, 108])) (default : Bool)) fun y3 =>
  bif bif y1.kind == 2 then y3 else false then
   zH (X := Int) (
     zb (ZN ((1, 13), x)) fun y4 =>
     bif y4 then
      some (LX.out 2)
     else
      some (LX.out 1)) fun j5 =>
   zb (ZN ((j5, 5), x)) fun y6 =>
   bif !y6 then
    some 0
   else
    some (w64 (j5 + 1))
  else
   some 1
noncomputable def zX (x : List ze) : Option Int :=
 bif decide ((x.length : Int) > 1500) then
  some 4
 else
  Qs (fun (s1 : Int) =>
    bif decide (s1 < (x.length : Int)) then
     zb (geti x s1) fun y2 =>
     zb (zaq y2) fun y3 =>
     need (decide (0 ≤ s1) && decide (s1 ≤ (x.length : Int)) || !(!(!y3))) <|
     zb (zx (!(!y3)) (qH (List.drop s1.toNat x)) (default : Int)) fun y4 =>
     bif bif !y3 then true else y4 == 0 then
      some (LO.ret 8)
     else
      some (LO.again (w64 (s1 + 1)))
    else
     some (LO.out ()) : Int → Option (LO (Int) (Unit) _)) 0 fun o5 =>
  some 0
noncomputable def Zp (x : Str) : Option Int :=
 zb (strings_HasPrefix (x, [45])) fun y1 =>
 bif y1 then
  some 2
 else
  some 1
noncomputable def zL (x : Int × List UInt8) : Option (List UInt8) :=
 zb (zx (bif decide (x.1 > 32) then decide (x.1 < 127) else false) (ZH x.1) (default : Bool)) fun y1 =>
 zb (zx (bif bif decide (x.1 > 32) then decide (x.1 < 127) else false then !y1 else false) (Q8 x.1) (default : Bool)) fun y2 =>
 bif bif bif bif decide (x.1 > 32) then decide (x.1 < 127) else false then !y1 else false then !y2 else false then
  zb (zT x.1) fun y3 =>
  need (zw x.2.length 2 1) <|
  some (x.2 ++ [(92 : UInt8), y3])
 else
  need (zw x.2.length 1 1) <|
  zb (zdD ((wu64 x.1, 16), x.2 ++ [(92 : UInt8)])) fun y4 =>
  need (zw y4.length 1 1) <|
  some (y4 ++ [(32 : UInt8)])
noncomputable def Qw (x : Str × Int) : Option (List UInt8) :=
 Qs (fun (s1 : Int × List UInt8) =>
   bif decide (s1.1 < (x.1.length : Int)) then
    zH (X := Int × List UInt8) (
      zb (geti x.1 s1.1) fun y2 =>
      zb (Ql (y2.toNat : Int)) fun y3 =>
      zb (zx (!(decide (s1.1 ≥ x.2)) && y3) (ZH (y2.toNat : Int)) (default : Bool)) fun y4 =>
      bif bif bif y3 then bif decide (s1.1 ≥ x.2) then true else !y4 else false then bif x.2 == 0 then true else !(x.1 == [45]) else false then
       zb (zT (y2.toNat : Int)) fun y5 =>
       need (zw s1.2.length 1 1) <|
       some (LX.out (s1.1, s1.2 ++ [y5]))
      else
       zb (zL ((y2.toNat : Int), s1.2)) fun y6 =>
       some (LX.out (s1.1, y6))) fun j7 =>
    some (LO.again (w64 (j7.1 + 1), j7.2))
   else
    some (LO.out s1.2) : Int × List UInt8 → Option (LO (Int × List UInt8) (List UInt8) _)) (0, []) fun o8 =>
 some o8
noncomputable def Zm (x : (Str × Int) × List UInt8) : Option (List UInt8) :=
 Qs (fun (s1 : Int × List UInt8) =>
   bif decide (s1.1 < (x.1.1.length : Int)) then
    zH (X := Int × List UInt8) (
      zb (geti x.1.1 s1.1) fun y2 =>
      zb (Ql (y2.toNat : Int)) fun y3 =>
      zb (zx (!(decide (s1.1 ≥ x.1.2)) && y3) (ZH (y2.toNat : Int)) (default : Bool)) fun y4 =>
      bif bif bif y3 then bif decide (s1.1 ≥ x.1.2) then true else !y4 else false then bif x.1.2 == 0 then true else !(x.1.1 == [45]) else false then
       zb (zT (y2.toNat : Int)) fun y5 =>
       need (zw s1.2.length 1 1) <|
       some (LX.out (s1.1, s1.2 ++ [y5]))
      else
       zb (zL ((y2.toNat : Int), s1.2)) fun y6 =>
       some (LX.out (s1.1, y6))) fun j7 =>
    some (LO.again (w64 (j7.1 + 1), j7.2))
   else
    some (LO.out s1.2) : Int × List UInt8 → Option (LO (Int × List UInt8) (List UInt8) _)) (0, x.2) fun o8 =>
 some o8
noncomputable def qY (x : Int × Bool) : Option (List UInt8) :=
 zH (X := Int × List UInt8) (
   bif decide (x.1 < 0) then
    need (zw 0 1 1) <|
    some (LX.out (w64 (0 - x.1), [(45 : UInt8)]))
   else
    some (LX.out (x.1, []))) fun j1 =>
 zb (zbR ((w64 (Int.tdiv j1.1 1000), 10), j1.2)) fun y2 =>
 zb (zdg (w64 (1000 + Int.tmod j1.1 1000), 10)) fun y3 =>
 need (decide (1 ≤ (y3.length : Int))) <|
 zb (zej (List.drop 1 y3, [48])) fun y4 =>
 zH (X := List UInt8) (
   bif !(y4 == []) then
    need (zw y2.length 1 1) <|
    need (zw (y2 ++ [(46 : UInt8)]).length y4.length 1) <|
    some (LX.out (y2 ++ [(46 : UInt8)] ++ y4))
   else
    bif x.2 then
     need (zw y2.length ([46, 48] : Str).length 1) <|
     some (LX.out (y2 ++ ([46, 48] : Str)))
    else
     some (LX.out y2)) fun j5 =>
 some j5
noncomputable def zaL (x : Unit) : Option qw :=
 some (⟨[32], [60, 33, 45, 45], [45, 45, 62], [58], [59], [44], [91], [93], [40], [41], [123], [125]⟩ : qw)
noncomputable def zbG (x : ze) : Option (List UInt8) :=
 bif x.kind == 1 then
  zb (Zp x.text) fun y1 =>
  zb (Qw (x.text, y1)) fun y2 =>
  some y2
 else
  bif x.kind == 2 then
   zb (Zp x.text) fun y3 =>
   zb (Qw (x.text, y3)) fun y4 =>
   need (zw y4.length 1 1) <|
   some (y4 ++ [(40 : UInt8)])
  else
   bif x.kind == 3 then
    need (zw 0 1 1) <|
    zb (Zp x.text) fun y5 =>
    zb (Zm ((x.text, y5), [(64 : UInt8)])) fun y6 =>
    some y6
   else
    bif x.kind == 4 then
     zH (X := Int) (
       bif x.flag then
        zb (Zp x.text) fun y7 =>
        some (LX.out y7)
       else
        some (LX.out 0)) fun j8 =>
     need (zw 0 1 1) <|
     zb (Zm ((x.text, j8), [(35 : UInt8)])) fun y9 =>
     some y9
    else
     bif x.kind == 5 then
      need (zw 0 1 1) <|
      need (decide (x.text.length ≤ maxLen)) <|
      Qs (fun (s10 : Int × List UInt8) =>
        bif decide (s10.1 < (x.text.length : Int)) then
         zH (X := Int × List UInt8) (
           need (decide (0 ≤ s10.1) && decide (s10.1 < (x.text.length : Int))) <|
           zb x.text[s10.1.toNat]? fun y11 =>
           zb (strings_IndexByte ([10, 12, 13, 34, 92], (y11.toNat : Int))) fun y12 =>
           bif decide (y12 ≥ 0) then
            zb (zL ((y11.toNat : Int), s10.2)) fun y13 =>
            some (LX.out (s10.1, y13))
           else
            zb (zT (y11.toNat : Int)) fun y14 =>
            need (zw s10.2.length 1 1) <|
            some (LX.out (s10.1, s10.2 ++ [y14]))) fun j15 =>
         some (LO.again (w64 (j15.1 + 1), j15.2))
        else
         some (LO.out s10.2) : Int × List UInt8 → Option (LO (Int × List UInt8) (List UInt8) _)) (0, [(34 : UInt8)]) fun o16 =>
      need (zw o16.length 1 1) <|
      some (o16 ++ [(34 : UInt8)])
     else
      bif x.kind == 7 then
       need (zw 0 ([117, 114, 108, 40] : Str).length 1) <|
       need (decide (x.text.length ≤ maxLen)) <|
       Qs (fun (s17 : Int × List UInt8) =>
         bif decide (s17.1 < (x.text.length : Int)) then
          zH (X := Int × List UInt8) (
            need (decide (0 ≤ s17.1) && decide (s17.1 < (x.text.length : Int))) <|
            zb x.text[s17.1.toNat]? fun y18 =>
            zb (zx (!(decide ((y18.toNat : Int) ≤ 32))) (strings_IndexByte ([34, 39, 40, 41, 92, 127], (y18.toNat : Int))) (default : Int)) fun y19 =>
            bif bif decide ((y18.toNat : Int) ≤ 32) then true else decide (y19 ≥ 0) then
             zb (zL ((y18.toNat : Int), s17.2)) fun y20 =>
             some (LX.out (s17.1, y20))
            else
             zb (zT (y18.toNat : Int)) fun y21 =>
             need (zw s17.2.length 1 1) <|
             some (LX.out (s17.1, s17.2 ++ [y21]))) fun j22 =>
          some (LO.again (w64 (j22.1 + 1), j22.2))
         else
          some (LO.out s17.2) : Int × List UInt8 → Option (LO (Int × List UInt8) (List UInt8) _)) (0, ([117, 114, 108, 40] : Str)) fun o23 =>
       need (zw o23.length 1 1) <|
       some (o23 ++ [(41 : UInt8)])
      else
       bif x.kind == 9 then
        need (zw 0 x.text.length 1) <|
        some x.text
       else
        bif x.kind == 10 then
         zb (qY (x.num, !x.flag)) fun y24 =>
         some y24
        else
         bif x.kind == 11 then
          zb (qY (x.num, false)) fun y25 =>
          need (zw y25.length 1 1) <|
          some (y25 ++ [(37 : UInt8)])
         else
          bif x.kind == 12 then
           zb (qY (x.num, !x.flag)) fun y26 =>
           zb (geti x.unit 0) fun y27 =>
           need (decide (1 ≤ (x.unit.length : Int)) || !(ibOr IntKind.u8 (y27.toNat : Int) 32 == 101)) <|
           zb (zx (ibOr IntKind.u8 (y27.toNat : Int) 32 == 101) (ZM (List.drop 1 x.unit)) (default : Bool)) fun y28 =>
           need (decide (1 ≤ (x.unit.length : Int)) || !(bif ibOr IntKind.u8 (y27.toNat : Int) 32 == 101 then y28 else false)) <|
           zb (zx (bif ibOr IntKind.u8 (y27.toNat : Int) 32 == 101 then y28 else false) (strings_HasPrefix (List.drop 1 x.unit, [45, 45])) (default : Bool)) fun y29 =>
           bif bif bif ibOr IntKind.u8 (y27.toNat : Int) 32 == 101 then y28 else false then !y29 else false then
            zb (geti x.unit 0) fun y30 =>
            zb (zL ((y30.toNat : Int), y26)) fun y31 =>
            need (decide (1 ≤ (x.unit.length : Int))) <|
            zb (Zm ((List.drop 1 x.unit, 0), y31)) fun y32 =>
            some y32
           else
            zb (Zp x.unit) fun y33 =>
            zb (Zm ((x.unit, y33), y26)) fun y34 =>
            some y34
          else
           zb (zaL ()) fun y35 =>
           zb (geti [y35.e0, y35.e1, y35.e2, y35.e3, y35.e4, y35.e5, y35.e6, y35.e7, y35.e8, y35.e9, y35.e10, y35.e11] (wu8 (x.kind - 13))) fun y36 =>
           need (zw 0 y36.length 1) <|
           some y36
noncomputable def qZ (x : (Int × Bool) × List UInt8) : Option (List UInt8) :=
 zH (X := Int × List UInt8) (
   bif decide (x.1.1 < 0) then
    need (zw x.2.length 1 1) <|
    some (LX.out (w64 (0 - x.1.1), x.2 ++ [(45 : UInt8)]))
   else
    some (LX.out (x.1.1, x.2))) fun j1 =>
 zb (zbR ((w64 (Int.tdiv j1.1 1000), 10), j1.2)) fun y2 =>
 zb (zdg (w64 (1000 + Int.tmod j1.1 1000), 10)) fun y3 =>
 need (decide (1 ≤ (y3.length : Int))) <|
 zb (zej (List.drop 1 y3, [48])) fun y4 =>
 zH (X := List UInt8) (
   bif !(y4 == []) then
    need (zw y2.length 1 1) <|
    need (zw (y2 ++ [(46 : UInt8)]).length y4.length 1) <|
    some (LX.out (y2 ++ [(46 : UInt8)] ++ y4))
   else
    bif x.1.2 then
     need (zw y2.length ([46, 48] : Str).length 1) <|
     some (LX.out (y2 ++ ([46, 48] : Str)))
    else
     some (LX.out y2)) fun j5 =>
 some j5
noncomputable def Q9 (x : ze × List UInt8) : Option (List UInt8) :=
 bif x.1.kind == 1 then
  zb (Zp x.1.text) fun y1 =>
  zb (Zm ((x.1.text, y1), x.2)) fun y2 =>
  some y2
 else
  bif x.1.kind == 2 then
   zb (Zp x.1.text) fun y3 =>
   zb (Zm ((x.1.text, y3), x.2)) fun y4 =>
   need (zw y4.length 1 1) <|
   some (y4 ++ [(40 : UInt8)])
  else
   bif x.1.kind == 3 then
    need (zw x.2.length 1 1) <|
    zb (Zp x.1.text) fun y5 =>
    zb (Zm ((x.1.text, y5), x.2 ++ [(64 : UInt8)])) fun y6 =>
    some y6
   else
    bif x.1.kind == 4 then
     zH (X := Int × List UInt8) (
       bif x.1.flag then
        zb (Zp x.1.text) fun y7 =>
        some (LX.out (y7, x.2))
       else
        some (LX.out (0, x.2))) fun j8 =>
     need (zw j8.2.length 1 1) <|
     zb (Zm ((x.1.text, j8.1), j8.2 ++ [(35 : UInt8)])) fun y9 =>
     some y9
    else
     bif x.1.kind == 5 then
      need (zw x.2.length 1 1) <|
      need (decide (x.1.text.length ≤ maxLen)) <|
      Qs (fun (s10 : Int × List UInt8) =>
        bif decide (s10.1 < (x.1.text.length : Int)) then
         zH (X := Int × List UInt8) (
           need (decide (0 ≤ s10.1) && decide (s10.1 < (x.1.text.length : Int))) <|
           zb x.1.text[s10.1.toNat]? fun y11 =>
           zb (strings_IndexByte ([10, 12, 13, 34, 92], (y11.toNat : Int))) fun y12 =>
           bif decide (y12 ≥ 0) then
            zb (zL ((y11.toNat : Int), s10.2)) fun y13 =>
            some (LX.out (s10.1, y13))
           else
            zb (zT (y11.toNat : Int)) fun y14 =>
            need (zw s10.2.length 1 1) <|
            some (LX.out (s10.1, s10.2 ++ [y14]))) fun j15 =>
         some (LO.again (w64 (j15.1 + 1), j15.2))
        else
         some (LO.out s10.2) : Int × List UInt8 → Option (LO (Int × List UInt8) (List UInt8) _)) (0, x.2 ++ [(34 : UInt8)]) fun o16 =>
      need (zw o16.length 1 1) <|
      some (o16 ++ [(34 : UInt8)])
     else
      bif x.1.kind == 7 then
       need (zw x.2.length ([117, 114, 108, 40] : Str).length 1) <|
       need (decide (x.1.text.length ≤ maxLen)) <|
       Qs (fun (s17 : Int × List UInt8) =>
         bif decide (s17.1 < (x.1.text.length : Int)) then
          zH (X := Int × List UInt8) (
            need (decide (0 ≤ s17.1) && decide (s17.1 < (x.1.text.length : Int))) <|
            zb x.1.text[s17.1.toNat]? fun y18 =>
            zb (zx (!(decide ((y18.toNat : Int) ≤ 32))) (strings_IndexByte ([34, 39, 40, 41, 92, 127], (y18.toNat : Int))) (default : Int)) fun y19 =>
            bif bif decide ((y18.toNat : Int) ≤ 32) then true else decide (y19 ≥ 0) then
             zb (zL ((y18.toNat : Int), s17.2)) fun y20 =>
             some (LX.out (s17.1, y20))
            else
             zb (zT (y18.toNat : Int)) fun y21 =>
             need (zw s17.2.length 1 1) <|
             some (LX.out (s17.1, s17.2 ++ [y21]))) fun j22 =>
          some (LO.again (w64 (j22.1 + 1), j22.2))
         else
          some (LO.out s17.2) : Int × List UInt8 → Option (LO (Int × List UInt8) (List UInt8) _)) (0, x.2 ++ ([117, 114, 108, 40] : Str)) fun o23 =>
       need (zw o23.length 1 1) <|
       some (o23 ++ [(41 : UInt8)])
      else
       bif x.1.kind == 9 then
        need (zw x.2.length x.1.text.length 1) <|
        some (x.2 ++ x.1.text)
       else
        bif x.1.kind == 10 then
         zb (qZ ((x.1.num, !x.1.flag), x.2)) fun y24 =>
         some y24
        else
         bif x.1.kind == 11 then
          zb (qZ ((x.1.num, false), x.2)) fun y25 =>
          need (zw y25.length 1 1) <|
          some (y25 ++ [(37 : UInt8)])
         else
          bif x.1.kind == 12 then
           zb (qZ ((x.1.num, !x.1.flag), x.2)) fun y26 =>
           zb (geti x.1.unit 0) fun y27 =>
           need (decide (1 ≤ (x.1.unit.length : Int)) || !(ibOr IntKind.u8 (y27.toNat : Int) 32 == 101)) <|
           zb (zx (ibOr IntKind.u8 (y27.toNat : Int) 32 == 101) (ZM (List.drop 1 x.1.unit)) (default : Bool)) fun y28 =>
           need (decide (1 ≤ (x.1.unit.length : Int)) || !(bif ibOr IntKind.u8 (y27.toNat : Int) 32 == 101 then y28 else false)) <|
           zb (zx (bif ibOr IntKind.u8 (y27.toNat : Int) 32 == 101 then y28 else false) (strings_HasPrefix (List.drop 1 x.1.unit, [45, 45])) (default : Bool)) fun y29 =>
           bif bif bif ibOr IntKind.u8 (y27.toNat : Int) 32 == 101 then y28 else false then !y29 else false then
            zb (geti x.1.unit 0) fun y30 =>
            zb (zL ((y30.toNat : Int), y26)) fun y31 =>
            need (decide (1 ≤ (x.1.unit.length : Int))) <|
            zb (Zm ((List.drop 1 x.1.unit, 0), y31)) fun y32 =>
            some y32
           else
            zb (Zp x.1.unit) fun y33 =>
            zb (Zm ((x.1.unit, y33), y26)) fun y34 =>
            some y34
          else
           zb (zaL ()) fun y35 =>
           zb (geti [y35.e0, y35.e1, y35.e2, y35.e3, y35.e4, y35.e5, y35.e6, y35.e7, y35.e8, y35.e9, y35.e10, y35.e11] (wu8 (x.1.kind - 13))) fun y36 =>
           need (zw x.2.length y36.length 1) <|
           some (x.2 ++ y36)
noncomputable def Ze (x : za) : Option za :=
 Qs (fun (s1 : za) =>
   need (decide (0 ≤ s1.at_) && decide (s1.at_ ≤ (s1.s.length : Int))) <|
   zb (strings_HasPrefix (List.drop s1.at_.toNat s1.s, [47, 42])) fun y2 =>
   bif y2 then
    need (decide (0 ≤ w64 (s1.at_ + 2)) && decide (w64 (s1.at_ + 2) ≤ (s1.s.length : Int))) <|
    zb (zeT (List.drop (w64 (s1.at_ + 2)).toNat s1.s, [42, 47])) fun y3 =>
    bif decide (y3 < 0) then
     some (LO.ret (⟨s1.s, (s1.s.length : Int)⟩ : za))
    else
     some (LO.again (⟨s1.s, w64 (s1.at_ + w64 (y3 + 4))⟩ : za))
   else
    some (LO.out s1) : za → Option (LO (za) (za) _)) x fun o4 =>
 some o4
noncomputable def zf (x : Int × za) : Option Int :=
 bif decide (w64 (x.2.at_ + x.1) < (x.2.s.length : Int)) then
  zb (geti x.2.s (w64 (x.2.at_ + x.1))) fun y1 =>
  some (w64 (y1.toNat : Int))
 else
  some (-1)
noncomputable def ZJ (x : Int) : Option Bool :=
 some (bif bif x == 32 then true else x == 9 then true else x == 10)
noncomputable def zG (x : za) : Option za :=
 Qs (fun (s1 : za) =>
   zb (zf (0, s1)) fun y2 =>
   zb (ZJ y2) fun y3 =>
   bif y3 then
    some (LO.again (⟨s1.s, w64 (s1.at_ + 1)⟩ : za))
   else
    some (LO.out s1) : za → Option (LO (za) (za) _)) x fun o4 =>
 some o4
noncomputable def Zh (x : Int) : Option (List UInt8) :=
 bif decide (wu32 x ≤ 2047) then
  zb (zT (ibOr IntKind.u8 192 (wu8 (zbi IntKind.i32 x 6)))) fun y1 =>
  zb (zT (ibOr IntKind.u8 128 (zbh IntKind.u8 (wu8 x) 63))) fun y2 =>
  need (zw 0 2 1) <|
  some [y1, y2]
 else
  zH (X := Bool) (
    bif decide (wu32 x < 55296) then
     some (LX.out (decide (wu32 x < 55296)))
    else
     some (LX.out (bif decide (57343 < wu32 x) then decide (wu32 x ≤ 65535) else false))) fun j3 =>
  bif j3 then
   zb (zT (ibOr IntKind.u8 224 (wu8 (zbi IntKind.i32 x 12)))) fun y4 =>
   zb (zT (ibOr IntKind.u8 128 (zbh IntKind.u8 (wu8 (zbi IntKind.i32 x 6)) 63))) fun y5 =>
   zb (zT (ibOr IntKind.u8 128 (zbh IntKind.u8 (wu8 x) 63))) fun y6 =>
   need (zw 0 3 1) <|
   some [y4, y5, y6]
  else
   bif bif decide (wu32 x > 65535) then decide (wu32 x ≤ 1114111) else false then
    zb (zT (ibOr IntKind.u8 240 (wu8 (zbi IntKind.i32 x 18)))) fun y7 =>
    zb (zT (ibOr IntKind.u8 128 (zbh IntKind.u8 (wu8 (zbi IntKind.i32 x 12)) 63))) fun y8 =>
    zb (zT (ibOr IntKind.u8 128 (zbh IntKind.u8 (wu8 (zbi IntKind.i32 x 6)) 63))) fun y9 =>
    zb (zT (ibOr IntKind.u8 128 (zbh IntKind.u8 (wu8 x) 63))) fun y10 =>
    need (zw 0 4 1) <|
    some [y7, y8, y9, y10]
   else
    need (zw 0 3 1) <|
    some [(239 : UInt8), (191 : UInt8), (189 : UInt8)]
noncomputable def qb (x : Int) : Option (List UInt8) :=
 bif decide (wu32 x ≤ 127) then
  zb (zT (wu8 x)) fun y1 =>
  need (zw 0 1 1) <|
  some [y1]
 else
  zb (Zh x) fun y2 =>
  some y2
noncomputable def ZR (x : Int × Int × Int) : Option Bool :=
 some (bif decide (x.2.1 ≤ x.1) then decide (x.1 ≤ x.2.2) else false)
noncomputable def Zy (x : Int) : Option Bool :=
 zb (ZR (x, 48, 57)) fun y1 =>
 some y1
noncomputable def zaD (x : Int) : Option Int :=
 zb (Zy x) fun y1 =>
 bif y1 then
  some (w64 (x - 48))
 else
  zb (zx (x != (-1)) (ZR (ibOr IntKind.i64 x 32, 97, 102)) (default : Bool)) fun y2 =>
  bif bif bif bif x != (-1) then y2 else false then decide (x > 64) else false then decide (x < 128) else false then
   some (w64 (w64 (ibOr IntKind.i64 x 32 - 97) + 10))
  else
   some (-1)
noncomputable def Zz (x : za) : Option (za × List UInt8) :=
 zb (zf (0, (⟨x.s, w64 (x.at_ + 1)⟩ : za))) fun y1 =>
 bif y1 == (-1) then
  zb (qb 65533) fun y2 =>
  some ((⟨x.s, w64 (x.at_ + 1)⟩ : za), y2)
 else
  zb (zaD y1) fun y3 =>
  bif decide (y3 < 0) then
   zb (zT (wu8 y1)) fun y4 =>
   need (zw 0 1 1) <|
   some ((⟨x.s, w64 (w64 (x.at_ + 1) + 1)⟩ : za), [y4])
  else
   Qs (fun (s5 : (Int × Int) × za) =>
     bif decide (s5.1.2 < 6) then
      zb (zf (0, s5.2)) fun y6 =>
      zb (zaD y6) fun y7 =>
      bif decide (y7 < 0) then
       some (LO.out (s5.1.1, s5.2))
      else
       some (LO.again ((ibOr IntKind.i64 (zpz IntKind.i64 s5.1.1 4) y7, w64 (s5.1.2 + 1)), (⟨s5.2.s, w64 (s5.2.at_ + 1)⟩ : za)))
     else
      some (LO.out (s5.1.1, s5.2)) : (Int × Int) × za → Option (LO ((Int × Int) × za) (Int × za) _)) ((0, 0), (⟨x.s, w64 (x.at_ + 1)⟩ : za)) fun o8 =>
   zH (X := Int × za) (
     zb (zf (0, o8.2)) fun y9 =>
     zb (ZJ y9) fun y10 =>
     bif y10 then
      some (LX.out (o8.1, (⟨o8.2.s, w64 (o8.2.at_ + 1)⟩ : za)))
     else
      some (LX.out (o8.1, o8.2))) fun j11 =>
   zH (X := Int) (
     bif j11.1 == 0 then
      some (LX.out 65533)
     else
      some (LX.out j11.1)) fun j12 =>
   zb (qb (w32 j12)) fun y13 =>
   some (j11.2, y13)
noncomputable def Zi (x : Int × List UInt8) : Option (List UInt8) :=
 bif decide (wu32 x.1 ≤ 2047) then
  zb (zT (ibOr IntKind.u8 192 (wu8 (zbi IntKind.i32 x.1 6)))) fun y1 =>
  zb (zT (ibOr IntKind.u8 128 (zbh IntKind.u8 (wu8 x.1) 63))) fun y2 =>
  need (zw x.2.length 2 1) <|
  some (x.2 ++ [y1, y2])
 else
  zH (X := Bool × List UInt8) (
    bif decide (wu32 x.1 < 55296) then
     some (LX.out (decide (wu32 x.1 < 55296), x.2))
    else
     some (LX.out (bif decide (57343 < wu32 x.1) then decide (wu32 x.1 ≤ 65535) else false, x.2))) fun j3 =>
  bif j3.1 then
   zb (zT (ibOr IntKind.u8 224 (wu8 (zbi IntKind.i32 x.1 12)))) fun y4 =>
   zb (zT (ibOr IntKind.u8 128 (zbh IntKind.u8 (wu8 (zbi IntKind.i32 x.1 6)) 63))) fun y5 =>
   zb (zT (ibOr IntKind.u8 128 (zbh IntKind.u8 (wu8 x.1) 63))) fun y6 =>
   need (zw j3.2.length 3 1) <|
   some (j3.2 ++ [y4, y5, y6])
  else
   bif bif decide (wu32 x.1 > 65535) then decide (wu32 x.1 ≤ 1114111) else false then
    zb (zT (ibOr IntKind.u8 240 (wu8 (zbi IntKind.i32 x.1 18)))) fun y7 =>
    zb (zT (ibOr IntKind.u8 128 (zbh IntKind.u8 (wu8 (zbi IntKind.i32 x.1 12)) 63))) fun y8 =>
    zb (zT (ibOr IntKind.u8 128 (zbh IntKind.u8 (wu8 (zbi IntKind.i32 x.1 6)) 63))) fun y9 =>
    zb (zT (ibOr IntKind.u8 128 (zbh IntKind.u8 (wu8 x.1) 63))) fun y10 =>
    need (zw j3.2.length 4 1) <|
    some (j3.2 ++ [y7, y8, y9, y10])
   else
    need (zw j3.2.length 3 1) <|
    some (j3.2 ++ [(239 : UInt8), (191 : UInt8), (189 : UInt8)])
noncomputable def qc (x : Int × List UInt8) : Option (List UInt8) :=
 bif decide (wu32 x.1 ≤ 127) then
  zb (zT (wu8 x.1)) fun y1 =>
  need (zw x.2.length 1 1) <|
  some (x.2 ++ [y1])
 else
  zb (Zi (x.1, x.2)) fun y2 =>
  some y2
noncomputable def zB (x : za × List UInt8) : Option (za × List UInt8) :=
 zb (zf (0, (⟨x.1.s, w64 (x.1.at_ + 1)⟩ : za))) fun y1 =>
 bif y1 == (-1) then
  zb (qc (65533, x.2)) fun y2 =>
  some ((⟨x.1.s, w64 (x.1.at_ + 1)⟩ : za), y2)
 else
  zb (zaD y1) fun y3 =>
  bif decide (y3 < 0) then
   zb (zT (wu8 y1)) fun y4 =>
   need (zw x.2.length 1 1) <|
   some ((⟨x.1.s, w64 (w64 (x.1.at_ + 1) + 1)⟩ : za), x.2 ++ [y4])
  else
   Qs (fun (s5 : (Int × Int) × za) =>
     bif decide (s5.1.2 < 6) then
      zb (zf (0, s5.2)) fun y6 =>
      zb (zaD y6) fun y7 =>
      bif decide (y7 < 0) then
       some (LO.out (s5.1.1, s5.2))
      else
       some (LO.again ((ibOr IntKind.i64 (zpz IntKind.i64 s5.1.1 4) y7, w64 (s5.1.2 + 1)), (⟨s5.2.s, w64 (s5.2.at_ + 1)⟩ : za)))
     else
      some (LO.out (s5.1.1, s5.2)) : (Int × Int) × za → Option (LO ((Int × Int) × za) (Int × za) _)) ((0, 0), (⟨x.1.s, w64 (x.1.at_ + 1)⟩ : za)) fun o8 =>
   zH (X := Int × za × List UInt8) (
     zb (zf (0, o8.2)) fun y9 =>
     zb (ZJ y9) fun y10 =>
     bif y10 then
      some (LX.out (o8.1, (⟨o8.2.s, w64 (o8.2.at_ + 1)⟩ : za), x.2))
     else
      some (LX.out (o8.1, o8.2, x.2))) fun j11 =>
   zH (X := Int × List UInt8) (
     bif j11.1 == 0 then
      some (LX.out (65533, j11.2.2))
     else
      some (LX.out (j11.1, j11.2.2))) fun j12 =>
   zb (qc (w32 j12.1, j12.2)) fun y13 =>
   some (j11.2.1, y13)
noncomputable def Z5 (x : za) : Option (ze × za) :=
 zb (zf (0, x)) fun y1 =>
 Qs (fun (s2 : za × ze × List UInt8) =>
   zb (zf (0, s2.1)) fun y3 =>
   bif y3 == (-1) then
    some (LO.out (s2.1, s2.2.1, s2.2.2))
   else
    bif y3 == y1 then
     some (LO.out ((⟨s2.1.s, w64 (s2.1.at_ + 1)⟩ : za), s2.2.1, s2.2.2))
    else
     bif y3 == 10 then
      some (LO.ret ((⟨6, [], 0, [], false⟩ : ze), s2.1))
     else
      zb (zx (y3 == 92) (zf (1, s2.1)) (default : Int)) fun y4 =>
      zb (zx (!(y4 == (-1)) && y3 == 92) (zf (1, s2.1)) (default : Int)) fun y5 =>
      bif bif y3 == 92 then bif y4 == (-1) then true else y5 == 10 else false then
       some (LO.again ((⟨s2.1.s, if (s2.1.s.length : Int) < w64 (s2.1.at_ + 2) then (s2.1.s.length : Int) else w64 (s2.1.at_ + 2)⟩ : za), s2.2.1, s2.2.2))
      else
       bif y3 == 92 then
        zb (zB (s2.1, s2.2.2)) fun y6 =>
        some (LO.again (y6.1, s2.2.1, y6.2))
       else
        zb (zT (wu8 y3)) fun y7 =>
        need (zw s2.2.2.length 1 1) <|
        some (LO.again ((⟨s2.1.s, w64 (s2.1.at_ + 1)⟩ : za), s2.2.1, s2.2.2 ++ [y7])) : za × ze × List UInt8 → Option (LO (za × ze × List UInt8) (za × ze × List UInt8) _)) ((⟨x.s, w64 (x.at_ + 1)⟩ : za), (⟨0, [], 0, [], false⟩ : ze), []) fun o8 =>
 some ((⟨5, o8.2.2, 0, [], false⟩ : ze), o8.1)
noncomputable def QC (x : Int) : Option Bool :=
 zb (ZR (ibOr IntKind.i64 x 32, 97, 122)) fun y1 =>
 some (bif bif bif bif y1 then decide (x < 128) else false then decide (x > 64) else false then true else x == 95 then true else decide (x ≥ 128))
noncomputable def QD (x : Int) : Option Bool :=
 zb (QC x) fun y1 =>
 zb (zx (!y1) (Zy x) (default : Bool)) fun y2 =>
 some (bif bif y1 then true else y2 then true else x == 45)
noncomputable def zu (x : Int × za) : Option Bool :=
 zb (zf (x.1, x.2)) fun y1 =>
 zb (zx (y1 == 92) (zf (w64 (x.1 + 1), x.2)) (default : Int)) fun y2 =>
 some (bif y1 == 92 then y2 != 10 else false)
noncomputable def zS (x : Int × za) : Option Bool :=
 zb (zf (x.1, x.2)) fun y1 =>
 bif y1 != 45 then
  zb (zf (x.1, x.2)) fun y2 =>
  zb (QC y2) fun y3 =>
  zb (zx (!y3) (zu (x.1, x.2)) (default : Bool)) fun y4 =>
  some (bif y3 then true else y4)
 else
  zb (zf (w64 (x.1 + 1), x.2)) fun y5 =>
  zb (QC y5) fun y6 =>
  zb (zx (!y6) (zf (w64 (x.1 + 1), x.2)) (default : Int)) fun y7 =>
  zb (zx (!(bif y6 then true else y7 == 45)) (zu (w64 (x.1 + 1), x.2)) (default : Bool)) fun y8 =>
  some (bif bif y6 then true else y7 == 45 then true else y8)
noncomputable def zK (x : za) : Option (Str × za) :=
 Qs (fun (s1 : za × List UInt8) =>
   zb (zf (0, s1.1)) fun y2 =>
   zb (QD y2) fun y3 =>
   bif y3 then
    zb (zT (wu8 y2)) fun y4 =>
    need (zw s1.2.length 1 1) <|
    some (LO.again ((⟨s1.1.s, w64 (s1.1.at_ + 1)⟩ : za), s1.2 ++ [y4]))
   else
    zb (zx (y2 != (-1)) (zu (0, s1.1)) (default : Bool)) fun y5 =>
    bif bif y2 != (-1) then y5 else false then
     zb (zB (s1.1, s1.2)) fun y6 =>
     some (LO.again (y6.1, y6.2))
    else
     some (LO.ret (s1.2, s1.1)) : za × List UInt8 → Option (LO (za × List UInt8) (Unit) _)) (x, []) fun o7 =>
 none
noncomputable def Z4 (x : za) : Option Bool :=
 zH (X := Int) (
   zb (zf (0, x)) fun y1 =>
   bif bif y1 == 43 then true else y1 == 45 then
    some (LX.out 1)
   else
    some (LX.out 0)) fun j2 =>
 zH (X := Int) (
   zb (zf (j2, x)) fun y3 =>
   bif y3 == 46 then
    some (LX.out (w64 (j2 + 1)))
   else
    some (LX.out j2)) fun j4 =>
 zb (zf (j4, x)) fun y5 =>
 zb (Zy y5) fun y6 =>
 some y6
noncomputable def zW (x : za) : Option za :=
 Qs (fun (s1 : za) =>
   zb (zf (0, s1)) fun y2 =>
   zb (Zy y2) fun y3 =>
   bif y3 then
    some (LO.again (⟨s1.s, w64 (s1.at_ + 1)⟩ : za))
   else
    some (LO.out s1) : za → Option (LO (za) (za) _)) x fun o4 =>
 some o4
noncomputable def ZP (x : za) : Option (Bool × za) :=
 zH (X := za) (
   zb (zf (0, x)) fun y1 =>
   bif bif y1 == 43 then true else y1 == 45 then
    some (LX.out (⟨x.s, w64 (x.at_ + 1)⟩ : za))
   else
    some (LX.out x)) fun j2 =>
 zb (zW j2) fun y3 =>
 zH (X := Bool × za) (
   zb (zf (0, y3)) fun y4 =>
   zb (zx (y4 == 46) (zf (1, y3)) (default : Int)) fun y5 =>
   zb (zx (y4 == 46) (Zy y5) (default : Bool)) fun y6 =>
   bif bif y4 == 46 then y6 else false then
    zb (zW (⟨y3.s, w64 (y3.at_ + 1)⟩ : za)) fun y7 =>
    some (LX.out (false, y7))
   else
    some (LX.out (true, y3))) fun j8 =>
 zH (X := Bool × za) (
   zb (zf (0, j8.2)) fun y9 =>
   zb (zx (!(y9 == 101)) (zf (0, j8.2)) (default : Int)) fun y10 =>
   bif bif y9 == 101 then true else y10 == 69 then
    zH (X := (Bool × Int) × za) (
      zb (zf (1, j8.2)) fun y11 =>
      bif bif y11 == 43 then true else y11 == 45 then
       some (LX.out ((j8.1, 2), j8.2))
      else
       some (LX.out ((j8.1, 1), j8.2))) fun j12 =>
    zb (zf (j12.1.2, j12.2)) fun y13 =>
    zb (Zy y13) fun y14 =>
    bif y14 then
     zb (zW (⟨j12.2.s, w64 (j12.2.at_ + j12.1.2)⟩ : za)) fun y15 =>
     some (LX.out (false, y15))
    else
     some (LX.out (j12.1.1, j12.2))
   else
    some (LX.out (j8.1, j8.2))) fun j16 =>
 some (j16.1, j16.2)
noncomputable def qQ (x : Str) : Option Int :=
 zb (geti x 0) fun y1 =>
 zb (zhx (x, [43, 45])) fun y2 =>
 zH (X := Str × Int) (
   zb (zcm (y2, [101, 69])) fun y3 =>
   bif decide (y3 ≥ 0) then
    need (decide (0 ≤ w64 (y3 + 1)) && decide (w64 (y3 + 1) ≤ (y2.length : Int))) <|
    zb (zhx (List.drop (w64 (y3 + 1)).toNat y2, [43, 45])) fun y4 =>
    need (decide (y4.length ≤ maxLen)) <|
    Qs (fun (s5 : Int × Int) =>
      bif decide (s5.2 < (y4.length : Int)) then
       need (decide (0 ≤ s5.2) && decide (s5.2 < (y4.length : Int))) <|
       zb y4[s5.2.toNat]? fun y6 =>
       some (LO.again (if 1048576 < w64 (w64 (10 * s5.1) + w64 (wu8 ((y6.toNat : Int) - 48))) then 1048576 else w64 (w64 (10 * s5.1) + w64 (wu8 ((y6.toNat : Int) - 48))), w64 (s5.2 + 1)))
      else
       some (LO.out s5.1) : Int × Int → Option (LO (Int × Int) (Int) _)) (0, 0) fun o7 =>
    zH (X := Str × Int × Int) (
      zb (geti y2 (w64 (y3 + 1))) fun y8 =>
      bif (y8.toNat : Int) == 45 then
       some (LX.out (y2, 3, w64 (0 - o7)))
      else
       some (LX.out (y2, 3, o7))) fun j9 =>
    need (decide (0 ≤ y3) && decide (y3 ≤ (j9.1.length : Int))) <|
    some (LX.out (List.take y3.toNat j9.1, w64 (j9.2.1 + j9.2.2)))
   else
    some (LX.out (y2, 3))) fun j10 =>
 zb (cutF (j10.1, [46])) fun y11 =>
 need (zhW y11.1.length y11.2.1.length) <|
 zH (X := Str × Int) (
   bif decide (w64 (j10.2 - (y11.2.1.length : Int)) < 0) then
    need (decide (0 ≤ (if w64 (((y11.1 ++ y11.2.1).length : Int) + w64 (j10.2 - (y11.2.1.length : Int))) > 0 then w64 (((y11.1 ++ y11.2.1).length : Int) + w64 (j10.2 - (y11.2.1.length : Int))) else 0)) && decide ((if w64 (((y11.1 ++ y11.2.1).length : Int) + w64 (j10.2 - (y11.2.1.length : Int))) > 0 then w64 (((y11.1 ++ y11.2.1).length : Int) + w64 (j10.2 - (y11.2.1.length : Int))) else 0) ≤ ((y11.1 ++ y11.2.1).length : Int))) <|
    some (LX.out (List.take (if w64 (((y11.1 ++ y11.2.1).length : Int) + w64 (j10.2 - (y11.2.1.length : Int))) > 0 then w64 (((y11.1 ++ y11.2.1).length : Int) + w64 (j10.2 - (y11.2.1.length : Int))) else 0).toNat (y11.1 ++ y11.2.1), w64 (j10.2 - (y11.2.1.length : Int))))
   else
    some (LX.out (y11.1 ++ y11.2.1, w64 (j10.2 - (y11.2.1.length : Int))))) fun j12 =>
 need (decide (j12.1.length ≤ maxLen)) <|
 Qs (fun (s13 : Int × Int) =>
   bif decide (s13.2 < (j12.1.length : Int)) then
    need (decide (0 ≤ s13.2) && decide (s13.2 < (j12.1.length : Int))) <|
    zb j12.1[s13.2.toNat]? fun y14 =>
    some (LO.again (if 1000000000000 < w64 (w64 (10 * s13.1) + w64 (wu8 ((y14.toNat : Int) - 48))) then 1000000000000 else w64 (w64 (10 * s13.1) + w64 (wu8 ((y14.toNat : Int) - 48))), w64 (s13.2 + 1)))
   else
    some (LO.out s13.1) : Int × Int → Option (LO (Int × Int) (Int) _)) (0, 0) fun o15 =>
 Qs (fun (s16 : Int × Int) =>
   bif bif bif decide (s16.1 > 0) then decide (s16.2 > 0) else false then decide (s16.2 < 1000000000000) else false then
    some (LO.again (w64 (s16.1 - 1), if 1000000000000 < w64 (10 * s16.2) then 1000000000000 else w64 (10 * s16.2)))
   else
    some (LO.out s16.2) : Int × Int → Option (LO (Int × Int) (Int) _)) (j12.2, o15) fun o17 =>
 zH (X := Int) (
   bif (y1.toNat : Int) == 45 then
    some (LX.out (w64 (0 - o17)))
   else
    some (LX.out o17)) fun j18 =>
 some j18
noncomputable def ZQ (x : za) : Option (ze × za) :=
 zb (ZP x) fun y1 =>
 need (decide (0 ≤ x.at_) && (decide (x.at_ ≤ y1.2.at_) && decide (y1.2.at_ ≤ (y1.2.s.length : Int)))) <|
 zb (qQ (List.drop x.at_.toNat (List.take y1.2.at_.toNat y1.2.s))) fun y2 =>
 zH (X := za × ze × ze) (
   zb (zS (0, y1.2)) fun y3 =>
   bif y3 then
    zb (zK y1.2) fun y4 =>
    some (LX.out (y4.2, (⟨0, [], 0, [], false⟩ : ze), (⟨12, [], y2, y4.1, y1.1⟩ : ze)))
   else
    zb (zf (0, y1.2)) fun y5 =>
    bif y5 == 37 then
     some (LX.out ((⟨y1.2.s, w64 (y1.2.at_ + 1)⟩ : za), (⟨0, [], 0, [], false⟩ : ze), (⟨11, [], y2, [], false⟩ : ze)))
    else
     some (LX.out (y1.2, (⟨0, [], 0, [], false⟩ : ze), (⟨10, [], y2, [], y1.1⟩ : ze)))) fun j6 =>
 some (j6.2.2, j6.1)
noncomputable def ZI (x : za) : Option (ze × za) :=
 Qs (fun (s1 : za × ze) =>
   zb (zf (0, s1.1)) fun y2 =>
   bif y2 == (-1) then
    some (LO.ret ((⟨8, [], 0, [], false⟩ : ze), s1.1))
   else
    zb (zu (0, s1.1)) fun y3 =>
    bif y3 then
     zb (Zz s1.1) fun y4 =>
     some (LO.again (y4.1, s1.2))
    else
     zb (geti s1.1.s (w64 (w64 (s1.1.at_ + 1) - 1))) fun y5 =>
     bif (y5.toNat : Int) == 41 then
      some (LO.ret ((⟨8, [], 0, [], false⟩ : ze), (⟨s1.1.s, w64 (s1.1.at_ + 1)⟩ : za)))
     else
      some (LO.again ((⟨s1.1.s, w64 (s1.1.at_ + 1)⟩ : za), s1.2)) : za × ze → Option (LO (za × ze) (Unit) _)) (x, (⟨0, [], 0, [], false⟩ : ze)) fun o6 =>
 none
noncomputable def qP (x : za) : Option (ze × za) :=
 zb (zG x) fun y1 =>
 Qs (fun (s2 : za × ze × List UInt8) =>
   zb (zf (0, s2.1)) fun y3 =>
   zH (X := Int × za × ze × List UInt8) (
     zb (ZJ y3) fun y4 =>
     bif y4 then
      zb (zG s2.1) fun y5 =>
      zb (zf (0, y5)) fun y6 =>
      bif bif y6 != 41 then y6 != (-1) else false then
       zb (ZI y5) fun y7 =>
       some (LX.ret (LO.ret (y7.1, y7.2)))
      else
       some (LX.out (y6, y5, s2.2.1, s2.2.2))
     else
      some (LX.out (y3, s2.1, s2.2.1, s2.2.2))) fun j8 =>
   bif j8.1 == (-1) then
    some (LO.ret ((⟨7, j8.2.2.2, 0, [], false⟩ : ze), j8.2.1))
   else
    bif j8.1 == 41 then
     some (LO.ret ((⟨7, j8.2.2.2, 0, [], false⟩ : ze), (⟨j8.2.1.s, w64 (j8.2.1.at_ + 1)⟩ : za)))
    else
     zb (zx (!(bif bif bif bif j8.1 == 34 then true else j8.1 == 39 then true else j8.1 == 40 then true else decide (j8.1 ≤ 8) then true else j8.1 == 11)) (ZR (j8.1, 14, 31)) (default : Bool)) fun y9 =>
     bif bif bif bif bif bif bif j8.1 == 34 then true else j8.1 == 39 then true else j8.1 == 40 then true else decide (j8.1 ≤ 8) then true else j8.1 == 11 then true else y9 then true else j8.1 == 127 then
      zb (ZI j8.2.1) fun y10 =>
      some (LO.ret (y10.1, y10.2))
     else
      bif j8.1 != 92 then
       zb (zT (wu8 j8.1)) fun y11 =>
       need (zw j8.2.2.2.length 1 1) <|
       some (LO.again ((⟨j8.2.1.s, w64 (j8.2.1.at_ + 1)⟩ : za), j8.2.2.1, j8.2.2.2 ++ [y11]))
      else
       zb (zu (0, j8.2.1)) fun y12 =>
       bif y12 then
        zb (zB (j8.2.1, j8.2.2.2)) fun y13 =>
        some (LO.again (y13.1, j8.2.2.1, y13.2))
       else
        zb (ZI j8.2.1) fun y14 =>
        some (LO.ret (y14.1, y14.2)) : za × ze × List UInt8 → Option (LO (za × ze × List UInt8) (Unit) _)) (y1, (⟨0, [], 0, [], false⟩ : ze), []) fun o15 =>
 none
noncomputable def qh (x : za) : Option (ze × za) :=
 zb (zK x) fun y1 =>
 zb (zf (0, y1.2)) fun y2 =>
 bif y2 != 40 then
  some ((⟨1, y1.1, 0, [], false⟩ : ze), y1.2)
 else
  zH (X := za × ze) (
    zb (Qa (y1.1, [117, 114, 108])) fun y3 =>
    bif y3 then
     zb (zG (⟨y1.2.s, w64 (y1.2.at_ + 1)⟩ : za)) fun y4 =>
     zb (zf (0, y4)) fun y5 =>
     bif bif y5 != 34 then y5 != 39 else false then
      zb (qP (⟨y1.2.s, w64 (y1.2.at_ + 1)⟩ : za)) fun y6 =>
      some (LX.ret (y6.1, y6.2))
     else
      some (LX.out ((⟨y1.2.s, w64 (y1.2.at_ + 1)⟩ : za), (⟨0, [], 0, [], false⟩ : ze)))
    else
     some (LX.out ((⟨y1.2.s, w64 (y1.2.at_ + 1)⟩ : za), (⟨0, [], 0, [], false⟩ : ze)))) fun j7 =>
  some ((⟨2, y1.1, 0, [], false⟩ : ze), j7.1)
noncomputable def qC (x : za) : Option (ze × za) :=
 zb (zf (0, x)) fun y1 =>
 need (decide (0 ≤ x.at_) && decide (x.at_ ≤ (x.s.length : Int))) <|
 zb (ZJ y1) fun y2 =>
 bif y2 then
  zb (zG x) fun y3 =>
  some ((⟨13, [], 0, [], false⟩ : ze), y3)
 else
  bif bif y1 == 34 then true else y1 == 39 then
   zb (Z5 x) fun y4 =>
   some (y4.1, y4.2)
  else
   zb (zx (y1 == 35) (zf (1, x)) (default : Int)) fun y5 =>
   zb (zx (y1 == 35) (QD y5) (default : Bool)) fun y6 =>
   zb (zx (!y6 && y1 == 35) (zu (1, x)) (default : Bool)) fun y7 =>
   bif bif y1 == 35 then bif y6 then true else y7 else false then
    zb (zS (1, x)) fun y8 =>
    zb (zK (⟨x.s, w64 (x.at_ + 1)⟩ : za)) fun y9 =>
    some ((⟨4, y9.1, 0, [], y8⟩ : ze), y9.2)
   else
    zb (Z4 x) fun y10 =>
    bif y10 then
     zb (ZQ x) fun y11 =>
     some (y11.1, y11.2)
    else
     zb (strings_HasPrefix (List.drop x.at_.toNat x.s, [45, 45, 62])) fun y12 =>
     bif y12 then
      some ((⟨15, [], 0, [], false⟩ : ze), (⟨x.s, w64 (x.at_ + 3)⟩ : za))
     else
      zb (strings_HasPrefix (List.drop x.at_.toNat x.s, [60, 33, 45, 45])) fun y13 =>
      bif y13 then
       some ((⟨14, [], 0, [], false⟩ : ze), (⟨x.s, w64 (x.at_ + 4)⟩ : za))
      else
       zb (zx (y1 == 64) (zS (1, x)) (default : Bool)) fun y14 =>
       bif bif y1 == 64 then y14 else false then
        zb (zK (⟨x.s, w64 (x.at_ + 1)⟩ : za)) fun y15 =>
        some ((⟨3, y15.1, 0, [], false⟩ : ze), y15.2)
       else
        zb (zS (0, x)) fun y16 =>
        bif y16 then
         zb (qh x) fun y17 =>
         some (y17.1, y17.2)
        else
         zb (strings_IndexByte ([58, 59, 44, 91, 93, 40, 41, 123, 125], wu8 y1)) fun y18 =>
         bif decide (y18 ≥ 0) then
          some ((⟨wu8 (16 + wu8 y18), [], 0, [], false⟩ : ze), (⟨x.s, w64 (x.at_ + 1)⟩ : za))
         else
          need (decide (1 ≤ ((List.drop x.at_.toNat x.s).length : Int))) <|
          some ((⟨9, List.take 1 (List.drop x.at_.toNat x.s), 0, [], false⟩ : ze), (⟨x.s, w64 (x.at_ + 1)⟩ : za))
noncomputable def Qk (x : (ze × Int × Int) × List ze) : Option (List ze) :=
 need (zw x.2.length 1 56) <|
 some (x.2 ++ [x.1.1])
noncomputable def za2 (x : Str) : Option (Int × List ze) :=
 zb (zgH x) fun y1 =>
 bif y1.2 != 0 then
  some (y1.2, [])
 else
  zb (Ze (⟨y1.1, 0⟩ : za)) fun y2 =>
  Qs (fun (s3 : Int × List ze × za) =>
    bif decide (s3.2.2.at_ < (y1.1.length : Int)) then
     bif decide (w64 (s3.1 + 1) > 1500) then
      some (LO.ret (4, s3.2.1))
     else
      zb (qC s3.2.2) fun y4 =>
      zb (Qk ((y4.1, s3.2.2.at_, y4.2.at_), s3.2.1)) fun y5 =>
      zb (Ze y4.2) fun y6 =>
      some (LO.again (w64 (s3.1 + 1), y5, y6))
    else
     some (LO.out (s3.2.1, s3.2.2)) : Int × List ze × za → Option (LO (Int × List ze × za) (List ze × za) _)) (0, [], y2) fun o7 =>
  some (0, o7.1)
noncomputable def ZO (x : Str) : Option (List ze × Int) :=
 zb (za2 x) fun y1 =>
 bif y1.1 != 0 then
  some ([], y1.1)
 else
  some (y1.2, 0)
noncomputable def Zb (x : List ze × List ze) : Option Bool :=
 bif (x.1.length : Int) != (x.2.length : Int) then
  some false
 else
  Qs (fun (s1 : Int) =>
    bif decide (s1 < (x.1.length : Int)) then
     zb (geti x.1 s1) fun y2 =>
     zb (geti x.2 s1) fun y3 =>
     bif !(y2.kind == y3.kind && (y2.text == y3.text && (y2.num == y3.num && (y2.unit == y3.unit && (y2.flag == y3.flag && true))))) then
      some (LO.ret false)
     else
      some (LO.again (w64 (s1 + 1)))
    else
     some (LO.out ()) : Int → Option (LO (Int) (Unit) _)) 0 fun o4 =>
  some true
noncomputable def qG (x : List ze) : Option (Str × Int) :=
 zb (zX x) fun y1 =>
 bif y1 != 0 then
  some ([], y1)
 else
  Qs (fun (s2 : Int × List UInt8 × List zm) =>
    bif decide (s2.1 < (x.length : Int)) then
     need (decide (0 ≤ s2.1) && decide (s2.1 ≤ (x.length : Int))) <|
     zb (qH (List.drop s2.1.toNat x)) fun y3 =>
     need (decide (0 ≤ s2.1) && (decide (s2.1 ≤ w64 (s2.1 + y3)) && decide (w64 (s2.1 + y3) ≤ (x.length : Int)))) <|
     Qs (fun (s4 : Int × List UInt8) =>
       bif decide (s4.1 < ((List.drop s2.1.toNat (List.take (w64 (s2.1 + y3)).toNat x)).length : Int)) then
        zb (geti (List.drop s2.1.toNat (List.take (w64 (s2.1 + y3)).toNat x)) s4.1) fun y5 =>
        zb (Q9 (y5, s4.2)) fun y6 =>
        some (LO.again (w64 (s4.1 + 1), y6))
       else
        some (LO.out s4.2) : Int × List UInt8 → Option (LO (Int × List UInt8) (List UInt8) _)) (0, []) fun o7 =>
     zH (X := Int × List UInt8 × List zm × List UInt8) (
       zb (geti x s2.1) fun y8 =>
       bif bif y8.kind == 9 then y3 == 2 else false then
        some (LX.out (s2.1, s2.2.1, s2.2.2, [(92 : UInt8), (10 : UInt8)]))
       else
        some (LX.out (s2.1, s2.2.1, s2.2.2, o7))) fun j9 =>
     zH (X := Int × List UInt8 × List zm × zm) (
       bif decide (w64 ((j9.2.2.1.length : Int) - 4) ≥ 0) then
        need (decide (0 ≤ w64 ((j9.2.2.1.length : Int) - 4)) && decide (w64 ((j9.2.2.1.length : Int) - 4) < (j9.2.2.1.length : Int))) <|
        zb (j9.2.2.1[(w64 ((j9.2.2.1.length : Int) - 4)).toNat]?) fun y10 =>
        some (LX.out (j9.1, j9.2.1, j9.2.2.1, y10))
       else
        some (LX.out (j9.1, j9.2.1, j9.2.2.1, (⟨0, 0⟩ : zm)))) fun j11 =>
     need (decide (0 ≤ j11.2.2.2.at_) && decide (j11.2.2.2.at_ ≤ (j11.2.1.length : Int))) <|
     need (decide (j11.2.2.2.at_.toNat + (j11.2.1.length - j11.2.2.2.at_.toNat) ≤ j11.2.1.length)) <|
     need (zhW (List.take (j11.2.1.length - j11.2.2.2.at_.toNat) (List.drop j11.2.2.2.at_.toNat j11.2.1)).length j9.2.2.2.length) <|
     zb (ZO (List.take (j11.2.1.length - j11.2.2.2.at_.toNat) (List.drop j11.2.2.2.at_.toNat j11.2.1) ++ j9.2.2.2)) fun y12 =>
     zH (X := Int × List zm × List UInt8) (
       need (decide (0 ≤ j11.2.2.2.token) && (decide (j11.2.2.2.token ≤ w64 (j11.1 + y3)) && decide (w64 (j11.1 + y3) ≤ (x.length : Int))) || !(!(y12.2 != 0))) <|
       zb (zx (!(y12.2 != 0)) (Zb (y12.1, List.drop j11.2.2.2.token.toNat (List.take (w64 (j11.1 + y3)).toNat x))) (default : Bool)) fun y13 =>
       bif bif y12.2 != 0 then true else !y13 then
        need (zw j11.2.1.length ([47, 42, 42, 47] : Str).length 1) <|
        some (LX.out (j11.1, j11.2.2.1, j11.2.1 ++ ([47, 42, 42, 47] : Str)))
       else
        some (LX.out (j11.1, j11.2.2.1, j11.2.1))) fun j14 =>
     need (zw j14.2.1.length 1 16) <|
     need (zw j14.2.2.length j9.2.2.2.length 1) <|
     bif decide (((j14.2.2 ++ j9.2.2.2).length : Int) > 4000) then
      some (LO.ret ([], 28))
     else
      some (LO.again (w64 (j14.1 + y3), j14.2.2 ++ j9.2.2.2, j14.2.1 ++ [(⟨j14.1, (j14.2.2.length : Int)⟩ : zm)]))
    else
     some (LO.out s2.2.1) : Int × List UInt8 × List zm → Option (LO (Int × List UInt8 × List zm) (List UInt8) _)) (0, [], []) fun o15 =>
  some (o15, 0)
noncomputable def zo (x : Str × List ze) : Option Bool :=
 zb (qG x.2) fun y1 =>
 some (bif y1.2 == 0 then y1.1 == x.1 else false)
noncomputable def zaO (x : Unit) : Option Bool :=
 zb (Zn [49, 32, 97]) fun y1 =>
 zb (zo ([92, 51, 49, 32, 92, 50, 48, 32, 97], [y1])) fun y2 =>
 zb (zx y2 (zo ([34, 97, 92, 34, 92, 97, 32, 34], [(⟨5, [97, 34, 10], 0, [], false⟩ : ze)])) (default : Bool)) fun y3 =>
 zb (zx (bif y2 then y3 else false) (zo ([49, 46, 53, 92, 54, 53, 32, 51], [(⟨12, [], 1500, [101, 51], false⟩ : ze)])) (default : Bool)) fun y4 =>
 zb (zx (bif bif y2 then y3 else false then y4 else false) (Zn [97]) (default : ze)) fun y5 =>
 zb (zx (bif bif y2 then y3 else false then y4 else false) (Zn [98]) (default : ze)) fun y6 =>
 zb (zx (bif bif y2 then y3 else false then y4 else false) (zo ([97, 47, 42, 42, 47, 98], [y5, y6])) (default : Bool)) fun y7 =>
 zb (zx (bif bif bif y2 then y3 else false then y4 else false then y7 else false) (Zn [97]) (default : ze)) fun y8 =>
 zb (zx (bif bif bif y2 then y3 else false then y4 else false then y7 else false) (zo ([97, 58], [y8, (⟨16, [], 0, [], false⟩ : ze)])) (default : Bool)) fun y9 =>
 zb (zx (bif bif bif bif y2 then y3 else false then y4 else false then y7 else false then y9 else false) (zo ([50, 46, 48], [(⟨10, [], 2000, [], false⟩ : ze)])) (default : Bool)) fun y10 =>
 some (bif bif bif bif bif y2 then y3 else false then y4 else false then y7 else false then y9 else false then y10 else false)
noncomputable def zeS (x : ze) : Option (Str × Int) :=
 zb (zaq x) fun y1 =>
 bif !y1 then
  some ([], 8)
 else
  zb (zbG x) fun y2 =>
  some (y2, 0)
noncomputable def zcn (x : ze) : Option Bool :=
 zb (zeS x) fun y1 =>
 zb (zx (y1.2 == 8) (zX [x]) (default : Int)) fun y2 =>
 some (bif y1.2 == 8 then y2 == 8 else false)
noncomputable def qd (x : Str) : Option ze :=
 some (⟨9, x, 0, [], false⟩ : ze)
noncomputable def Qi (x : Str) : Option (Str × Int) :=
 zb (zx (!(x == [])) (strings_IndexByte (x, 0)) (default : Int)) fun y1 =>
 bif bif x == [] then true else decide (y1 ≥ 0) then
  some ([], 8)
 else
  zb (Zp x) fun y2 =>
  zb (Qw (x, y2)) fun y3 =>
  bif bif decide ((x.length : Int) > 4000) then true else decide ((y3.length : Int) > 4000) then
   some ([], 28)
  else
   some (y3, 0)
noncomputable def zbI (x : Unit) : Option Bool :=
 Qs (fun (s1 : Int) =>
   bif decide (s1 < 23) then
    zb (geti [(⟨0, [], 0, [], false⟩ : ze), (⟨25, [], 0, [], false⟩ : ze), (⟨6, [], 0, [], false⟩ : ze), (⟨8, [], 0, [], false⟩ : ze), (⟨1, [], 0, [], false⟩ : ze), (⟨3, [97, 0], 0, [], false⟩ : ze), (⟨1, [97], 0, [], true⟩ : ze), (⟨4, [97], 0, [], false⟩ : ze), (⟨4, [45, 45, 49], 0, [], false⟩ : ze), (⟨5, [], 0, [97], false⟩ : ze), (⟨9, [97], 0, [], false⟩ : ze), (⟨9, [58], 0, [], false⟩ : ze), (⟨9, [34], 0, [], false⟩ : ze), (⟨9, [95], 0, [], false⟩ : ze), (⟨9, [128], 0, [], false⟩ : ze), (⟨9, [12], 0, [], false⟩ : ze), (⟨9, [], 0, [], false⟩ : ze), (⟨10, [], 1000000000001, [], false⟩ : ze), (⟨10, [], 1, [], true⟩ : ze), (⟨11, [], 0, [], true⟩ : ze), (⟨12, [], 0, [], false⟩ : ze), (⟨16, [58], 0, [], false⟩ : ze), (⟨13, [], 1, [], false⟩ : ze)] s1) fun y2 =>
    zb (zcn y2) fun y3 =>
    bif !y3 then
     some (LO.ret false)
    else
     some (LO.again (w64 (s1 + 1)))
   else
    some (LO.out ()) : Int → Option (LO (Int) (Unit) _)) 0 fun o4 =>
 zb (qd [45]) fun y5 =>
 zb (Zn [97]) fun y6 =>
 zb (zo ([45, 47, 42, 42, 47, 97], [y5, y6])) fun y7 =>
 zb (zx y7 (Zn [97]) (default : ze)) fun y8 =>
 zb (zx y7 (zo ([35, 49, 47, 42, 42, 47, 97], [(⟨4, [49], 0, [], false⟩ : ze), y8])) (default : Bool)) fun y9 =>
 zb (zx (bif y7 then y9 else false) (qd [37]) (default : ze)) fun y10 =>
 zb (zx (bif y7 then y9 else false) (zo ([49, 47, 42, 42, 47, 37], [(⟨10, [], 1000, [], true⟩ : ze), y10])) (default : Bool)) fun y11 =>
 zb (zx (bif bif y7 then y9 else false then y11 else false) (qd [47]) (default : ze)) fun y12 =>
 zb (zx (bif bif y7 then y9 else false then y11 else false) (qd [42]) (default : ze)) fun y13 =>
 zb (zx (bif bif y7 then y9 else false then y11 else false) (zo ([47, 47, 42, 42, 47, 42], [y12, y13])) (default : Bool)) fun y14 =>
 zb (zx (bif bif bif y7 then y9 else false then y11 else false then y14 else false) (qd [60]) (default : ze)) fun y15 =>
 zb (zx (bif bif bif y7 then y9 else false then y11 else false then y14 else false) (qd [33]) (default : ze)) fun y16 =>
 zb (zx (bif bif bif y7 then y9 else false then y11 else false then y14 else false) (Zn [45, 45]) (default : ze)) fun y17 =>
 zb (zx (bif bif bif y7 then y9 else false then y11 else false then y14 else false) (zo ([60, 33, 47, 42, 42, 47, 45, 45], [y15, y16, y17])) (default : Bool)) fun y18 =>
 zb (zx (bif bif bif bif y7 then y9 else false then y11 else false then y14 else false then y18 else false) (zo ([49, 101, 47, 42, 42, 47, 51], [(⟨12, [], 1000, [101], true⟩ : ze), (⟨10, [], 3000, [], true⟩ : ze)])) (default : Bool)) fun y19 =>
 zb (Zn [97]) fun y20 =>
 zb (qd [92]) fun y21 =>
 zb (zo ([97, 92, 10], [y20, y21, (⟨13, [], 0, [], false⟩ : ze)])) fun y22 =>
 zb (zx y22 (zo ([117, 114, 108, 40, 32, 34, 120, 34], [(⟨2, [117, 114, 108], 0, [], false⟩ : ze), (⟨13, [], 0, [], false⟩ : ze), (⟨5, [120], 0, [], false⟩ : ze)])) (default : Bool)) fun y23 =>
 zb (zx (bif y22 then y23 else false) (zo ([32, 47, 42, 42, 47, 32], [(⟨13, [], 0, [], false⟩ : ze), (⟨13, [], 0, [], false⟩ : ze)])) (default : Bool)) fun y24 =>
 zb (zx (bif bif y22 then y23 else false then y24 else false) (zo ([117, 114, 108, 40, 92, 50, 48, 32, 92, 41, 41], [(⟨7, [32, 41], 0, [], false⟩ : ze)])) (default : Bool)) fun y25 =>
 zb (qd [92]) fun y26 =>
 zb (zX [y26]) fun y27 =>
 zb (zX [(⟨2, [85, 114, 108], 0, [], false⟩ : ze), (⟨13, [], 0, [], false⟩ : ze)]) fun y28 =>
 Qs (fun (s29 : Int × List ze × List ze) =>
   bif decide (s29.1 < 1501) then
    zH (X := Int × List ze × List ze) (
      need (decide (0 ≤ s29.1) && decide (s29.1 < (s29.2.1.length : Int))) <|
      zb s29.2.1[s29.1.toNat]? fun y30 =>
      bif decide (s29.1 < 1500) then
       zb (Zn [97]) fun y31 =>
       need (decide (0 ≤ s29.1) && decide (s29.1 < (s29.2.2.length : Int))) <|
       zb s29.2.2[s29.1.toNat]? fun y32 =>
       some (LX.out (s29.1, List.set s29.2.1 s29.1.toNat (⟨18, y30.text, y30.num, y30.unit, y30.flag⟩ : ze), List.set s29.2.2 s29.1.toNat y31))
      else
       some (LX.out (s29.1, List.set s29.2.1 s29.1.toNat (⟨18, y30.text, y30.num, y30.unit, y30.flag⟩ : ze), s29.2.2))) fun j33 =>
    some (LO.again (w64 (j33.1 + 1), j33.2.1, j33.2.2))
   else
    some (LO.out (s29.2.1, s29.2.2)) : Int × List ze × List ze → Option (LO (Int × List ze × List ze) (List ze × List ze) _)) (0, List.replicate (Int.toNat 1501) (⟨0, [], 0, [], false⟩ : ze), List.replicate (Int.toNat 1500) (⟨0, [], 0, [], false⟩ : ze)) fun o34 =>
 zb (zX o34.1) fun y35 =>
 need (decide (1500 ≤ (o34.1.length : Int))) <|
 zb (zX (List.take 1500 o34.1)) fun y36 =>
 zb (qG o34.2) fun y37 =>
 zb (Qi []) fun y38 =>
 zb (Qi [97, 0]) fun y39 =>
 zb (Qi (List.replicate (Int.toNat 4001) (0 : UInt8))) fun y40 =>
 zb (Qi [45]) fun y41 =>
 zb (qG []) fun y42 =>
 zb (zx (bif bif bif bif bif bif bif bif bif bif bif bif bif bif bif bif bif bif y7 then y9 else false then y11 else false then y14 else false then y18 else false then y19 else false then bif bif bif y22 then y23 else false then y24 else false then y25 else false else false then y27 == 8 else false then y28 == 8 else false then y35 == 4 else false then y36 == 0 else false then y37.2 == 28 else false then y38.2 == 8 else false then y39.2 == 8 else false then y40.2 == 8 else false then y41.2 == 0 else false then y41.1 == [92, 45] else false then y42.2 == 0 else false then y42.1 == [] else false) (zaO ()) (default : Bool)) fun y43 =>
 some (bif bif bif bif bif bif bif bif bif bif bif bif bif bif bif bif bif bif bif y7 then y9 else false then y11 else false then y14 else false then y18 else false then y19 else false then bif bif bif y22 then y23 else false then y24 else false then y25 else false else false then y27 == 8 else false then y28 == 8 else false then y35 == 4 else false then y36 == 0 else false then y37.2 == 28 else false then y38.2 == 8 else false then y39.2 == 8 else false then y40.2 == 8 else false then y41.2 == 0 else false then y41.1 == [92, 45] else false then y42.2 == 0 else false then y42.1 == [] else false then y43 else false)
end Go.Lv.VT
