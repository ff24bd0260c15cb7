/- Texts. -/
import Derived.Test.YtnfhfeipljhciaaTy
namespace Go.Lv.VT
noncomputable def ref04_Size_B (ref04_Size : List VValue × Int → Option Int) (x : List VValue × Int) : Option Int :=
  loopK (fun (s1 : Int × Int) =>
      bif bif decide (s1.2 < (x.1.length : Int)) then decide (s1.1 ≤ x.2) else false then
        bindO (geti x.1 s1.2) fun y2 =>
        bindO (geti x.1 s1.2) fun y3 =>
        bindO (geti x.1 s1.2) fun y4 =>
        bindO (ref04_Size (y4.list, w64 (x.2 - s1.1))) fun y5 =>
        some (LO.again (w64 (s1.1 + w64 (w64 (w64 (1 + (y2.token.text.length : Int)) + (y3.token.unit.length : Int)) + y5)), w64 (s1.2 + 1)))
      else
        some (LO.out s1.1) : Int × Int → Option (LO (Int × Int) (Int) _)) (0, 0) fun o6 =>
  some o6
noncomputable def ref04_Size : List VValue × Int → Option Int := recE ref04_Size_B
noncomputable def ref04_Closer (x : Int) : Option Int :=
  bif x == 19 then
    some 20
  else
    joinK (X := Bool) (
        bif x == 21 then
          some (LX.out (x == 21))
        else
          some (LX.out (x == 2))) fun j1 =>
    bif j1 then
      some 22
    else
      bif x == 23 then
        some 24
      else
        some 0
noncomputable def ref04_Deep_B (ref04_Deep : List VValue → Option Int) (x : List VValue) : Option Int :=
  loopK (fun (s1 : Int × Int) =>
      bif decide (s1.2 < (x.length : Int)) then
        joinK (X := Int × Int) (
            bindO (geti x s1.2) fun y2 =>
            bindO (ref04_Closer y2.token.kind) fun y3 =>
            bif y3 != 0 then
              bindO (geti x s1.2) fun y4 =>
              bindO (ref04_Deep y4.list) fun y5 =>
              some (LX.out (if w64 (1 + y5) > s1.1 then w64 (1 + y5) else s1.1, s1.2))
            else
              some (LX.out (s1.1, s1.2))) fun j6 =>
        some (LO.again (j6.1, w64 (j6.2 + 1)))
      else
        some (LO.out s1.1) : Int × Int → Option (LO (Int × Int) (Int) _)) (0, 0) fun o7 =>
  some o7
noncomputable def ref04_Deep : List VValue → Option Int := recE ref04_Deep_B
noncomputable def ref04_Great (x : List VValue) : Option Bool :=
  bindO (ref04_Size (x, 300)) fun y1 =>
  bindO (condO (!(decide (y1 > 300))) (ref04_Deep x) (default : Int)) fun y2 =>
  some (bif decide (y1 > 300) then true else decide (y2 > 40))
noncomputable def nest_closer (x : Int) : Option Int :=
  bif x == 2 then
    some 22
  else
    joinK (X := Bool) (
        bif x == 19 then
          some (LX.out (x == 19))
        else
          bif x == 21 then
            some (LX.out (x == 21))
          else
            some (LX.out (x == 23))) fun j1 =>
    bif j1 then
      some (wu8 (x + 1))
    else
      some 0
noncomputable def nest_look_B (nest_look : List VValue × Int → Option Vnest_found) (x : List VValue × Int) : Option Vnest_found :=
  loopK (fun (s1 : Int × Vnest_found) =>
      bif decide (s1.1 < (x.1.length : Int)) then
        joinK (X := Int × Vnest_found) (
            bindO (geti x.1 s1.1) fun y2 =>
            bindO (nest_closer y2.token.kind) fun y3 =>
            joinK (X := Vnest_found) (
                bif bif bif x.2 != 0 then y2.token.kind == x.2 else false then true else bif y3 == 0 then decide ((y2.list.length : Int) > 0) else false then
                  some (LX.out (⟨s1.2.depth, w64 (s1.2.tokens + 1), true⟩ : Vnest_found))
                else
                  some (LX.out (⟨s1.2.depth, w64 (s1.2.tokens + 1), s1.2.bad⟩ : Vnest_found))) fun j4 =>
            bif y3 == 0 then
              some (LX.out (s1.1, j4))
            else
              bindO (nest_look (y2.list, y3)) fun y5 =>
              some (LX.out (s1.1, (⟨if w64 (y5.depth + 1) > j4.depth then w64 (y5.depth + 1) else j4.depth, w64 (w64 (j4.tokens + y5.tokens) + 1), bif j4.bad then true else y5.bad⟩ : Vnest_found)))) fun j6 =>
        some (LO.again (w64 (j6.1 + 1), j6.2))
      else
        some (LO.out s1.2) : Int × Vnest_found → Option (LO (Int × Vnest_found) (Vnest_found) _)) (0, (⟨0, 0, false⟩ : Vnest_found)) fun o7 =>
  some o7
noncomputable def nest_look : List VValue × Int → Option Vnest_found := recE nest_look_B
noncomputable def nest_Check (x : List VValue) : Option Int :=
  bindO (nest_look (x, 0)) fun y1 =>
  bif decide (y1.depth > 16) then
    some 20
  else
    bif decide (y1.tokens > 1500) then
      some 4
    else
      bif y1.bad then
        some 8
      else
        some 0
noncomputable def nest_Depth (x : List VValue) : Option (Int × Int) :=
  bindO (nest_Check x) fun y1 =>
  bif y1 != 0 then
    some (0, y1)
  else
    bindO (nest_look (x, 0)) fun y2 =>
    some (y2.depth, 0)
noncomputable def ref04_Tokens_B (ref04_Tokens : List VValue → Option (List VToken)) (x : List VValue) : Option (List VToken) :=
  loopK (fun (s1 : Int × List VToken) =>
      bif decide (s1.1 < (x.length : Int)) then
        joinK (X := Int × List VToken) (
            bindO (geti x s1.1) fun y2 =>
            need (appOk s1.2.length 1 56) <|
            bindO (geti x s1.1) fun y3 =>
            bindO (ref04_Closer y3.token.kind) fun y4 =>
            bif y4 != 0 then
              bindO (geti x s1.1) fun y5 =>
              bindO (ref04_Tokens y5.list) fun y6 =>
              need (appOk (s1.2 ++ [y2.token]).length y6.length 56) <|
              need (appOk (s1.2 ++ [y2.token] ++ y6).length 1 56) <|
              some (LX.out (s1.1, s1.2 ++ [y2.token] ++ y6 ++ [(⟨y4, [], 0, [], false⟩ : VToken)]))
            else
              some (LX.out (s1.1, s1.2 ++ [y2.token]))) fun j7 =>
        some (LO.again (w64 (j7.1 + 1), j7.2))
      else
        some (LO.out s1.2) : Int × List VToken → Option (LO (Int × List VToken) (List VToken) _)) (0, []) fun o8 =>
  some o8
noncomputable def ref04_Tokens : List VValue → Option (List VToken) := recE ref04_Tokens_B
noncomputable def ref04_shaped_B (ref04_shaped : List VValue × Int → Option Bool) (x : List VValue × Int) : Option Bool :=
  loopK (fun (s1 : Int) =>
      bif decide (s1 < (x.1.length : Int)) then
        bindO (geti x.1 s1) fun y2 =>
        bindO (ref04_Closer y2.token.kind) fun y3 =>
        bindO (condO (y3 == 0) (geti x.1 s1) (default : VValue)) fun y4 =>
        bindO (condO (x.2 != 0 && !(bif y3 == 0 then decide ((y4.list.length : Int) > 0) else false)) (geti x.1 s1) (default : VValue)) fun y5 =>
        bindO (condO (y3 != 0 && !(bif bif y3 == 0 then decide ((y4.list.length : Int) > 0) else false then true else bif x.2 != 0 then y5.token.kind == x.2 else false)) (geti x.1 s1) (default : VValue)) fun y6 =>
        bindO (condO (y3 != 0 && !(bif bif y3 == 0 then decide ((y4.list.length : Int) > 0) else false then true else bif x.2 != 0 then y5.token.kind == x.2 else false)) (ref04_shaped (y6.list, y3)) (default : Bool)) fun y7 =>
        bif bif bif bif y3 == 0 then decide ((y4.list.length : Int) > 0) else false then true else bif x.2 != 0 then y5.token.kind == x.2 else false then true else bif y3 != 0 then !y7 else false then
          some (LO.ret false)
        else
          some (LO.again (w64 (s1 + 1)))
      else
        some (LO.out ()) : Int → Option (LO (Int) (Unit) _)) 0 fun o8 =>
  some true
noncomputable def ref04_shaped : List VValue × Int → Option Bool := recE ref04_shaped_B
noncomputable def ref04_Check (x : List VValue) : Option Int :=
  bindO (ref04_Deep x) fun y1 =>
  bif decide (y1 > 16) then
    some 20
  else
    bindO (ref04_Tokens x) fun y2 =>
    bif decide ((y2.length : Int) > 1500) then
      some 4
    else
      bindO (ref04_shaped (x, 0)) fun y3 =>
      bif !y3 then
        some 8
      else
        some 0
noncomputable def ref04_Depth (x : List VValue) : Option (Int × Int) :=
  bindO (ref04_Check x) fun y1 =>
  bif y1 != 0 then
    some (0, y1)
  else
    bindO (ref04_Deep x) fun y2 =>
    some (y2, 0)
noncomputable def nest_Trim_1 (x : Int × List VValue) : Option Bool :=
  bindO (geti x.2 x.1) fun y1 =>
  some (y1.token.kind == 13)
noncomputable def slices_Clone_Value (x : List VValue) : Option (List VValue) :=
  bif x.isEmpty then
    both (
        some []) (
        need (appOk 0 x.length 80) <|
        some x)
  else
    need (appOk 0 x.length 80) <|
    some x
noncomputable def nest_twin_B (nest_twin : List VValue → Option (List VValue)) (x : List VValue) : Option (List VValue) :=
  bindO (slices_Clone_Value x) fun y1 =>
  loopK (fun (s2 : Int × List VValue) =>
      bif decide (s2.1 < (y1.length : Int)) then
        need (decide (0 ≤ s2.1) && decide (s2.1 < (s2.2.length : Int))) <|
        bindO s2.2[s2.1.toNat]? fun y3 =>
        bindO (nest_twin y3.list) fun y4 =>
        need (decide (0 ≤ s2.1) && decide (s2.1 < (s2.2.length : Int))) <|
        bindO s2.2[s2.1.toNat]? fun y5 =>
        some (LO.again (w64 (s2.1 + 1), List.set s2.2 s2.1.toNat (⟨y5.token, y4⟩ : VValue)))
      else
        some (LO.out s2.2) : Int × List VValue → Option (LO (Int × List VValue) (List VValue) _)) (0, y1) fun o6 =>
  some o6
noncomputable def nest_twin : List VValue → Option (List VValue) := recE nest_twin_B
noncomputable def nest_Trim (x : List VValue) : Option (List VValue × Int) :=
  bindO (nest_Check x) fun y1 =>
  bif y1 != 0 then
    some ([], y1)
  else
    loopK (fun (s2 : Int) =>
        bindO (condO (decide (s2 < (x.length : Int))) (nest_Trim_1 (s2, x)) (default : Bool)) fun y3 =>
        bif bif decide (s2 < (x.length : Int)) then y3 else false then
          some (LO.again (w64 (s2 + 1)))
        else
          some (LO.out s2) : Int → Option (LO (Int) (Int) _)) 0 fun o4 =>
    loopK (fun (s5 : Int) =>
        bindO (condO (decide (o4 < s5)) (nest_Trim_1 (w64 (s5 - 1), x)) (default : Bool)) fun y6 =>
        bif bif decide (o4 < s5) then y6 else false then
          some (LO.again (w64 (s5 - 1)))
        else
          some (LO.out s5) : Int → Option (LO (Int) (Int) _)) (x.length : Int) fun o7 =>
    need (decide (0 ≤ o4) && (decide (o4 ≤ o7) && (decide (o7 ≤ o7) && decide (o7 ≤ (x.length : Int))))) <|
    bindO (nest_twin (List.drop o4.toNat (List.take o7.toNat x))) fun y8 =>
    some (y8, 0)
noncomputable def ref04_Trimmed (x : List VValue) : Option (List VValue) :=
  loopK (fun (s1 : List VValue) =>
      bindO (condO (decide ((s1.length : Int) > 0)) (geti s1 0) (default : VValue)) fun y2 =>
      bif bif decide ((s1.length : Int) > 0) then y2.token.kind == 13 else false then
        need (decide (1 ≤ (s1.length : Int))) <|
        some (LO.again (List.drop 1 s1))
      else
        some (LO.out s1) : List VValue → Option (LO (List VValue) (List VValue) _)) x fun o3 =>
  loopK (fun (s4 : List VValue) =>
      bindO (condO (decide ((s4.length : Int) > 0)) (geti s4 (w64 ((s4.length : Int) - 1))) (default : VValue)) fun y5 =>
      bif bif decide ((s4.length : Int) > 0) then y5.token.kind == 13 else false then
        need (decide (0 ≤ w64 ((s4.length : Int) - 1)) && decide (w64 ((s4.length : Int) - 1) ≤ (s4.length : Int))) <|
        some (LO.again (List.take (w64 ((s4.length : Int) - 1)).toNat s4))
      else
        some (LO.out s4) : List VValue → Option (LO (List VValue) (List VValue) _)) o3 fun o6 =>
  some o6
noncomputable def ref04_Trim (x : List VValue) : Option (List VValue × Int) :=
  bindO (ref04_Check x) fun y1 =>
  bif y1 != 0 then
    some ([], y1)
  else
    bindO (ref04_Trimmed x) fun y2 =>
    some (y2, 0)
noncomputable def nest_Split (x : List VValue × Int) : Option (List (List VValue) × Int) :=
  bindO (nest_Check x.1) fun y1 =>
  bif y1 != 0 then
    some ([], y1)
  else
    bif bif decide (x.2 < 1) then true else decide (x.2 > 24) then
      some ([], 2)
    else
      loopK (fun (s2 : (Int × Int) × List (List VValue)) =>
          bif decide (s2.1.2 < (x.1.length : Int)) then
            joinK (X := (Int × Int) × List (List VValue)) (
                bindO (geti x.1 s2.1.2) fun y3 =>
                bif y3.token.kind == x.2 then
                  need (decide (0 ≤ s2.1.1) && (decide (s2.1.1 ≤ s2.1.2) && (decide (s2.1.2 ≤ s2.1.2) && decide (s2.1.2 ≤ (x.1.length : Int))))) <|
                  bindO (nest_twin (List.drop s2.1.1.toNat (List.take s2.1.2.toNat x.1))) fun y4 =>
                  need (appOk s2.2.length 1 24) <|
                  some (LX.out ((w64 (s2.1.2 + 1), s2.1.2), s2.2 ++ [y4]))
                else
                  some (LX.out ((s2.1.1, s2.1.2), s2.2))) fun j5 =>
            some (LO.again ((j5.1.1, w64 (j5.1.2 + 1)), j5.2))
          else
            some (LO.out (s2.1.1, s2.2)) : (Int × Int) × List (List VValue) → Option (LO ((Int × Int) × List (List VValue)) (Int × List (List VValue)) _)) ((0, 0), []) fun o6 =>
      need (decide (0 ≤ o6.1) && decide (o6.1 ≤ (x.1.length : Int))) <|
      bindO (nest_twin (List.drop o6.1.toNat x.1)) fun y7 =>
      need (appOk o6.2.length 1 24) <|
      some (o6.2 ++ [y7], 0)
noncomputable def ref04_Parts (x : List VValue × Int) : Option (List (List VValue)) :=
  loopK (fun (s1 : Int × (List (List VValue) × List (List VValue)) × List VValue) =>
      bif decide (s1.1 < (x.1.length : Int)) then
        joinK (X := Int × (List (List VValue) × List (List VValue)) × List VValue) (
            bindO (geti x.1 s1.1) fun y2 =>
            bif y2.token.kind == x.2 then
              need (appOk (s1.2.1.1 ++ List.cons s1.2.2 s1.2.1.2).length (0 + 1 + 0) 24) <|
              some (LX.out (s1.1, (s1.2.1.1 ++ List.cons s1.2.2 s1.2.1.2 ++ [], []), []))
            else
              both (
                  need (decide (0 ≤ w64 (((s1.2.1.1.length + 1 + s1.2.1.2.length : Nat) : Int) - 1)) && decide (w64 (((s1.2.1.1.length + 1 + s1.2.1.2.length : Nat) : Int) - 1) < ((s1.2.1.1.length + 1 + s1.2.1.2.length : Nat) : Int))) <|
                  need (Nat.beq (w64 (((s1.2.1.1.length + 1 + s1.2.1.2.length : Nat) : Int) - 1)).toNat s1.2.1.1.length) <|
                  bindO (geti x.1 s1.1) fun y3 =>
                  need (appOk s1.2.2.length 1 80) <|
                  need (decide (0 ≤ w64 (((s1.2.1.1.length + 1 + s1.2.1.2.length : Nat) : Int) - 1)) && decide (w64 (((s1.2.1.1.length + 1 + s1.2.1.2.length : Nat) : Int) - 1) < ((s1.2.1.1.length + 1 + s1.2.1.2.length : Nat) : Int))) <|
                  need (Nat.beq (w64 (((s1.2.1.1.length + 1 + s1.2.1.2.length : Nat) : Int) - 1)).toNat s1.2.1.1.length) <|
                  some (LX.out (s1.1, (s1.2.1.1, s1.2.1.2), s1.2.2 ++ [(⟨y3.token, y3.list⟩ : VValue)]))) (
                  need (decide (0 ≤ w64 (((s1.2.1.1.length + 1 + s1.2.1.2.length : Nat) : Int) - 1)) && decide (w64 (((s1.2.1.1.length + 1 + s1.2.1.2.length : Nat) : Int) - 1) < ((s1.2.1.1.length + 1 + s1.2.1.2.length : Nat) : Int))) <|
                  need (Nat.beq (w64 (((s1.2.1.1.length + 1 + s1.2.1.2.length : Nat) : Int) - 1)).toNat s1.2.1.1.length) <|
                  bindO (geti x.1 s1.1) fun y4 =>
                  need (appOk s1.2.2.length 1 80) <|
                  need (decide (0 ≤ w64 (((s1.2.1.1.length + 1 + s1.2.1.2.length : Nat) : Int) - 1)) && decide (w64 (((s1.2.1.1.length + 1 + s1.2.1.2.length : Nat) : Int) - 1) < ((s1.2.1.1.length + 1 + s1.2.1.2.length : Nat) : Int))) <|
                  need (Nat.beq (w64 (((s1.2.1.1.length + 1 + s1.2.1.2.length : Nat) : Int) - 1)).toNat s1.2.1.1.length) <|
                  need (decide (0 ≤ (s1.2.2.length : Int)) && decide ((s1.2.2.length : Int) < ((s1.2.2 ++ [(⟨(⟨0, [], 0, [], false⟩ : VToken), []⟩ : VValue)]).length : Int))) <|
                  bindO (s1.2.2 ++ [(⟨(⟨0, [], 0, [], false⟩ : VToken), []⟩ : VValue)])[s1.2.2.length]? fun y5 =>
                  some (LX.out (s1.1, (s1.2.1.1, s1.2.1.2), List.set (s1.2.2 ++ [(⟨(⟨0, [], 0, [], false⟩ : VToken), []⟩ : VValue)]) s1.2.2.length (⟨y4.token, y4.list⟩ : VValue))))) fun j6 =>
        some (LO.again (w64 (j6.1 + 1), (j6.2.1.1, j6.2.1.2), j6.2.2))
      else
        some (LO.out ((s1.2.1.1, s1.2.1.2), s1.2.2)) : Int × (List (List VValue) × List (List VValue)) × List VValue → Option (LO (Int × (List (List VValue) × List (List VValue)) × List VValue) ((List (List VValue) × List (List VValue)) × List VValue) _)) (0, ([], []), []) fun o7 =>
  some (o7.1.1 ++ List.cons o7.2 o7.1.2)
noncomputable def ref04_Split (x : List VValue × Int) : Option (List (List VValue) × Int) :=
  bindO (ref04_Check x.1) fun y1 =>
  bif y1 != 0 then
    some ([], y1)
  else
    bif bif decide (x.2 < 1) then true else decide (x.2 > 24) then
      some ([], 2)
    else
      bindO (ref04_Parts (x.1, x.2)) fun y2 =>
      some (y2, 0)
noncomputable def ref04_Same_B (ref04_Same : List VValue × List VValue → Option Bool) (x : List VValue × List VValue) : Option Bool :=
  bif (x.1.length : Int) != (x.2.length : Int) then
    some false
  else
    loopK (fun (s1 : Int) =>
        bif decide (s1 < (x.1.length : Int)) then
          bindO (geti x.1 s1) fun y2 =>
          bindO (geti x.2 s1) fun y3 =>
          bindO (condO (!(!(y2.token.kind == y3.token.kind && (y2.token.text == y3.token.text && (y2.token.num == y3.token.num && (y2.token.unit == y3.token.unit && (y2.token.flag == y3.token.flag && true))))))) (geti x.1 s1) (default : VValue)) fun y4 =>
          bindO (condO (!(!(y2.token.kind == y3.token.kind && (y2.token.text == y3.token.text && (y2.token.num == y3.token.num && (y2.token.unit == y3.token.unit && (y2.token.flag == y3.token.flag && true))))))) (geti x.2 s1) (default : VValue)) fun y5 =>
          bindO (condO (!(!(y2.token.kind == y3.token.kind && (y2.token.text == y3.token.text && (y2.token.num == y3.token.num && (y2.token.unit == y3.token.unit && (y2.token.flag == y3.token.flag && true))))))) (ref04_Same (y4.list, y5.list)) (default : Bool)) fun y6 =>
          bif bif !(y2.token.kind == y3.token.kind && (y2.token.text == y3.token.text && (y2.token.num == y3.token.num && (y2.token.unit == y3.token.unit && (y2.token.flag == y3.token.flag && true))))) then true else !y6 then
            some (LO.ret false)
          else
            some (LO.again (w64 (s1 + 1)))
        else
          some (LO.out ()) : Int → Option (LO (Int) (Unit) _)) 0 fun o7 =>
    some true
noncomputable def ref04_Same : List VValue × List VValue → Option Bool := recE ref04_Same_B
noncomputable def ref04_SameParts (x : List (List VValue) × List (List VValue)) : Option Bool :=
  bif (x.1.length : Int) != (x.2.length : Int) then
    some false
  else
    loopK (fun (s1 : Int) =>
        bif decide (s1 < (x.1.length : Int)) then
          bindO (geti x.1 s1) fun y2 =>
          bindO (geti x.2 s1) fun y3 =>
          bindO (ref04_Same (y2, y3)) fun y4 =>
          bif !y4 then
            some (LO.ret false)
          else
            some (LO.again (w64 (s1 + 1)))
        else
          some (LO.out ()) : Int → Option (LO (Int) (Unit) _)) 0 fun o5 =>
    some true
noncomputable def law04_NestParts (x : List VValue × Int) : Option Bool :=
  bindO (ref04_Great x.1) fun y1 =>
  bif y1 then
    some true
  else
    bindO (nest_Depth x.1) fun y2 =>
    bindO (ref04_Depth x.1) fun y3 =>
    bindO (nest_Trim x.1) fun y4 =>
    bindO (ref04_Trim x.1) fun y5 =>
    bindO (nest_Split (x.1, x.2)) fun y6 =>
    bindO (ref04_Split (x.1, x.2)) fun y7 =>
    bindO (nest_Check x.1) fun y8 =>
    bindO (ref04_Check x.1) fun y9 =>
    bindO (condO (bif bif y8 == y9 then y2.1 == y3.1 else false then y2.2 == y3.2 else false) (ref04_Same (y4.1, y5.1)) (default : Bool)) fun y10 =>
    bindO (condO (bif bif bif bif y8 == y9 then y2.1 == y3.1 else false then y2.2 == y3.2 else false then y10 else false then y4.2 == y5.2 else false) (ref04_SameParts (y6.1, y7.1)) (default : Bool)) fun y11 =>
    some (bif bif bif bif bif bif y8 == y9 then y2.1 == y3.1 else false then y2.2 == y3.2 else false then y10 else false then y4.2 == y5.2 else false then y11 else false then y6.2 == y7.2 else false)
end Go.Lv.VT
