/- Texts. -/
import Derived.Test.YtnfhfeipljhciaaGreatTy
import Derived.Test.YtnfhfeipljhciaaGreatLf
namespace Go.Lv.VT
set_option maxRecDepth 100000
noncomputable def ref04_Size_B (ref04_Size : List VValue × Int → Option Int) (x : List VValue × Int) : Option Int :=
  loopK (fun (s1 : Int × Int) =>
      bif bif decide (s1.2 < (x.1.length : Int)) then decide (s1.1 ≤ x.2) else false then
        bindO (geti x.1 s1.2) fun y2 =>
        bindO (geti x.1 s1.2) fun y3 =>
        bindO (geti x.1 s1.2) fun y4 =>
        bindO (ref04_Size (y4.list, w64 (x.2 - s1.1))) fun y5 =>
        some (LO.again (w64 (s1.1 + w64 (w64 (w64 (1 + (y2.token.text.length : Int)) + (y3.token.unit.length : Int)) + y5)), w64 (s1.2 + 1)))
      else
        some (LO.out s1.1) : Int × Int → Option (LO (Int × Int) (Int) _)) (0, 0) fun o6 =>
  some o6
noncomputable def ref04_Size : List VValue × Int → Option Int := recE (ref04_Size_B)
noncomputable def ref04_Closer (x : Int) : Option Int :=
  bif x == 19 then
    some 20
  else
    joinK (X := Bool) (
        bif x == 21 then
          some (LX.out (x == 21))
        else
          some (LX.out (x == 2))) fun j1 =>
    bif j1 then
      some 22
    else
      bif x == 23 then
        some 24
      else
        some 0
noncomputable def ref04_Deep_B (ref04_Deep : List VValue → Option Int) (x : List VValue) : Option Int :=
  loopK (fun (s1 : Int × Int) =>
      bif decide (s1.2 < (x.length : Int)) then
        joinK (X := Int × Int) (
            bindO (geti x s1.2) fun y2 =>
            bindO (ref04_Closer y2.token.kind) fun y3 =>
            bif y3 != 0 then
              bindO (geti x s1.2) fun y4 =>
              bindO (ref04_Deep y4.list) fun y5 =>
              some (LX.out (if w64 (1 + y5) > s1.1 then w64 (1 + y5) else s1.1, s1.2))
            else
              some (LX.out (s1.1, s1.2))) fun j6 =>
        some (LO.again (j6.1, w64 (j6.2 + 1)))
      else
        some (LO.out s1.1) : Int × Int → Option (LO (Int × Int) (Int) _)) (0, 0) fun o7 =>
  some o7
noncomputable def ref04_Deep : List VValue → Option Int := recE (ref04_Deep_B)
noncomputable def ref04_Great (x : List VValue) : Option Bool :=
  bindO (ref04_Size (x, 300)) fun y1 =>
  bindO (condO (!(decide (y1 > 300))) (ref04_Deep x) (default : Int)) fun y2 =>
  some (bif decide (y1 > 300) then true else decide (y2 > 40))
noncomputable def nest_closer (x : Int) : Option Int :=
  bif x == 2 then
    some 22
  else
    joinK (X := Bool) (
        bif x == 19 then
          some (LX.out (x == 19))
        else
          bif x == 21 then
            some (LX.out (x == 21))
          else
            some (LX.out (x == 23))) fun j1 =>
    bif j1 then
      some (wu8 (x + 1))
    else
      some 0
noncomputable def nest_look_B (nest_look : List VValue × Int → Option Vnest_found) (x : List VValue × Int) : Option Vnest_found :=
  loopK (fun (s1 : Int × Vnest_found) =>
      bif decide (s1.1 < (x.1.length : Int)) then
        joinK (X := Int × Vnest_found) (
            bindO (geti x.1 s1.1) fun y2 =>
            bindO (nest_closer y2.token.kind) fun y3 =>
            joinK (X := Vnest_found) (
                bif bif bif x.2 != 0 then y2.token.kind == x.2 else false then true else bif y3 == 0 then decide ((y2.list.length : Int) > 0) else false then
                  some (LX.out (⟨s1.2.depth, w64 (s1.2.tokens + 1), true⟩ : Vnest_found))
                else
                  some (LX.out (⟨s1.2.depth, w64 (s1.2.tokens + 1), s1.2.bad⟩ : Vnest_found))) fun j4 =>
            bif y3 == 0 then
              some (LX.out (s1.1, j4))
            else
              bindO (nest_look (y2.list, y3)) fun y5 =>
              some (LX.out (s1.1, (⟨if w64 (y5.depth + 1) > j4.depth then w64 (y5.depth + 1) else j4.depth, w64 (w64 (j4.tokens + y5.tokens) + 1), bif j4.bad then true else y5.bad⟩ : Vnest_found)))) fun j6 =>
        some (LO.again (w64 (j6.1 + 1), j6.2))
      else
        some (LO.out s1.2) : Int × Vnest_found → Option (LO (Int × Vnest_found) (Vnest_found) _)) (0, (⟨0, 0, false⟩ : Vnest_found)) fun o7 =>
  some o7
noncomputable def nest_look : List VValue × Int → Option Vnest_found := recE (nest_look_B)
noncomputable def nest_Check (x : List VValue) : Option Int :=
  bindO (nest_look (x, 0)) fun y1 =>
  bif decide (y1.depth > 16) then
    some 20
  else
    bif decide (y1.tokens > 1500) then
      some 4
    else
      bif y1.bad then
        some 8
      else
        some 0
noncomputable def slices_Clone_Value (x : List VValue) : Option (List VValue) :=
  bif x.isEmpty then
    both (
        some []) (
        need (appOk 0 x.length 80) <|
        some x)
  else
    need (appOk 0 x.length 80) <|
    some x
noncomputable def nest_twin_B (nest_twin : List VValue → Option (List VValue)) (x : List VValue) : Option (List VValue) :=
  bindO (slices_Clone_Value x) fun y1 =>
  loopK (fun (s2 : Int × List VValue) =>
      bif decide (s2.1 < (y1.length : Int)) then
        need (decide (0 ≤ s2.1) && decide (s2.1 < (s2.2.length : Int))) <|
        bindO s2.2[s2.1.toNat]? fun y3 =>
        bindO (nest_twin y3.list) fun y4 =>
        need (decide (0 ≤ s2.1) && decide (s2.1 < (s2.2.length : Int))) <|
        bindO s2.2[s2.1.toNat]? fun y5 =>
        some (LO.again (w64 (s2.1 + 1), List.set s2.2 s2.1.toNat (⟨y5.token, y4⟩ : VValue)))
      else
        some (LO.out s2.2) : Int × List VValue → Option (LO (Int × List VValue) (List VValue) _)) (0, y1) fun o6 =>
  some o6
noncomputable def nest_twin : List VValue → Option (List VValue) := recE (nest_twin_B)
noncomputable def nest_Split (x : List VValue × Int) : Option (List (List VValue) × Int) :=
  bindO (nest_Check x.1) fun y1 =>
  bif y1 != 0 then
    some ([], y1)
  else
    bif bif decide (x.2 < 1) then true else decide (x.2 > 24) then
      some ([], 2)
    else
      loopK (fun (s2 : (Int × Int) × List (List VValue)) =>
          bif decide (s2.1.2 < (x.1.length : Int)) then
            joinK (X := (Int × Int) × List (List VValue)) (
                bindO (geti x.1 s2.1.2) fun y3 =>
                bif y3.token.kind == x.2 then
                  need (decide (0 ≤ s2.1.1) && (decide (s2.1.1 ≤ s2.1.2) && (decide (s2.1.2 ≤ s2.1.2) && decide (s2.1.2 ≤ (x.1.length : Int))))) <|
                  bindO (nest_twin (List.drop s2.1.1.toNat (List.take s2.1.2.toNat x.1))) fun y4 =>
                  need (appOk s2.2.length 1 24) <|
                  some (LX.out ((w64 (s2.1.2 + 1), s2.1.2), s2.2 ++ [y4]))
                else
                  some (LX.out ((s2.1.1, s2.1.2), s2.2))) fun j5 =>
            some (LO.again ((j5.1.1, w64 (j5.1.2 + 1)), j5.2))
          else
            some (LO.out (s2.1.1, s2.2)) : (Int × Int) × List (List VValue) → Option (LO ((Int × Int) × List (List VValue)) (Int × List (List VValue)) _)) ((0, 0), []) fun o6 =>
      need (decide (0 ≤ o6.1) && decide (o6.1 ≤ (x.1.length : Int))) <|
      bindO (nest_twin (List.drop o6.1.toNat x.1)) fun y7 =>
      need (appOk o6.2.length 1 24) <|
      some (o6.2 ++ [y7], 0)
noncomputable def cond_reader_kind (x : Vcond_reader) : Option Int :=
  bif (x.v.length : Int) == 0 then
    some 0
  else
    bindO (geti x.v 0) fun y1 =>
    some y1.token.kind
noncomputable def cond_reader_next (x : Vcond_reader) : Option (VValue × Vcond_reader) :=
  bindO (geti x.v 0) fun y1 =>
  need (decide (1 ≤ (x.v.length : Int))) <|
  some ((⟨y1.token, y1.list⟩ : VValue), (⟨List.drop 1 x.v⟩ : Vcond_reader))
noncomputable def cond_reader_spaces (x : Vcond_reader) : Option (Bool × Vcond_reader) :=
  loopK (fun (s1 : Vcond_reader) =>
      bindO (cond_reader_kind s1) fun y2 =>
      bif y2 == 13 then
        bindO (cond_reader_next s1) fun y3 =>
        some (LO.again y3.2)
      else
        some (LO.out s1) : Vcond_reader → Option (LO (Vcond_reader) (Vcond_reader) _)) x fun o4 =>
  some (decide ((o4.v.length : Int) < (x.v.length : Int)), o4)
noncomputable def input_Lower (x : Str) : Option Str :=
  need (decide (x.length ≤ maxLen)) <|
  loopK (fun (s1 : Int × List UInt8) =>
      bif decide (s1.1 < (x.length : Int)) then
        joinK (X := Int × List UInt8) (
            need (decide (0 ≤ s1.1) && decide (s1.1 < (s1.2.length : Int))) <|
            bindO s1.2[s1.1.toNat]? fun y2 =>
            bif bif decide (65 ≤ (y2.toNat : Int)) then decide ((y2.toNat : Int) ≤ 90) else false then
              need (decide (0 ≤ s1.1) && decide (s1.1 < (s1.2.length : Int))) <|
              bindO s1.2[s1.1.toNat]? fun y3 =>
              need (decide (0 ≤ s1.1) && decide (s1.1 < (s1.2.length : Int))) <|
              bindO s1.2[s1.1.toNat]? fun y4 =>
              bindO (byteO (ibOr IntKind.u8 (y3.toNat : Int) 32)) fun y5 =>
              some (LX.out (s1.1, List.set s1.2 s1.1.toNat y5))
            else
              some (LX.out (s1.1, s1.2))) fun j6 =>
        some (LO.again (w64 (j6.1 + 1), j6.2))
      else
        some (LO.out s1.2) : Int × List UInt8 → Option (LO (Int × List UInt8) (List UInt8) _)) (0, x) fun o7 =>
  some o7
noncomputable def input_Alike (x : Str × Str) : Option Bool :=
  bindO (input_Lower x.1) fun y1 =>
  bindO (input_Lower x.2) fun y2 =>
  some (y1 == y2)
noncomputable def cond_reader_word (x : List Str × Vcond_reader) : Option (Str × Vcond_reader) :=
  loopK (fun (s1 : Int × Vcond_reader) =>
      bif decide (s1.1 < (x.1.length : Int)) then
        bindO (geti x.1 s1.1) fun y2 =>
        bindO (cond_reader_kind s1.2) fun y3 =>
        bindO (condO (y3 == 1) (geti s1.2.v 0) (default : VValue)) fun y4 =>
        bindO (condO (y3 == 1) (input_Alike (y4.token.text, y2)) (default : Bool)) fun y5 =>
        bif bif y3 == 1 then y5 else false then
          bindO (cond_reader_next s1.2) fun y6 =>
          some (LO.ret (y2, y6.2))
        else
          some (LO.again (w64 (s1.1 + 1), s1.2))
      else
        some (LO.out s1.2) : Int × Vcond_reader → Option (LO (Int × Vcond_reader) (Vcond_reader) _)) (0, x.2) fun o7 =>
  some ([], o7)
noncomputable def slices_Index_string (x : List Str × Str) : Option Int :=
  loopK (fun (s1 : Int) =>
      bif decide (s1 < (x.1.length : Int)) then
        bindO (geti x.1 s1) fun y2 =>
        bif x.2 == y2 then
          some (LO.ret s1)
        else
          some (LO.again (w64 (s1 + 1)))
      else
        some (LO.out ()) : Int → Option (LO (Int) (Unit) _)) 0 fun o3 =>
  some (-1)
noncomputable def slices_Contains_string (x : List Str × Str) : Option Bool :=
  bindO (slices_Index_string (x.1, x.2)) fun y1 =>
  some (decide (y1 ≥ 0))
noncomputable def strings_IndexByte (x : Str × Int) : Option Int :=
  bindO (idxByte (x.1, x.2)) fun y1 =>
  some y1
noncomputable def cond_medium (x : Str) : Option Bool :=
  bindO (slices_Contains_string ([[], [97, 110, 100], [111, 114], [110, 111, 116], [111, 110, 108, 121]], x)) fun y1 =>
  bindO (condO (bif !y1 then decide ((x.length : Int) ≤ 64) else false) (input_Lower x) (default : Str)) fun y2 =>
  bindO (condO (bif bif !y1 then decide ((x.length : Int) ≤ 64) else false then y2 == x else false) (strings_IndexByte (x, 0)) (default : Int)) fun y3 =>
  some (bif bif bif !y1 then decide ((x.length : Int) ≤ 64) else false then y2 == x else false then decide (y3 < 0) else false)
noncomputable def fixed_check (x : List Int) : Option Int :=
  loopK (fun (s1 : Int) =>
      bif decide (s1 < (x.length : Int)) then
        bindO (geti x s1) fun y2 =>
        bif bif decide (y2 < (-1000000000000)) then true else decide (y2 > 1000000000000) then
          some (LO.ret 8)
        else
          some (LO.again (w64 (s1 + 1)))
      else
        some (LO.out ()) : Int → Option (LO (Int) (Unit) _)) 0 fun o3 =>
  some 0
noncomputable def fixed_Check (x : Int) : Option Int :=
  bindO (fixed_check [x]) fun y1 =>
  some y1
noncomputable def cond_reader_feature (x : Vcond_reader) : Option ((VCond × Bool) × Vcond_reader) :=
  bindO (cond_reader_kind x) fun y1 =>
  bif y1 != 21 then
    some (((⟨0, [], 0, (⟨[], [], false⟩ : VDecl), []⟩ : VCond), false), x)
  else
    bindO (cond_reader_next x) fun y2 =>
    bindO (cond_reader_spaces (⟨y2.1.list⟩ : Vcond_reader)) fun y3 =>
    joinK (X := (Int × Str × Int × Str × Bool) × Vcond_reader × (Int × Str × Int × Str × Bool)) (
        bindO (cond_reader_word ([[109, 105, 110, 45, 119, 105, 100, 116, 104], [109, 97, 120, 45, 119, 105, 100, 116, 104]], y3.2)) fun y4 =>
        bif y4.1 == [] then
          some (LX.ret (((⟨5, [], 0, (⟨[], [], false⟩ : VDecl), []⟩ : VCond), false), y2.2))
        else
          bif y4.1 == [109, 97, 120, 45, 119, 105, 100, 116, 104] then
            some (LX.out ((0, [], 0, [], false), y4.2, (6, [], 0, [], false)))
          else
            some (LX.out ((0, [], 0, [], false), y4.2, (5, [], 0, [], false)))) fun j5 =>
    bindO (cond_reader_spaces j5.2.1) fun y6 =>
    bindO (cond_reader_kind y6.2) fun y7 =>
    bif y7 != 16 then
      some (((⟨j5.2.2.1, j5.2.2.2.1, j5.2.2.2.2.1, (⟨j5.2.2.2.2.2.1, [], j5.2.2.2.2.2.2⟩ : VDecl), []⟩ : VCond), false), y2.2)
    else
      bindO (cond_reader_next y6.2) fun y8 =>
      bindO (cond_reader_spaces y8.2) fun y9 =>
      bindO (cond_reader_kind y9.2) fun y10 =>
      bindO (condO (y10 != 12) (cond_reader_kind y9.2) (default : Int)) fun y11 =>
      bif bif y10 != 12 then y11 != 10 else false then
        some (((⟨j5.2.2.1, j5.2.2.2.1, j5.2.2.2.2.1, (⟨j5.2.2.2.2.2.1, [], j5.2.2.2.2.2.2⟩ : VDecl), []⟩ : VCond), false), y2.2)
      else
        bindO (cond_reader_next y9.2) fun y12 =>
        bindO (cond_reader_spaces y12.2) fun y13 =>
        bindO (condO (y12.1.token.kind == 12) (input_Alike (y12.1.token.unit, [112, 120])) (default : Bool)) fun y14 =>
        bindO (condO (bif bif bif y12.1.token.kind == 12 then y14 else false then true else bif y12.1.token.kind == 10 then y12.1.token.num == 0 else false then decide (y12.1.token.num ≥ 0) else false) (fixed_Check y12.1.token.num) (default : Int)) fun y15 =>
        some (((⟨j5.2.2.1, j5.2.2.2.1, y12.1.token.num, (⟨j5.2.2.2.2.2.1, [], j5.2.2.2.2.2.2⟩ : VDecl), []⟩ : VCond), bif bif bif bif bif y12.1.token.kind == 12 then y14 else false then true else bif y12.1.token.kind == 10 then y12.1.token.num == 0 else false then decide (y12.1.token.num ≥ 0) else false then y15 == 0 else false then (y13.2.v.length : Int) == 0 else false), y2.2)
noncomputable def cond_reader_query (x : Vcond_reader) : Option ((VCond × Bool) × Vcond_reader) :=
  bindO (cond_reader_spaces x) fun y1 =>
  bindO (cond_reader_word ([[110, 111, 116], [111, 110, 108, 121]], y1.2)) fun y2 =>
  bindO (cond_reader_spaces y2.2) fun y3 =>
  joinK (X := Vcond_reader × (Int × Str × Int × Str × Bool) × (Int × Str × Int × Str × Bool) × List VCond) (
      bindO (cond_reader_kind y3.2) fun y4 =>
      bif y4 == 1 then
        bindO (cond_reader_next y3.2) fun y5 =>
        bindO (input_Lower y5.1.token.text) fun y6 =>
        bindO (cond_medium y6) fun y7 =>
        bif !y7 then
          some (LX.ret (((⟨1, [], 0, (⟨[], [], false⟩ : VDecl), []⟩ : VCond), false), y5.2))
        else
          need (appOk 0 1 104) <|
          some (LX.out (y5.2, (0, [], 0, [], false), (1, [], 0, [], false), [(⟨4, y6, 0, (⟨[], [], false⟩ : VDecl), []⟩ : VCond)]))
      else
        bindO (cond_reader_feature y3.2) fun y8 =>
        bif bif !y8.1.2 then true else !(y2.1 == []) then
          some (LX.ret (((⟨1, [], 0, (⟨[], [], false⟩ : VDecl), []⟩ : VCond), false), y8.2))
        else
          need (appOk 0 1 104) <|
          some (LX.out (y8.2, (0, [], 0, [], false), (1, [], 0, [], false), [(⟨y8.1.1.kind, y8.1.1.name, y8.1.1.num, y8.1.1.decl, y8.1.1.list⟩ : VCond)]))) fun j9 =>
  bindO (cond_reader_spaces j9.1) fun y10 =>
  loopK (fun (s11 : Vcond_reader × (Int × Str × Int × Str × Bool) × (Int × Str × Int × Str × Bool) × List VCond) =>
      bif decide ((s11.1.v.length : Int) > 0) then
        bindO (cond_reader_word ([[97, 110, 100]], s11.1)) fun y12 =>
        bif y12.1 == [] then
          some (LO.ret (((⟨s11.2.2.1.1, s11.2.2.1.2.1, s11.2.2.1.2.2.1, (⟨s11.2.2.1.2.2.2.1, [], s11.2.2.1.2.2.2.2⟩ : VDecl), s11.2.2.2⟩ : VCond), false), y12.2))
        else
          bindO (cond_reader_spaces y12.2) fun y13 =>
          bindO (cond_reader_feature y13.2) fun y14 =>
          bif !y14.1.2 then
            some (LO.ret (((⟨s11.2.2.1.1, s11.2.2.1.2.1, s11.2.2.1.2.2.1, (⟨s11.2.2.1.2.2.2.1, [], s11.2.2.1.2.2.2.2⟩ : VDecl), s11.2.2.2⟩ : VCond), false), y14.2))
          else
            need (appOk s11.2.2.2.length 1 104) <|
            bindO (cond_reader_spaces y14.2) fun y15 =>
            some (LO.again (y15.2, (s11.2.1.1, s11.2.1.2.1, s11.2.1.2.2.1, s11.2.1.2.2.2.1, s11.2.1.2.2.2.2), (s11.2.2.1.1, s11.2.2.1.2.1, s11.2.2.1.2.2.1, s11.2.2.1.2.2.2.1, s11.2.2.1.2.2.2.2), s11.2.2.2 ++ [(⟨y14.1.1.kind, y14.1.1.name, y14.1.1.num, y14.1.1.decl, y14.1.1.list⟩ : VCond)]))
      else
        some (LO.out (s11.1, (s11.2.1.1, s11.2.1.2.1, s11.2.1.2.2.1, s11.2.1.2.2.2.1, s11.2.1.2.2.2.2), (s11.2.2.1.1, s11.2.2.1.2.1, s11.2.2.1.2.2.1, s11.2.2.1.2.2.2.1, s11.2.2.1.2.2.2.2), s11.2.2.2)) : Vcond_reader × (Int × Str × Int × Str × Bool) × (Int × Str × Int × Str × Bool) × List VCond → Option (LO (Vcond_reader × (Int × Str × Int × Str × Bool) × (Int × Str × Int × Str × Bool) × List VCond) (Vcond_reader × (Int × Str × Int × Str × Bool) × (Int × Str × Int × Str × Bool) × List VCond) _)) (y10.2, (j9.2.1.1, j9.2.1.2.1, j9.2.1.2.2.1, j9.2.1.2.2.2.1, j9.2.1.2.2.2.2), (j9.2.2.1.1, j9.2.2.1.2.1, j9.2.2.1.2.2.1, j9.2.2.1.2.2.2.1, j9.2.2.1.2.2.2.2), j9.2.2.2) fun o16 =>
  bif y2.1 == [110, 111, 116] then
    some (((⟨3, [], 0, (⟨[], [], false⟩ : VDecl), [(⟨o16.2.2.1.1, o16.2.2.1.2.1, o16.2.2.1.2.2.1, (⟨o16.2.2.1.2.2.2.1, [], o16.2.2.1.2.2.2.2⟩ : VDecl), o16.2.2.2⟩ : VCond)]⟩ : VCond), true), o16.1)
  else
    some (((⟨o16.2.2.1.1, o16.2.2.1.2.1, o16.2.2.1.2.2.1, (⟨o16.2.2.1.2.2.2.1, [], o16.2.2.1.2.2.2.2⟩ : VDecl), o16.2.2.2⟩ : VCond), true), o16.1)
noncomputable def cond_Media (x : List VValue) : Option (VCond × Int) :=
  bindO (nest_Split (x, 18)) fun y1 =>
  bif y1.2 != 0 then
    some ((⟨0, [], 0, (⟨[], [], false⟩ : VDecl), []⟩ : VCond), y1.2)
  else
    joinK (X := Int × Str × Int × Str × Bool) (
        bif (y1.1.length : Int) == 1 then
          bindO (cond_reader_spaces (⟨x⟩ : Vcond_reader)) fun y2 =>
          bif (y2.2.v.length : Int) == 0 then
            some (LX.ret ((⟨1, [], 0, (⟨[], [], false⟩ : VDecl), []⟩ : VCond), 0))
          else
            some (LX.out (0, [], 0, [], false))
        else
          some (LX.out (0, [], 0, [], false))) fun j3 =>
    bif decide ((y1.1.length : Int) > 64) then
      some ((⟨0, [], 0, (⟨[], [], false⟩ : VDecl), []⟩ : VCond), 4)
    else
      loopK (fun (s4 : Int × (Int × Str × Int × Str × Bool) × List VCond) =>
          bif decide (s4.1 < (y1.1.length : Int)) then
            bindO (geti y1.1 s4.1) fun y5 =>
            bindO (cond_reader_query (⟨y5⟩ : Vcond_reader)) fun y6 =>
            joinK (X := (Int × Str × Int × Str × Bool) × List VCond × VCond) (
                bif !y6.1.2 then
                  some (LX.out ((s4.2.1.1, s4.2.1.2.1, s4.2.1.2.2.1, s4.2.1.2.2.2.1, s4.2.1.2.2.2.2), s4.2.2, (⟨3, [], 0, (⟨[], [], false⟩ : VDecl), [(⟨1, [], 0, (⟨[], [], false⟩ : VDecl), [(⟨4, [97, 108, 108], 0, (⟨[], [], false⟩ : VDecl), []⟩ : VCond)]⟩ : VCond)]⟩ : VCond)))
                else
                  some (LX.out ((s4.2.1.1, s4.2.1.2.1, s4.2.1.2.2.1, s4.2.1.2.2.2.1, s4.2.1.2.2.2.2), s4.2.2, (⟨y6.1.1.kind, y6.1.1.name, y6.1.1.num, y6.1.1.decl, y6.1.1.list⟩ : VCond)))) fun j7 =>
            need (appOk j7.2.1.length 1 104) <|
            some (LO.again (w64 (s4.1 + 1), (j7.1.1, j7.1.2.1, j7.1.2.2.1, j7.1.2.2.2.1, j7.1.2.2.2.2), j7.2.1 ++ [(⟨j7.2.2.kind, j7.2.2.name, j7.2.2.num, j7.2.2.decl, j7.2.2.list⟩ : VCond)]))
          else
            some (LO.out ((s4.2.1.1, s4.2.1.2.1, s4.2.1.2.2.1, s4.2.1.2.2.2.1, s4.2.1.2.2.2.2), s4.2.2)) : Int × (Int × Str × Int × Str × Bool) × List VCond → Option (LO (Int × (Int × Str × Int × Str × Bool) × List VCond) ((Int × Str × Int × Str × Bool) × List VCond) _)) (0, (2, [], 0, [], false), []) fun o8 =>
      some ((⟨o8.1.1, o8.1.2.1, o8.1.2.2.1, (⟨o8.1.2.2.2.1, [], o8.1.2.2.2.2⟩ : VDecl), o8.2⟩ : VCond), 0)
noncomputable def ref04_Tokens_B (ref04_Tokens : List VValue → Option (List VToken)) (x : List VValue) : Option (List VToken) :=
  loopK (fun (s1 : Int × List VToken) =>
      bif decide (s1.1 < (x.length : Int)) then
        joinK (X := Int × List VToken) (
            bindO (geti x s1.1) fun y2 =>
            need (appOk s1.2.length 1 56) <|
            bindO (geti x s1.1) fun y3 =>
            bindO (ref04_Closer y3.token.kind) fun y4 =>
            bif y4 != 0 then
              bindO (geti x s1.1) fun y5 =>
              bindO (ref04_Tokens y5.list) fun y6 =>
              need (appOk (s1.2 ++ [y2.token]).length y6.length 56) <|
              need (appOk (s1.2 ++ [y2.token] ++ y6).length 1 56) <|
              some (LX.out (s1.1, s1.2 ++ [y2.token] ++ y6 ++ [(⟨y4, [], 0, [], false⟩ : VToken)]))
            else
              some (LX.out (s1.1, s1.2 ++ [y2.token]))) fun j7 =>
        some (LO.again (w64 (j7.1 + 1), j7.2))
      else
        some (LO.out s1.2) : Int × List VToken → Option (LO (Int × List VToken) (List VToken) _)) (0, []) fun o8 =>
  some o8
noncomputable def ref04_Tokens : List VValue → Option (List VToken) := recE (ref04_Tokens_B)
noncomputable def ref04_shaped_B (ref04_shaped : List VValue × Int → Option Bool) (x : List VValue × Int) : Option Bool :=
  loopK (fun (s1 : Int) =>
      bif decide (s1 < (x.1.length : Int)) then
        bindO (geti x.1 s1) fun y2 =>
        bindO (ref04_Closer y2.token.kind) fun y3 =>
        bindO (condO (y3 == 0) (geti x.1 s1) (default : VValue)) fun y4 =>
        bindO (condO (x.2 != 0 && !(bif y3 == 0 then decide ((y4.list.length : Int) > 0) else false)) (geti x.1 s1) (default : VValue)) fun y5 =>
        bindO (condO (y3 != 0 && !(bif bif y3 == 0 then decide ((y4.list.length : Int) > 0) else false then true else bif x.2 != 0 then y5.token.kind == x.2 else false)) (geti x.1 s1) (default : VValue)) fun y6 =>
        bindO (condO (y3 != 0 && !(bif bif y3 == 0 then decide ((y4.list.length : Int) > 0) else false then true else bif x.2 != 0 then y5.token.kind == x.2 else false)) (ref04_shaped (y6.list, y3)) (default : Bool)) fun y7 =>
        bif bif bif bif y3 == 0 then decide ((y4.list.length : Int) > 0) else false then true else bif x.2 != 0 then y5.token.kind == x.2 else false then true else bif y3 != 0 then !y7 else false then
          some (LO.ret false)
        else
          some (LO.again (w64 (s1 + 1)))
      else
        some (LO.out ()) : Int → Option (LO (Int) (Unit) _)) 0 fun o8 =>
  some true
noncomputable def ref04_shaped : List VValue × Int → Option Bool := recE (ref04_shaped_B)
noncomputable def ref04_Check (x : List VValue) : Option Int :=
  bindO (ref04_Deep x) fun y1 =>
  bif decide (y1 > 16) then
    some 20
  else
    bindO (ref04_Tokens x) fun y2 =>
    bif decide ((y2.length : Int) > 1500) then
      some 4
    else
      bindO (ref04_shaped (x, 0)) fun y3 =>
      bif !y3 then
        some 8
      else
        some 0
noncomputable def ref04_Trimmed (x : List VValue) : Option (List VValue) :=
  loopK (fun (s1 : List VValue) =>
      bindO (condO (decide ((s1.length : Int) > 0)) (geti s1 0) (default : VValue)) fun y2 =>
      bif bif decide ((s1.length : Int) > 0) then y2.token.kind == 13 else false then
        need (decide (1 ≤ (s1.length : Int))) <|
        some (LO.again (List.drop 1 s1))
      else
        some (LO.out s1) : List VValue → Option (LO (List VValue) (List VValue) _)) x fun o3 =>
  loopK (fun (s4 : List VValue) =>
      bindO (condO (decide ((s4.length : Int) > 0)) (geti s4 (w64 ((s4.length : Int) - 1))) (default : VValue)) fun y5 =>
      bif bif decide ((s4.length : Int) > 0) then y5.token.kind == 13 else false then
        need (decide (0 ≤ w64 ((s4.length : Int) - 1)) && decide (w64 ((s4.length : Int) - 1) ≤ (s4.length : Int))) <|
        some (LO.again (List.take (w64 ((s4.length : Int) - 1)).toNat s4))
      else
        some (LO.out s4) : List VValue → Option (LO (List VValue) (List VValue) _)) o3 fun o6 =>
  some o6
noncomputable def ref04_Parts (x : List VValue × Int) : Option (List (List VValue)) :=
  loopK (fun (s1 : Int × (List (List VValue) × List (List VValue)) × List VValue) =>
      bif decide (s1.1 < (x.1.length : Int)) then
        joinK (X := Int × (List (List VValue) × List (List VValue)) × List VValue) (
            bindO (geti x.1 s1.1) fun y2 =>
            bif y2.token.kind == x.2 then
              need (appOk (s1.2.1.1 ++ List.cons s1.2.2 s1.2.1.2).length (0 + 1 + 0) 24) <|
              some (LX.out (s1.1, (s1.2.1.1 ++ List.cons s1.2.2 s1.2.1.2 ++ [], []), []))
            else
              both (
                  need (decide (0 ≤ w64 (((s1.2.1.1.length + 1 + s1.2.1.2.length : Nat) : Int) - 1)) && decide (w64 (((s1.2.1.1.length + 1 + s1.2.1.2.length : Nat) : Int) - 1) < ((s1.2.1.1.length + 1 + s1.2.1.2.length : Nat) : Int))) <|
                  need (Nat.beq (w64 (((s1.2.1.1.length + 1 + s1.2.1.2.length : Nat) : Int) - 1)).toNat s1.2.1.1.length) <|
                  bindO (geti x.1 s1.1) fun y3 =>
                  need (appOk s1.2.2.length 1 80) <|
                  need (decide (0 ≤ w64 (((s1.2.1.1.length + 1 + s1.2.1.2.length : Nat) : Int) - 1)) && decide (w64 (((s1.2.1.1.length + 1 + s1.2.1.2.length : Nat) : Int) - 1) < ((s1.2.1.1.length + 1 + s1.2.1.2.length : Nat) : Int))) <|
                  need (Nat.beq (w64 (((s1.2.1.1.length + 1 + s1.2.1.2.length : Nat) : Int) - 1)).toNat s1.2.1.1.length) <|
                  some (LX.out (s1.1, (s1.2.1.1, s1.2.1.2), s1.2.2 ++ [(⟨y3.token, y3.list⟩ : VValue)]))) (
                  need (decide (0 ≤ w64 (((s1.2.1.1.length + 1 + s1.2.1.2.length : Nat) : Int) - 1)) && decide (w64 (((s1.2.1.1.length + 1 + s1.2.1.2.length : Nat) : Int) - 1) < ((s1.2.1.1.length + 1 + s1.2.1.2.length : Nat) : Int))) <|
                  need (Nat.beq (w64 (((s1.2.1.1.length + 1 + s1.2.1.2.length : Nat) : Int) - 1)).toNat s1.2.1.1.length) <|
                  bindO (geti x.1 s1.1) fun y4 =>
                  need (appOk s1.2.2.length 1 80) <|
                  need (decide (0 ≤ w64 (((s1.2.1.1.length + 1 + s1.2.1.2.length : Nat) : Int) - 1)) && decide (w64 (((s1.2.1.1.length + 1 + s1.2.1.2.length : Nat) : Int) - 1) < ((s1.2.1.1.length + 1 + s1.2.1.2.length : Nat) : Int))) <|
                  need (Nat.beq (w64 (((s1.2.1.1.length + 1 + s1.2.1.2.length : Nat) : Int) - 1)).toNat s1.2.1.1.length) <|
                  need (decide (0 ≤ (s1.2.2.length : Int)) && decide ((s1.2.2.length : Int) < ((s1.2.2 ++ [(⟨(⟨0, [], 0, [], false⟩ : VToken), []⟩ : VValue)]).length : Int))) <|
                  bindO (s1.2.2 ++ [(⟨(⟨0, [], 0, [], false⟩ : VToken), []⟩ : VValue)])[s1.2.2.length]? fun y5 =>
                  some (LX.out (s1.1, (s1.2.1.1, s1.2.1.2), List.set (s1.2.2 ++ [(⟨(⟨0, [], 0, [], false⟩ : VToken), []⟩ : VValue)]) s1.2.2.length (⟨y4.token, y4.list⟩ : VValue))))) fun j6 =>
        some (LO.again (w64 (j6.1 + 1), (j6.2.1.1, j6.2.1.2), j6.2.2))
      else
        some (LO.out ((s1.2.1.1, s1.2.1.2), s1.2.2)) : Int × (List (List VValue) × List (List VValue)) × List VValue → Option (LO (Int × (List (List VValue) × List (List VValue)) × List VValue) ((List (List VValue) × List (List VValue)) × List VValue) _)) (0, ([], []), []) fun o7 =>
  some (o7.1.1 ++ List.cons o7.2 o7.1.2)
noncomputable def ref01_Small (x : Int) : Option Int :=
  bif bif decide (x ≥ 65) then decide (x ≤ 90) else false then
    some (wu8 (wu8 (x - 65) + 97))
  else
    some x
noncomputable def ref01_Lower (x : Str) : Option Str :=
  need (decide (x.length ≤ maxLen)) <|
  loopK (fun (s1 : Int × List UInt8) =>
      bif decide (s1.1 < (s1.2.length : Int)) then
        need (decide (0 ≤ s1.1) && decide (s1.1 < (s1.2.length : Int))) <|
        bindO s1.2[s1.1.toNat]? fun y2 =>
        bindO (ref01_Small (y2.toNat : Int)) fun y3 =>
        need (decide (0 ≤ s1.1) && decide (s1.1 < (s1.2.length : Int))) <|
        bindO s1.2[s1.1.toNat]? fun y4 =>
        bindO (byteO y3) fun y5 =>
        some (LO.again (w64 (s1.1 + 1), List.set s1.2 s1.1.toNat y5))
      else
        some (LO.out s1.2) : Int × List UInt8 → Option (LO (Int × List UInt8) (List UInt8) _)) (0, x) fun o6 =>
  some o6
noncomputable def ref01_Alike (x : Str × Str) : Option Bool :=
  bindO (ref01_Lower x.1) fun y1 =>
  bindO (ref01_Lower x.2) fun y2 =>
  some (y1 == y2)
noncomputable def ref10_word (x : List VValue × Int × Str) : Option Bool :=
  bindO (condO (decide (x.2.1 < (x.1.length : Int))) (geti x.1 x.2.1) (default : VValue)) fun y1 =>
  bindO (condO (bif decide (x.2.1 < (x.1.length : Int)) then y1.token.kind == 1 else false) (geti x.1 x.2.1) (default : VValue)) fun y2 =>
  bindO (condO (bif decide (x.2.1 < (x.1.length : Int)) then y1.token.kind == 1 else false) (ref01_Alike (y2.token.text, x.2.2)) (default : Bool)) fun y3 =>
  some (bif bif decide (x.2.1 < (x.1.length : Int)) then y1.token.kind == 1 else false then y3 else false)
noncomputable def ref10_kind (x : List VValue × Int × Int) : Option Bool :=
  bindO (condO (decide (x.2.1 < (x.1.length : Int))) (geti x.1 x.2.1) (default : VValue)) fun y1 =>
  some (bif decide (x.2.1 < (x.1.length : Int)) then y1.token.kind == x.2.2 else false)
noncomputable def ref10_spaces (x : List VValue × Int) : Option Int :=
  loopK (fun (s1 : Int) =>
      bindO (ref10_kind (x.1, s1, 13)) fun y2 =>
      bif y2 then
        some (LO.again (w64 (s1 + 1)))
      else
        some (LO.out s1) : Int → Option (LO (Int) (Int) _)) x.2 fun o3 =>
  some o3
noncomputable def ref10_never (x : Unit) : Option VCond :=
  some (⟨3, [], 0, (⟨[], [], false⟩ : VDecl), [(⟨1, [], 0, (⟨[], [], false⟩ : VDecl), [(⟨4, [97, 108, 108], 0, (⟨[], [], false⟩ : VDecl), []⟩ : VCond)]⟩ : VCond)]⟩ : VCond)
noncomputable def ref10_medium (x : Str) : Option Bool :=
  bindO (condO (!(bif x == [] then true else decide ((x.length : Int) > 64))) (ref01_Lower x) (default : Str)) fun y1 =>
  bif bif bif bif bif bif bif x == [] then true else decide ((x.length : Int) > 64) then true else !(x == y1) then true else x == [97, 110, 100] then true else x == [111, 114] then true else x == [110, 111, 116] then true else x == [111, 110, 108, 121] then
    some false
  else
    loopK (fun (s2 : Int) =>
        bif decide (s2 < (x.length : Int)) then
          bindO (geti x s2) fun y3 =>
          bif (y3.toNat : Int) == 0 then
            some (LO.ret false)
          else
            some (LO.again (w64 (s2 + 1)))
        else
          some (LO.out ()) : Int → Option (LO (Int) (Unit) _)) 0 fun o4 =>
    some true
noncomputable def ref06_Is (x : Int) : Option Bool :=
  some (bif decide (x ≥ (-1000000000000)) then decide (x ≤ 1000000000000) else false)
noncomputable def ref10_feature (x : List VValue × Int) : Option (VCond × Bool) :=
  bindO (ref10_kind (x.1, x.2, 21)) fun y1 =>
  bif !y1 then
    some ((⟨0, [], 0, (⟨[], [], false⟩ : VDecl), []⟩ : VCond), false)
  else
    bindO (geti x.1 x.2) fun y2 =>
    bindO (ref04_Trimmed y2.list) fun y3 =>
    joinK (X := (Int × Str × Int × Str × Bool) × (Int × Str × Int × Str × Bool)) (
        bindO (ref10_word (y3, 0, [109, 105, 110, 45, 119, 105, 100, 116, 104])) fun y4 =>
        bif y4 then
          some (LX.out ((0, [], 0, [], false), (5, [], 0, [], false)))
        else
          bindO (ref10_word (y3, 0, [109, 97, 120, 45, 119, 105, 100, 116, 104])) fun y5 =>
          bif y5 then
            some (LX.out ((0, [], 0, [], false), (6, [], 0, [], false)))
          else
            some (LX.out ((0, [], 0, [], false), (0, [], 0, [], false)))) fun j6 =>
    bindO (ref10_spaces (y3, 1)) fun y7 =>
    bindO (condO (!(j6.2.1 == 0)) (ref10_kind (y3, y7, 16)) (default : Bool)) fun y8 =>
    bif bif j6.2.1 == 0 then true else !y8 then
      some ((⟨0, [], 0, (⟨[], [], false⟩ : VDecl), []⟩ : VCond), false)
    else
      bindO (ref10_spaces (y3, w64 (y7 + 1))) fun y9 =>
      bif w64 (y9 + 1) != (y3.length : Int) then
        some ((⟨0, [], 0, (⟨[], [], false⟩ : VDecl), []⟩ : VCond), false)
      else
        bindO (geti y3 y9) fun y10 =>
        bindO (condO (y10.token.kind == 12) (ref01_Alike (y10.token.unit, [112, 120])) (default : Bool)) fun y11 =>
        bindO (condO (bif bif bif y10.token.kind == 12 then y11 else false then true else bif y10.token.kind == 10 then y10.token.num == 0 else false then decide (y10.token.num ≥ 0) else false) (ref06_Is y10.token.num) (default : Bool)) fun y12 =>
        some ((⟨j6.2.1, j6.2.2.1, y10.token.num, (⟨j6.2.2.2.2.1, [], j6.2.2.2.2.2⟩ : VDecl), []⟩ : VCond), bif bif bif bif y10.token.kind == 12 then y11 else false then true else bif y10.token.kind == 10 then y10.token.num == 0 else false then decide (y10.token.num ≥ 0) else false then y12 else false)
noncomputable def ref10_asked (x : List VValue) : Option VCond :=
  bindO (ref04_Trimmed x) fun y1 =>
  bindO (ref10_word (y1, 0, [110, 111, 116])) fun y2 =>
  joinK (X := Int × (Int × Str × Int × Str × Bool) × (Int × Str × Int × Str × Bool)) (
      bindO (condO (!y2) (ref10_word (y1, 0, [111, 110, 108, 121])) (default : Bool)) fun y3 =>
      bif bif y2 then true else y3 then
        bindO (ref10_spaces (y1, 1)) fun y4 =>
        bindO (ref10_kind (y1, y4, 1)) fun y5 =>
        bif !y5 then
          bindO (ref10_never ()) fun y6 =>
          some (LX.ret (⟨y6.kind, y6.name, y6.num, y6.decl, y6.list⟩ : VCond))
        else
          some (LX.out (y4, (0, [], 0, [], false), (1, [], 0, [], false)))
      else
        some (LX.out (0, (0, [], 0, [], false), (1, [], 0, [], false)))) fun j7 =>
  joinK (X := Int × (Int × Str × Int × Str × Bool) × (Int × Str × Int × Str × Bool) × List VCond) (
      bindO (ref10_kind (y1, j7.1, 1)) fun y8 =>
      bif y8 then
        bindO (geti y1 j7.1) fun y9 =>
        bindO (ref01_Lower y9.token.text) fun y10 =>
        bindO (ref10_medium y10) fun y11 =>
        bif !y11 then
          bindO (ref10_never ()) fun y12 =>
          some (LX.ret (⟨y12.kind, y12.name, y12.num, y12.decl, y12.list⟩ : VCond))
        else
          need (appOk 0 1 104) <|
          some (LX.out (j7.1, (j7.2.1.1, j7.2.1.2.1, j7.2.1.2.2.1, j7.2.1.2.2.2.1, j7.2.1.2.2.2.2), (j7.2.2.1, j7.2.2.2.1, j7.2.2.2.2.1, j7.2.2.2.2.2.1, j7.2.2.2.2.2.2), [(⟨4, y10, 0, (⟨[], [], false⟩ : VDecl), []⟩ : VCond)]))
      else
        bindO (ref10_feature (y1, j7.1)) fun y13 =>
        bif !y13.2 then
          bindO (ref10_never ()) fun y14 =>
          some (LX.ret (⟨y14.kind, y14.name, y14.num, y14.decl, y14.list⟩ : VCond))
        else
          need (appOk 0 1 104) <|
          some (LX.out (j7.1, (j7.2.1.1, j7.2.1.2.1, j7.2.1.2.2.1, j7.2.1.2.2.2.1, j7.2.1.2.2.2.2), (j7.2.2.1, j7.2.2.2.1, j7.2.2.2.2.1, j7.2.2.2.2.2.1, j7.2.2.2.2.2.2), [(⟨y13.1.kind, y13.1.name, y13.1.num, y13.1.decl, y13.1.list⟩ : VCond)]))) fun j15 =>
  bindO (ref10_spaces (y1, w64 (j15.1 + 1))) fun y16 =>
  loopK (fun (s17 : Int × (Int × Str × Int × Str × Bool) × (Int × Str × Int × Str × Bool) × List VCond) =>
      bif decide (s17.1 < (y1.length : Int)) then
        bindO (ref10_word (y1, s17.1, [97, 110, 100])) fun y18 =>
        bif !y18 then
          bindO (ref10_never ()) fun y19 =>
          some (LO.ret (⟨y19.kind, y19.name, y19.num, y19.decl, y19.list⟩ : VCond))
        else
          bindO (ref10_spaces (y1, w64 (s17.1 + 1))) fun y20 =>
          bindO (ref10_feature (y1, y20)) fun y21 =>
          bif !y21.2 then
            bindO (ref10_never ()) fun y22 =>
            some (LO.ret (⟨y22.kind, y22.name, y22.num, y22.decl, y22.list⟩ : VCond))
          else
            need (appOk s17.2.2.2.length 1 104) <|
            bindO (ref10_spaces (y1, w64 (y20 + 1))) fun y23 =>
            some (LO.again (y23, (s17.2.1.1, s17.2.1.2.1, s17.2.1.2.2.1, s17.2.1.2.2.2.1, s17.2.1.2.2.2.2), (s17.2.2.1.1, s17.2.2.1.2.1, s17.2.2.1.2.2.1, s17.2.2.1.2.2.2.1, s17.2.2.1.2.2.2.2), s17.2.2.2 ++ [(⟨y21.1.kind, y21.1.name, y21.1.num, y21.1.decl, y21.1.list⟩ : VCond)]))
      else
        some (LO.out ((s17.2.1.1, s17.2.1.2.1, s17.2.1.2.2.1, s17.2.1.2.2.2.1, s17.2.1.2.2.2.2), (s17.2.2.1.1, s17.2.2.1.2.1, s17.2.2.1.2.2.1, s17.2.2.1.2.2.2.1, s17.2.2.1.2.2.2.2), s17.2.2.2)) : Int × (Int × Str × Int × Str × Bool) × (Int × Str × Int × Str × Bool) × List VCond → Option (LO (Int × (Int × Str × Int × Str × Bool) × (Int × Str × Int × Str × Bool) × List VCond) ((Int × Str × Int × Str × Bool) × (Int × Str × Int × Str × Bool) × List VCond) _)) (y16, (j15.2.1.1, j15.2.1.2.1, j15.2.1.2.2.1, j15.2.1.2.2.2.1, j15.2.1.2.2.2.2), (j15.2.2.1.1, j15.2.2.1.2.1, j15.2.2.1.2.2.1, j15.2.2.1.2.2.2.1, j15.2.2.1.2.2.2.2), j15.2.2.2) fun o24 =>
  bif y2 then
    some (⟨3, [], 0, (⟨[], [], false⟩ : VDecl), [(⟨o24.2.1.1, o24.2.1.2.1, o24.2.1.2.2.1, (⟨o24.2.1.2.2.2.1, [], o24.2.1.2.2.2.2⟩ : VDecl), o24.2.2⟩ : VCond)]⟩ : VCond)
  else
    some (⟨o24.2.1.1, o24.2.1.2.1, o24.2.1.2.2.1, (⟨o24.2.1.2.2.2.1, [], o24.2.1.2.2.2.2⟩ : VDecl), o24.2.2⟩ : VCond)
noncomputable def ref10_Asked (x : List VValue) : Option (VCond × Bool) :=
  bindO (ref04_Trimmed x) fun y1 =>
  bif (y1.length : Int) == 0 then
    some ((⟨1, [], 0, (⟨[], [], false⟩ : VDecl), []⟩ : VCond), true)
  else
    bindO (ref04_Parts (x, 18)) fun y2 =>
    loopK (fun (s3 : Int × (Int × Str × Int × Str × Bool) × List VCond) =>
        bif decide (s3.1 < (y2.length : Int)) then
          bindO (geti y2 s3.1) fun y4 =>
          bindO (ref10_asked y4) fun y5 =>
          need (appOk s3.2.2.length 1 104) <|
          some (LO.again (w64 (s3.1 + 1), (s3.2.1.1, s3.2.1.2.1, s3.2.1.2.2.1, s3.2.1.2.2.2.1, s3.2.1.2.2.2.2), s3.2.2 ++ [(⟨y5.kind, y5.name, y5.num, y5.decl, y5.list⟩ : VCond)]))
        else
          some (LO.out ((s3.2.1.1, s3.2.1.2.1, s3.2.1.2.2.1, s3.2.1.2.2.2.1, s3.2.1.2.2.2.2), s3.2.2)) : Int × (Int × Str × Int × Str × Bool) × List VCond → Option (LO (Int × (Int × Str × Int × Str × Bool) × List VCond) ((Int × Str × Int × Str × Bool) × List VCond) _)) (0, (2, [], 0, [], false), []) fun o6 =>
    some ((⟨o6.1.1, o6.1.2.1, o6.1.2.2.1, (⟨o6.1.2.2.2.1, [], o6.1.2.2.2.2⟩ : VDecl), o6.2⟩ : VCond), decide ((y2.length : Int) ≤ 64))
noncomputable def ref10_Media (x : List VValue) : Option (VCond × Int) :=
  bindO (ref04_Check x) fun y1 =>
  bif y1 != 0 then
    some ((⟨0, [], 0, (⟨[], [], false⟩ : VDecl), []⟩ : VCond), y1)
  else
    bindO (ref10_Asked x) fun y2 =>
    bif !y2.2 then
      some ((⟨0, [], 0, (⟨[], [], false⟩ : VDecl), []⟩ : VCond), 4)
    else
      some ((⟨y2.1.kind, y2.1.name, y2.1.num, y2.1.decl, y2.1.list⟩ : VCond), 0)
noncomputable def decl_is (x : VValue × Int) : Option Bool :=
  some (x.1.token.kind == x.2)
noncomputable def decl_left (x : List VValue) : Option (List VValue) :=
  loopK (fun (s1 : List VValue) =>
      bindO (condO (decide ((s1.length : Int) > 0)) (geti s1 0) (default : VValue)) fun y2 =>
      bindO (condO (decide ((s1.length : Int) > 0)) (decl_is ((⟨y2.token, y2.list⟩ : VValue), 13)) (default : Bool)) fun y3 =>
      bif bif decide ((s1.length : Int) > 0) then y3 else false then
        need (decide (1 ≤ (s1.length : Int))) <|
        some (LO.again (List.drop 1 s1))
      else
        some (LO.out s1) : List VValue → Option (LO (List VValue) (List VValue) _)) x fun o4 =>
  some o4
noncomputable def decl_right (x : List VValue) : Option (List VValue) :=
  loopK (fun (s1 : List VValue) =>
      bindO (condO (decide ((s1.length : Int) > 0)) (geti s1 (w64 ((s1.length : Int) - 1))) (default : VValue)) fun y2 =>
      bindO (condO (decide ((s1.length : Int) > 0)) (decl_is ((⟨y2.token, y2.list⟩ : VValue), 13)) (default : Bool)) fun y3 =>
      bif bif decide ((s1.length : Int) > 0) then y3 else false then
        need (decide (0 ≤ w64 ((s1.length : Int) - 1)) && decide (w64 ((s1.length : Int) - 1) ≤ (s1.length : Int))) <|
        some (LO.again (List.take (w64 ((s1.length : Int) - 1)).toNat s1))
      else
        some (LO.out s1) : List VValue → Option (LO (List VValue) (List VValue) _)) x fun o4 =>
  some o4
noncomputable def stringslite_HasPrefix (x : Str × Str) : Option Bool :=
  need (decide (0 ≤ (x.2.length : Int)) && decide ((x.2.length : Int) ≤ (x.1.length : Int)) || !(decide ((x.1.length : Int) ≥ (x.2.length : Int)))) <|
  some (bif decide ((x.1.length : Int) ≥ (x.2.length : Int)) then List.take x.2.length x.1 == x.2 else false)
noncomputable def strings_HasPrefix (x : Str × Str) : Option Bool :=
  bindO (stringslite_HasPrefix (x.1, x.2)) fun y1 =>
  some y1
noncomputable def decl_bang (x : VValue) : Option Bool :=
  bindO (decl_is ((⟨x.token, x.list⟩ : VValue), 9)) fun y1 =>
  some (bif y1 then x.token.text == [33] else false)
noncomputable def nest_Trim_1 (x : Int × List VValue) : Option Bool :=
  bindO (geti x.2 x.1) fun y1 =>
  some (y1.token.kind == 13)
noncomputable def nest_Trim (x : List VValue) : Option (List VValue × Int) :=
  bindO (nest_Check x) fun y1 =>
  bif y1 != 0 then
    some ([], y1)
  else
    loopK (fun (s2 : Int) =>
        bindO (condO (decide (s2 < (x.length : Int))) (nest_Trim_1 (s2, x)) (default : Bool)) fun y3 =>
        bif bif decide (s2 < (x.length : Int)) then y3 else false then
          some (LO.again (w64 (s2 + 1)))
        else
          some (LO.out s2) : Int → Option (LO (Int) (Int) _)) 0 fun o4 =>
    loopK (fun (s5 : Int) =>
        bindO (condO (decide (o4 < s5)) (nest_Trim_1 (w64 (s5 - 1), x)) (default : Bool)) fun y6 =>
        bif bif decide (o4 < s5) then y6 else false then
          some (LO.again (w64 (s5 - 1)))
        else
          some (LO.out s5) : Int → Option (LO (Int) (Int) _)) (x.length : Int) fun o7 =>
    need (decide (0 ≤ o4) && (decide (o4 ≤ o7) && (decide (o7 ≤ o7) && decide (o7 ≤ (x.length : Int))))) <|
    bindO (nest_twin (List.drop o4.toNat (List.take o7.toNat x))) fun y8 =>
    some (y8, 0)
noncomputable def nest_flat_3_B (nest_flat_3 : List VValue × List VToken → Option (List VToken)) (x : List VValue × List VToken) : Option (List VToken) :=
  loopK (fun (s1 : Int × List VToken) =>
      bif decide (s1.1 < (x.1.length : Int)) then
        joinK (X := Int × List VToken) (
            bindO (geti x.1 s1.1) fun y2 =>
            need (appOk s1.2.length 1 56) <|
            bindO (nest_closer y2.token.kind) fun y3 =>
            bif y3 != 0 then
              bindO (nest_flat_3 (y2.list, s1.2 ++ [y2.token])) fun y4 =>
              need (appOk y4.length 1 56) <|
              some (LX.out (s1.1, y4 ++ [(⟨y3, [], 0, [], false⟩ : VToken)]))
            else
              some (LX.out (s1.1, s1.2 ++ [y2.token]))) fun j5 =>
        some (LO.again (w64 (j5.1 + 1), j5.2))
      else
        some (LO.out s1.2) : Int × List VToken → Option (LO (Int × List VToken) (List VToken) _)) (0, x.2) fun o6 =>
  some o6
noncomputable def nest_flat_3 : List VValue × List VToken → Option (List VToken) := recE (nest_flat_3_B)
noncomputable def nest_flat_2 (x : List VValue) : Option (List VToken) :=
  loopK (fun (s1 : Int × List VToken) =>
      bif decide (s1.1 < (x.length : Int)) then
        joinK (X := Int × List VToken) (
            bindO (geti x s1.1) fun y2 =>
            need (appOk s1.2.length 1 56) <|
            bindO (nest_closer y2.token.kind) fun y3 =>
            bif y3 != 0 then
              bindO (nest_flat_3 (y2.list, s1.2 ++ [y2.token])) fun y4 =>
              need (appOk y4.length 1 56) <|
              some (LX.out (s1.1, y4 ++ [(⟨y3, [], 0, [], false⟩ : VToken)]))
            else
              some (LX.out (s1.1, s1.2 ++ [y2.token]))) fun j5 =>
        some (LO.again (w64 (j5.1 + 1), j5.2))
      else
        some (LO.out s1.2) : Int × List VToken → Option (LO (Int × List VToken) (List VToken) _)) (0, []) fun o6 =>
  some o6
noncomputable def nest_Flat (x : List VValue) : Option (List VToken × Int) :=
  bindO (nest_Check x) fun y1 =>
  bif y1 != 0 then
    some ([], y1)
  else
    bindO (nest_flat_2 x) fun y2 =>
    some (y2, 0)
noncomputable def decl_named (x : Str) : Option Bool :=
  bindO (condO (!(bif x == [] then true else decide ((x.length : Int) > 64))) (strings_IndexByte (x, 0)) (default : Int)) fun y1 =>
  bif bif bif x == [] then true else decide ((x.length : Int) > 64) then true else decide (y1 ≥ 0) then
    some false
  else
    bindO (strings_HasPrefix (x, [45, 45])) fun y2 =>
    bif y2 then
      some (!(x == [45, 45]))
    else
      bindO (input_Lower x) fun y3 =>
      some (x == y3)
noncomputable def stringslite_TrimPrefix (x : Str × Str) : Option Str :=
  bindO (stringslite_HasPrefix (x.1, x.2)) fun y1 =>
  bif y1 then
    need (decide (0 ≤ (x.2.length : Int)) && decide ((x.2.length : Int) ≤ (x.1.length : Int))) <|
    some (List.drop x.2.length x.1)
  else
    some x.1
noncomputable def strings_TrimPrefix (x : Str × Str) : Option Str :=
  bindO (stringslite_TrimPrefix (x.1, x.2)) fun y1 =>
  some y1
noncomputable def glue_digit (x : Int) : Option Bool :=
  some (bif decide (48 ≤ x) then decide (x ≤ 57) else false)
noncomputable def glue_numeric (x : Str) : Option Bool :=
  bindO (strings_TrimPrefix (x, [45])) fun y1 =>
  bindO (condO (!(y1 == [])) (geti y1 0) 0) fun y2 =>
  bindO (condO (!(y1 == [])) (glue_digit (y2.toNat : Int)) (default : Bool)) fun y3 =>
  some (bif !(y1 == []) then y3 else false)
noncomputable def glue_letter (x : Int) : Option Bool :=
  some (bif bif decide (97 ≤ ibOr IntKind.u8 x 32) then decide (ibOr IntKind.u8 x 32 ≤ 122) else false then decide (x < 128) else false)
noncomputable def glue_named (x : Int) : Option Bool :=
  bindO (glue_letter x) fun y1 =>
  bindO (condO (!y1) (glue_digit x) (default : Bool)) fun y2 =>
  some (bif bif bif bif y1 then true else y2 then true else x == 95 then true else x == 45 then true else decide (x ≥ 128))
noncomputable def strings_Index (x : Str × Str) : Option Int :=
  bindO (index1 (x.1, x.2)) fun y1 =>
  some y1
noncomputable def strings_Contains (x : Str × Str) : Option Bool :=
  bindO (strings_Index (x.1, x.2)) fun y1 =>
  some (decide (y1 ≥ 0))
noncomputable def glue_fine (x : VToken) : Option Bool :=
  need (decide (((x.text.length + x.unit.length : Nat) : Int) ≤ 9223372036854775807)) <|
  bindO (strings_IndexByte (x.text ++ x.unit, 0)) fun y1 =>
  joinK (X := Bool × Bool × Bool × Bool × Bool) (
      joinK (X := Bool × Bool × Bool × Bool × Bool × Bool) (
          bif x.kind == 1 then
            some (LX.out (false, false, false, false, decide (y1 < 0), x.kind == 1))
          else
            bif x.kind == 2 then
              some (LX.out (false, false, false, false, decide (y1 < 0), x.kind == 2))
            else
              some (LX.out (false, false, false, false, decide (y1 < 0), x.kind == 3))) fun j2 =>
      bif j2.2.2.2.2.2 then
        some (LX.out (true, j2.2.1, j2.2.2.1, j2.2.2.2.1, bif j2.2.2.2.2.1 then !(x.text == []) else false))
      else
        bif x.kind == 4 then
          bindO (condO (!x.flag && (bif j2.2.2.2.2.1 then !(x.text == []) else false)) (glue_numeric x.text) (default : Bool)) fun y3 =>
          bindO (condO (y3 && (!x.flag && (bif j2.2.2.2.2.1 then !(x.text == []) else false))) (strings_HasPrefix (x.text, [45, 45])) (default : Bool)) fun y4 =>
          some (LX.out (true, j2.2.1, j2.2.2.1, true, bif bif j2.2.2.2.2.1 then !(x.text == []) else false then bif bif x.flag then true else bif y3 then !y4 else false then true else x.text == [45] else false))
        else
          joinK (X := Bool × Bool × Bool × Bool × Bool × Bool) (
              bif x.kind == 5 then
                some (LX.out (j2.1, j2.2.1, j2.2.2.1, j2.2.2.2.1, j2.2.2.2.2.1, x.kind == 5))
              else
                some (LX.out (j2.1, j2.2.1, j2.2.2.1, j2.2.2.2.1, j2.2.2.2.2.1, x.kind == 7))) fun j5 =>
          bif j5.2.2.2.2.2 then
            some (LX.out (true, j5.2.1, j5.2.2.1, j5.2.2.2.1, j5.2.2.2.2.1))
          else
            bif x.kind == 9 then
              bindO (condO (bif j5.2.2.2.2.1 then (x.text.length : Int) == 1 else false) (geti x.text 0) 0) fun y6 =>
              bindO (condO (bif j5.2.2.2.2.1 then (x.text.length : Int) == 1 else false) (glue_named (y6.toNat : Int)) (default : Bool)) fun y7 =>
              bindO (condO (bif bif bif j5.2.2.2.2.1 then (x.text.length : Int) == 1 else false then !y7 else false then true else x.text == [45]) (strings_Contains ([32, 9, 10, 12, 13, 34, 39, 58, 59, 44, 91, 93, 40, 41, 123, 125], x.text)) (default : Bool)) fun y8 =>
              some (LX.out (true, j5.2.1, j5.2.2.1, j5.2.2.2.1, bif bif bif bif j5.2.2.2.2.1 then (x.text.length : Int) == 1 else false then !y7 else false then true else x.text == [45] then !y8 else false))
            else
              joinK (X := Bool × Bool × Bool × Bool × Bool) (
                  bif x.kind == 10 then
                    some (LX.out (j5.2.1, j5.2.2.1, j5.2.2.2.1, j5.2.2.2.2.1, x.kind == 10))
                  else
                    bif x.kind == 11 then
                      some (LX.out (j5.2.1, j5.2.2.1, j5.2.2.2.1, j5.2.2.2.2.1, x.kind == 11))
                    else
                      some (LX.out (j5.2.1, j5.2.2.1, j5.2.2.2.1, j5.2.2.2.2.1, x.kind == 12))) fun j9 =>
              bif j9.2.2.2.2 then
                some (LX.out (j5.1, x.kind == 12, true, x.kind != 11, bif bif bif bif j9.2.2.2.1 then decide (x.num ≥ (-1000000000000)) else false then decide (x.num ≤ 1000000000000) else false then bif !x.flag then true else Int.tmod x.num 1000 == 0 else false then bif !(x.kind == 12) then true else !(x.unit == []) else false))
              else
                some (LX.out (j5.1, j9.1, j9.2.1, j9.2.2.1, bif decide (x.kind ≥ 13) then decide (x.kind ≤ 24) else false))) fun j10 =>
  some (bif bif bif bif j10.2.2.2.2 then bif j10.1 then true else x.text == [] else false then bif j10.2.1 then true else x.unit == [] else false then bif j10.2.2.1 then true else x.num == 0 else false then bif j10.2.2.2.1 then true else !x.flag else false)
noncomputable def glue_piece_1 (x : (Int × Int) × List VToken) : Option Bool :=
  bindO (condO (decide (x.1.1 < (x.2.length : Int))) (geti x.2 x.1.1) (default : VToken)) fun y1 =>
  some (bif decide (x.1.1 < (x.2.length : Int)) then y1.kind == x.1.2 else false)
noncomputable def glue_piece (x : List VToken) : Option Int :=
  bindO (geti x 0) fun y1 =>
  bif bif y1.kind == 9 then y1.text == [92] else false then
    bindO (glue_piece_1 ((1, 13), x)) fun y2 =>
    bif !y2 then
      some 0
    else
      some 2
  else
    bindO (condO (y1.kind == 2) (input_Alike (y1.text, [117, 114, 108])) (default : Bool)) fun y3 =>
    bif bif y1.kind == 2 then y3 else false then
      joinK (X := Int) (
          bindO (glue_piece_1 ((1, 13), x)) fun y4 =>
          bif y4 then
            some (LX.out 2)
          else
            some (LX.out 1)) fun j5 =>
      bindO (glue_piece_1 ((j5, 5), x)) fun y6 =>
      bif !y6 then
        some 0
      else
        some (w64 (j5 + 1))
    else
      some 1
noncomputable def glue_Check (x : List VToken) : Option Int :=
  bif decide ((x.length : Int) > 1500) then
    some 4
  else
    loopK (fun (s1 : Int) =>
        bif decide (s1 < (x.length : Int)) then
          bindO (geti x s1) fun y2 =>
          bindO (glue_fine y2) fun y3 =>
          need (decide (0 ≤ s1) && decide (s1 ≤ (x.length : Int)) || !(!(!y3))) <|
          bindO (condO (!(!y3)) (glue_piece (List.drop s1.toNat x)) (default : Int)) fun y4 =>
          bif bif !y3 then true else y4 == 0 then
            some (LO.ret 8)
          else
            some (LO.again (w64 (s1 + 1)))
        else
          some (LO.out ()) : Int → Option (LO (Int) (Unit) _)) 0 fun o5 =>
    some 0
noncomputable def decl_closers_1 (decl_closers : List VValue → Option Bool) (x : VValue) : Option Bool :=
  bindO (decl_is ((⟨x.token, x.list⟩ : VValue), 20)) fun y1 =>
  bindO (condO (!y1) (decl_is ((⟨x.token, x.list⟩ : VValue), 22)) (default : Bool)) fun y2 =>
  bindO (condO (!(bif y1 then true else y2)) (decl_is ((⟨x.token, x.list⟩ : VValue), 24)) (default : Bool)) fun y3 =>
  bindO (condO (!(bif bif y1 then true else y2 then true else y3)) (decl_closers x.list) (default : Bool)) fun y4 =>
  some (bif bif bif y1 then true else y2 then true else y3 then true else y4)
noncomputable def slices_IndexFunc_Value (decl_closers : List VValue → Option Bool) (x : List VValue) : Option Int :=
  loopK (fun (s1 : Int) =>
      bif decide (s1 < (x.length : Int)) then
        bindO (geti x s1) fun y2 =>
        bindO (decl_closers_1 decl_closers (⟨y2.token, y2.list⟩ : VValue)) fun y3 =>
        bif y3 then
          some (LO.ret s1)
        else
          some (LO.again (w64 (s1 + 1)))
      else
        some (LO.out ()) : Int → Option (LO (Int) (Unit) _)) 0 fun o4 =>
  some (-1)
noncomputable def slices_ContainsFunc_Value (decl_closers : List VValue → Option Bool) (x : List VValue) : Option Bool :=
  bindO (slices_IndexFunc_Value decl_closers x) fun y1 =>
  some (decide (y1 ≥ 0))
noncomputable def decl_closers_B (decl_closers : List VValue → Option Bool) (x : List VValue) : Option Bool :=
  bindO (slices_ContainsFunc_Value decl_closers x) fun y1 =>
  some y1
noncomputable def decl_closers : List VValue → Option Bool := recE (decl_closers_B)
noncomputable def decl_Check_1 (x : VValue) : Option Bool :=
  bindO (decl_is ((⟨x.token, x.list⟩ : VValue), 17)) fun y1 =>
  bindO (condO (!y1) (decl_bang (⟨x.token, x.list⟩ : VValue)) (default : Bool)) fun y2 =>
  some (bif y1 then true else y2)
noncomputable def slices_IndexFunc_Value_2 (x : List VValue) : Option Int :=
  loopK (fun (s1 : Int) =>
      bif decide (s1 < (x.length : Int)) then
        bindO (geti x s1) fun y2 =>
        bindO (decl_Check_1 (⟨y2.token, y2.list⟩ : VValue)) fun y3 =>
        bif y3 then
          some (LO.ret s1)
        else
          some (LO.again (w64 (s1 + 1)))
      else
        some (LO.out ()) : Int → Option (LO (Int) (Unit) _)) 0 fun o4 =>
  some (-1)
noncomputable def slices_ContainsFunc_Value_2 (x : List VValue) : Option Bool :=
  bindO (slices_IndexFunc_Value_2 x) fun y1 =>
  some (decide (y1 ≥ 0))
noncomputable def decl_Check (x : VDecl) : Option Int :=
  bindO (nest_Flat x.value) fun y1 =>
  bindO (decl_named x.name) fun y2 =>
  bindO (condO (!(bif !y2 then true else y1.2 != 0)) (glue_Check y1.1) (default : Int)) fun y3 =>
  bindO (condO (!(bif bif !y2 then true else y1.2 != 0 then true else y3 != 0)) (decl_closers x.value) (default : Bool)) fun y4 =>
  bif bif bif bif !y2 then true else y1.2 != 0 then true else y3 != 0 then true else y4 then
    some 8
  else
    bindO (slices_ContainsFunc_Value_2 x.value) fun y5 =>
    bif y5 then
      some 8
    else
      bindO (condO ((x.value.length : Int) == 0) (strings_HasPrefix (x.name, [45, 45])) (default : Bool)) fun y6 =>
      bindO (condO (decide ((x.value.length : Int) > 0) && !(bif (x.value.length : Int) == 0 then !y6 else false)) (geti x.value 0) (default : VValue)) fun y7 =>
      bindO (condO (decide ((x.value.length : Int) > 0) && !(bif (x.value.length : Int) == 0 then !y6 else false)) (decl_is ((⟨y7.token, y7.list⟩ : VValue), 13)) (default : Bool)) fun y8 =>
      bindO (condO (!y8 && (decide ((x.value.length : Int) > 0) && !(bif (x.value.length : Int) == 0 then !y6 else false))) (geti x.value (w64 ((x.value.length : Int) - 1))) (default : VValue)) fun y9 =>
      bindO (condO (!y8 && (decide ((x.value.length : Int) > 0) && !(bif (x.value.length : Int) == 0 then !y6 else false))) (decl_is ((⟨y9.token, y9.list⟩ : VValue), 13)) (default : Bool)) fun y10 =>
      bif bif bif (x.value.length : Int) == 0 then !y6 else false then true else bif decide ((x.value.length : Int) > 0) then bif y8 then true else y10 else false then
        some 8
      else
        some 0
noncomputable def decl_one (x : List VValue) : Option (VDecl × Bool) :=
  bindO (decl_left x) fun y1 =>
  bindO (decl_right y1) fun y2 =>
  bindO (condO (!((y2.length : Int) == 0)) (geti y2 0) (default : VValue)) fun y3 =>
  bindO (condO (!((y2.length : Int) == 0)) (decl_is ((⟨y3.token, y3.list⟩ : VValue), 1)) (default : Bool)) fun y4 =>
  bif bif (y2.length : Int) == 0 then true else !y4 then
    some ((⟨[], [], false⟩ : VDecl), false)
  else
    bindO (geti y2 0) fun y5 =>
    joinK (X := List VValue × (Str × Bool) × (Str × Bool)) (
        bindO (strings_HasPrefix (y5.token.text, [45, 45])) fun y6 =>
        bif !y6 then
          bindO (input_Lower y5.token.text) fun y7 =>
          some (LX.out (y2, ([], false), (y7, false)))
        else
          some (LX.out (y2, ([], false), (y5.token.text, false)))) fun j8 =>
    need (decide (1 ≤ (j8.1.length : Int))) <|
    bindO (decl_left (List.drop 1 j8.1)) fun y9 =>
    bindO (condO (!((y9.length : Int) == 0)) (geti y9 0) (default : VValue)) fun y10 =>
    bindO (condO (!((y9.length : Int) == 0)) (decl_is ((⟨y10.token, y10.list⟩ : VValue), 16)) (default : Bool)) fun y11 =>
    bif bif (y9.length : Int) == 0 then true else !y11 then
      some ((⟨[], [], false⟩ : VDecl), false)
    else
      need (decide (1 ≤ (y9.length : Int))) <|
      bindO (decl_left (List.drop 1 y9)) fun y12 =>
      joinK (X := List VValue × (Str × Bool) × (Str × Bool)) (
          bindO (condO (decide (w64 ((y12.length : Int) - 1) > 0)) (geti y12 (w64 ((y12.length : Int) - 1))) (default : VValue)) fun y13 =>
          bindO (condO (decide (w64 ((y12.length : Int) - 1) > 0)) (decl_is ((⟨y13.token, y13.list⟩ : VValue), 1)) (default : Bool)) fun y14 =>
          bindO (condO (bif decide (w64 ((y12.length : Int) - 1) > 0) then y14 else false) (geti y12 (w64 ((y12.length : Int) - 1))) (default : VValue)) fun y15 =>
          bindO (condO (bif decide (w64 ((y12.length : Int) - 1) > 0) then y14 else false) (input_Alike (y15.token.text, [105, 109, 112, 111, 114, 116, 97, 110, 116])) (default : Bool)) fun y16 =>
          bif bif bif decide (w64 ((y12.length : Int) - 1) > 0) then y14 else false then y16 else false then
            need (decide (0 ≤ w64 ((y12.length : Int) - 1)) && decide (w64 ((y12.length : Int) - 1) ≤ (y12.length : Int))) <|
            bindO (decl_right (List.take (w64 ((y12.length : Int) - 1)).toNat y12)) fun y17 =>
            bindO (condO (decide ((y17.length : Int) > 0)) (geti y17 (w64 ((y17.length : Int) - 1))) (default : VValue)) fun y18 =>
            bindO (condO (decide ((y17.length : Int) > 0)) (decl_bang (⟨y18.token, y18.list⟩ : VValue)) (default : Bool)) fun y19 =>
            bif bif decide ((y17.length : Int) > 0) then y19 else false then
              need (decide (0 ≤ w64 ((y17.length : Int) - 1)) && decide (w64 ((y17.length : Int) - 1) ≤ (y17.length : Int))) <|
              bindO (decl_right (List.take (w64 ((y17.length : Int) - 1)).toNat y17)) fun y20 =>
              some (LX.out (y20, (j8.2.1.1, j8.2.1.2), (j8.2.2.1, true)))
            else
              some (LX.out (y12, (j8.2.1.1, j8.2.1.2), (j8.2.2.1, j8.2.2.2)))
          else
            some (LX.out (y12, (j8.2.1.1, j8.2.1.2), (j8.2.2.1, j8.2.2.2)))) fun j21 =>
      bindO (nest_Trim j21.1) fun y22 =>
      bindO (condO (!(y22.2 != 0)) (decl_Check (⟨j21.2.2.1, y22.1, j21.2.2.2⟩ : VDecl)) (default : Int)) fun y23 =>
      bif bif y22.2 != 0 then true else y23 != 0 then
        some ((⟨[], [], false⟩ : VDecl), false)
      else
        some ((⟨j21.2.2.1, y22.1, j21.2.2.2⟩ : VDecl), true)
noncomputable def decl_One (x : List VValue) : Option (VDecl × Bool × Int) :=
  bindO (nest_Check x) fun y1 =>
  bif y1 != 0 then
    some ((⟨[], [], false⟩ : VDecl), false, y1)
  else
    bindO (decl_one x) fun y2 =>
    some (y2.1, y2.2, 0)
noncomputable def cond_reader_term (cond_reader_told : Vcond_reader → Option ((VCond × Bool) × Vcond_reader)) (x : Vcond_reader) : Option ((VCond × Bool) × Vcond_reader) :=
  bindO (cond_reader_kind x) fun y1 =>
  bif y1 == 2 then
    bindO (cond_reader_next x) fun y2 =>
    some (((⟨8, [], 0, (⟨[], [], false⟩ : VDecl), []⟩ : VCond), true), y2.2)
  else
    bif y1 == 21 then
      bindO (cond_reader_next x) fun y3 =>
      bindO (decl_One y3.1.list) fun y4 =>
      bif bif y4.2.2 == 0 then y4.2.1 else false then
        some (((⟨7, [], 0, y4.1, []⟩ : VCond), true), y3.2)
      else
        bindO (cond_reader_told (⟨y3.1.list⟩ : Vcond_reader)) fun y5 =>
        bif y5.1.2 then
          some (((⟨y5.1.1.kind, y5.1.1.name, y5.1.1.num, y5.1.1.decl, y5.1.1.list⟩ : VCond), true), y3.2)
        else
          some (((⟨8, [], 0, (⟨[], [], false⟩ : VDecl), []⟩ : VCond), true), y3.2)
    else
      some (((⟨8, [], 0, (⟨[], [], false⟩ : VDecl), []⟩ : VCond), false), x)
noncomputable def cond_reader_told_B (cond_reader_told : Vcond_reader → Option ((VCond × Bool) × Vcond_reader)) (x : Vcond_reader) : Option ((VCond × Bool) × Vcond_reader) :=
  bindO (cond_reader_spaces x) fun y1 =>
  bindO (cond_reader_word ([[110, 111, 116]], y1.2)) fun y2 =>
  bif !(y2.1 == []) then
    bindO (cond_reader_spaces y2.2) fun y3 =>
    bindO (cond_reader_term cond_reader_told y3.2) fun y4 =>
    bindO (cond_reader_spaces y4.2) fun y5 =>
    some (((⟨3, [], 0, (⟨[], [], false⟩ : VDecl), [(⟨y4.1.1.kind, y4.1.1.name, y4.1.1.num, y4.1.1.decl, y4.1.1.list⟩ : VCond)]⟩ : VCond), bif bif y4.1.2 then y3.1 else false then (y5.2.v.length : Int) == 0 else false), y5.2)
  else
    bindO (cond_reader_term cond_reader_told y2.2) fun y6 =>
    bif !y6.1.2 then
      some (((⟨y6.1.1.kind, y6.1.1.name, y6.1.1.num, y6.1.1.decl, y6.1.1.list⟩ : VCond), false), y6.2)
    else
      bindO (cond_reader_spaces y6.2) fun y7 =>
      bif (y7.2.v.length : Int) == 0 then
        some (((⟨y6.1.1.kind, y6.1.1.name, y6.1.1.num, y6.1.1.decl, y6.1.1.list⟩ : VCond), true), y7.2)
      else
        loopK (fun (s8 : Bool × Vcond_reader × (Int × Str × Int × Str × Bool) × (Int × Str × Int × Str × Bool) × List VCond) =>
            bif decide ((s8.2.1.v.length : Int) > 0) then
              bindO (cond_reader_word ([[97, 110, 100], [111, 114]], s8.2.1)) fun y9 =>
              bif bif bif (bif y9.1 == [97, 110, 100] then 1 else bif y9.1 == [111, 114] then 2 else (0 : Int)) == 0 then true else !s8.1 then true else bif s8.2.2.2.1.1 != 0 then s8.2.2.2.1.1 != (bif y9.1 == [97, 110, 100] then 1 else bif y9.1 == [111, 114] then 2 else (0 : Int)) else false then
                some (LO.ret (((⟨s8.2.2.2.1.1, s8.2.2.2.1.2.1, s8.2.2.2.1.2.2.1, (⟨s8.2.2.2.1.2.2.2.1, [], s8.2.2.2.1.2.2.2.2⟩ : VDecl), s8.2.2.2.2⟩ : VCond), false), y9.2))
              else
                bindO (cond_reader_spaces y9.2) fun y10 =>
                bindO (cond_reader_term cond_reader_told y10.2) fun y11 =>
                bif bif !y10.1 then true else !y11.1.2 then
                  some (LO.ret (((⟨bif y9.1 == [97, 110, 100] then 1 else bif y9.1 == [111, 114] then 2 else (0 : Int), s8.2.2.2.1.2.1, s8.2.2.2.1.2.2.1, (⟨s8.2.2.2.1.2.2.2.1, [], s8.2.2.2.1.2.2.2.2⟩ : VDecl), s8.2.2.2.2⟩ : VCond), false), y11.2))
                else
                  need (appOk s8.2.2.2.2.length 1 104) <|
                  bindO (cond_reader_spaces y11.2) fun y12 =>
                  some (LO.again (y12.1, y12.2, (s8.2.2.1.1, s8.2.2.1.2.1, s8.2.2.1.2.2.1, s8.2.2.1.2.2.2.1, s8.2.2.1.2.2.2.2), (bif y9.1 == [97, 110, 100] then 1 else bif y9.1 == [111, 114] then 2 else (0 : Int), s8.2.2.2.1.2.1, s8.2.2.2.1.2.2.1, s8.2.2.2.1.2.2.2.1, s8.2.2.2.1.2.2.2.2), s8.2.2.2.2 ++ [(⟨y11.1.1.kind, y11.1.1.name, y11.1.1.num, y11.1.1.decl, y11.1.1.list⟩ : VCond)]))
            else
              some (LO.out (s8.2.1, (s8.2.2.1.1, s8.2.2.1.2.1, s8.2.2.1.2.2.1, s8.2.2.1.2.2.2.1, s8.2.2.1.2.2.2.2), (s8.2.2.2.1.1, s8.2.2.2.1.2.1, s8.2.2.2.1.2.2.1, s8.2.2.2.1.2.2.2.1, s8.2.2.2.1.2.2.2.2), s8.2.2.2.2)) : Bool × Vcond_reader × (Int × Str × Int × Str × Bool) × (Int × Str × Int × Str × Bool) × List VCond → Option (LO (Bool × Vcond_reader × (Int × Str × Int × Str × Bool) × (Int × Str × Int × Str × Bool) × List VCond) (Vcond_reader × (Int × Str × Int × Str × Bool) × (Int × Str × Int × Str × Bool) × List VCond) _)) (y7.1, y7.2, (0, [], 0, [], false), (0, [], 0, [], false), [(⟨y6.1.1.kind, y6.1.1.name, y6.1.1.num, y6.1.1.decl, y6.1.1.list⟩ : VCond)]) fun o13 =>
        some (((⟨o13.2.2.1.1, o13.2.2.1.2.1, o13.2.2.1.2.2.1, (⟨o13.2.2.1.2.2.2.1, [], o13.2.2.1.2.2.2.2⟩ : VDecl), o13.2.2.2⟩ : VCond), true), o13.1)
noncomputable def cond_reader_told : Vcond_reader → Option ((VCond × Bool) × Vcond_reader) := recE (cond_reader_told_B)
noncomputable def nest_Depth (x : List VValue) : Option (Int × Int) :=
  bindO (nest_Check x) fun y1 =>
  bif y1 != 0 then
    some (0, y1)
  else
    bindO (nest_look (x, 0)) fun y2 =>
    some (y2.depth, 0)
noncomputable def cond_bare (x : VCond) : Option Bool :=
  some (bif bif bif bif x.name == [] then x.num == 0 else false then x.decl.name == [] else false then (x.decl.value.length : Int) == 0 else false then !x.decl.important else false)
noncomputable def cond_leaf (x : VCond) : Option Bool :=
  some (bif x.kind == 7 then true else x.kind == 8)
noncomputable def cond_look_B (cond_look : VCond × Int → Option ((Int × Bool) × Int)) (x : VCond × Int) : Option ((Int × Bool) × Int) :=
  bif decide (w64 (x.2 + 1) > 1500) then
    some ((0, false), w64 (x.2 + 1))
  else
    bif x.1.kind == 7 then
      bindO (nest_Depth x.1.decl.value) fun y1 =>
      bindO (condO (bif bif bif (x.1.list.length : Int) == 0 then x.1.name == [] else false then x.1.num == 0 else false then y1.2 == 0 else false) (decl_Check x.1.decl) (default : Int)) fun y2 =>
      some ((w64 (y1.1 + 1), bif bif bif bif (x.1.list.length : Int) == 0 then x.1.name == [] else false then x.1.num == 0 else false then y1.2 == 0 else false then y2 == 0 else false), w64 (x.2 + 1))
    else
      bif x.1.kind == 8 then
        bindO (condO ((x.1.list.length : Int) == 0) (cond_bare (⟨x.1.kind, x.1.name, x.1.num, x.1.decl, x.1.list⟩ : VCond)) (default : Bool)) fun y3 =>
        some ((1, bif (x.1.list.length : Int) == 0 then y3 else false), w64 (x.2 + 1))
      else
        joinK (X := Bool) (
            bif x.1.kind == 3 then
              some (LX.out (x.1.kind == 3))
            else
              bif x.1.kind == 1 then
                some (LX.out (x.1.kind == 1))
              else
                some (LX.out (x.1.kind == 2))) fun j4 =>
        bif j4 then
          bindO (cond_bare (⟨x.1.kind, x.1.name, x.1.num, x.1.decl, x.1.list⟩ : VCond)) fun y5 =>
          bif bif bif !y5 then true else bif x.1.kind == 3 then (x.1.list.length : Int) != 1 else false then true else bif x.1.kind != 3 then decide ((x.1.list.length : Int) < 2) else false then
            some ((0, false), w64 (x.2 + 1))
          else
            loopK (fun (s6 : (Int × Int) × Int) =>
                bif decide (s6.1.2 < (x.1.list.length : Int)) then
                  bindO (geti x.1.list s6.1.2) fun y7 =>
                  bindO (cond_look ((⟨y7.kind, y7.name, y7.num, y7.decl, y7.list⟩ : VCond), s6.2)) fun y8 =>
                  bif !y8.1.2 then
                    some (LO.ret ((0, false), y8.2))
                  else
                    joinK (X := Int × Int) (
                        bindO (cond_leaf (⟨y7.kind, y7.name, y7.num, y7.decl, y7.list⟩ : VCond)) fun y9 =>
                        bif !y9 then
                          some (LX.out (s6.1.1, w64 (y8.1.1 + 1)))
                        else
                          some (LX.out (s6.1.1, y8.1.1))) fun j10 =>
                    some (LO.again ((if j10.2 > j10.1 then j10.2 else j10.1, w64 (s6.1.2 + 1)), y8.2))
                else
                  some (LO.out (s6.1.1, s6.2)) : (Int × Int) × Int → Option (LO ((Int × Int) × Int) (Int × Int) _)) ((0, 0), w64 (x.2 + 1)) fun o11 =>
            some ((o11.1, true), o11.2)
        else
          some ((0, false), w64 (x.2 + 1))
noncomputable def cond_look : VCond × Int → Option ((Int × Bool) × Int) := recE (cond_look_B)
noncomputable def cond_CheckSupports (x : VCond) : Option Int :=
  bindO (cond_look ((⟨x.kind, x.name, x.num, x.decl, x.list⟩ : VCond), 0)) fun y1 =>
  bif bif !y1.1.2 then true else decide (y1.1.1 > 16) then
    some 8
  else
    some 0
noncomputable def cond_Supports (x : List VValue) : Option (VCond × Int) :=
  bindO (nest_Check x) fun y1 =>
  bif y1 != 0 then
    some ((⟨0, [], 0, (⟨[], [], false⟩ : VDecl), []⟩ : VCond), y1)
  else
    bindO (cond_reader_told (⟨x⟩ : Vcond_reader)) fun y2 =>
    bindO (condO (!(!y2.1.2)) (cond_CheckSupports (⟨y2.1.1.kind, y2.1.1.name, y2.1.1.num, y2.1.1.decl, y2.1.1.list⟩ : VCond)) (default : Int)) fun y3 =>
    bif bif !y2.1.2 then true else y3 != 0 then
      some ((⟨0, [], 0, (⟨[], [], false⟩ : VDecl), []⟩ : VCond), 12)
    else
      some ((⟨y2.1.1.kind, y2.1.1.name, y2.1.1.num, y2.1.1.decl, y2.1.1.list⟩ : VCond), 0)
noncomputable def ref05_marked (x : List VValue) : Option (List VValue × Bool) :=
  bindO (condO (!(decide (w64 ((x.length : Int) - 1) < 1))) (geti x (w64 ((x.length : Int) - 1))) (default : VValue)) fun y1 =>
  bindO (condO (!(bif decide (w64 ((x.length : Int) - 1) < 1) then true else y1.token.kind != 1)) (geti x (w64 ((x.length : Int) - 1))) (default : VValue)) fun y2 =>
  bindO (condO (!(bif decide (w64 ((x.length : Int) - 1) < 1) then true else y1.token.kind != 1)) (ref01_Alike (y2.token.text, [105, 109, 112, 111, 114, 116, 97, 110, 116])) (default : Bool)) fun y3 =>
  bif bif bif decide (w64 ((x.length : Int) - 1) < 1) then true else y1.token.kind != 1 then true else !y3 then
    some (x, false)
  else
    need (decide (0 ≤ w64 ((x.length : Int) - 1)) && decide (w64 ((x.length : Int) - 1) ≤ (x.length : Int))) <|
    bindO (ref04_Trimmed (List.take (w64 ((x.length : Int) - 1)).toNat x)) fun y4 =>
    bindO (condO (!((y4.length : Int) == 0)) (geti y4 (w64 ((y4.length : Int) - 1))) (default : VValue)) fun y5 =>
    bindO (condO (!(bif (y4.length : Int) == 0 then true else y5.token.kind != 9)) (geti y4 (w64 ((y4.length : Int) - 1))) (default : VValue)) fun y6 =>
    bif bif bif (y4.length : Int) == 0 then true else y5.token.kind != 9 then true else !(y6.token.text == [33]) then
      some (x, false)
    else
      need (decide (0 ≤ w64 ((y4.length : Int) - 1)) && decide (w64 ((y4.length : Int) - 1) ≤ (y4.length : Int))) <|
      bindO (ref04_Trimmed (List.take (w64 ((y4.length : Int) - 1)).toNat y4)) fun y7 =>
      some (y7, true)
noncomputable def ref05_Named (x : Str) : Option Bool :=
  bif bif decide ((x.length : Int) < 1) then true else decide ((x.length : Int) > 64) then
    some false
  else
    loopK (fun (s1 : Int) =>
        bif decide (s1 < (x.length : Int)) then
          bindO (geti x s1) fun y2 =>
          bif (y2.toNat : Int) == 0 then
            some (LO.ret false)
          else
            some (LO.again (w64 (s1 + 1)))
        else
          some (LO.out ()) : Int → Option (LO (Int) (Unit) _)) 0 fun o3 =>
    need (decide (2 ≤ (x.length : Int)) || !(decide ((x.length : Int) ≥ 2))) <|
    bif bif decide ((x.length : Int) ≥ 2) then List.take 2 x == [45, 45] else false then
      some (decide ((x.length : Int) > 2))
    else
      bindO (ref01_Lower x) fun y4 =>
      some (x == y4)
noncomputable def ref03_whole (x : Str) : Option Bool :=
  loopK (fun (s1 : Int) =>
      bif decide (s1 < (x.length : Int)) then
        bindO (geti x s1) fun y2 =>
        bif (y2.toNat : Int) == 0 then
          some (LO.ret false)
        else
          some (LO.again (w64 (s1 + 1)))
      else
        some (LO.out ()) : Int → Option (LO (Int) (Unit) _)) 0 fun o3 =>
  some true
noncomputable def ref02_Digit (x : Int) : Option Bool :=
  some (bif decide (x ≥ 48) then decide (x ≤ 57) else false)
noncomputable def ref03_Bare (x : Str) : Option Bool :=
  bif x == [] then
    some false
  else
    bindO (geti x 0) fun y1 =>
    bindO (ref02_Digit (y1.toNat : Int)) fun y2 =>
    bindO (condO (!(bif y2 then true else x == [45])) (geti x 0) 0) fun y3 =>
    bindO (condO ((y3.toNat : Int) == 45 && !(bif y2 then true else x == [45])) (geti x 1) 0) fun y4 =>
    bindO (condO ((y3.toNat : Int) == 45 && !(bif y2 then true else x == [45])) (ref02_Digit (y4.toNat : Int)) (default : Bool)) fun y5 =>
    some (bif bif y2 then true else x == [45] then true else bif (y3.toNat : Int) == 45 then y5 else false)
noncomputable def ref02_Space (x : Int) : Option Bool :=
  some (bif bif x == 10 then true else x == 9 then true else x == 32)
noncomputable def ref02_At (x : Str × Int) : Option Int :=
  bif decide (x.2 < (x.1.length : Int)) then
    bindO (geti x.1 x.2) fun y1 =>
    some (y1.toNat : Int)
  else
    some 0
noncomputable def ref02_spaces (x : Str × Int) : Option Int :=
  loopK (fun (s1 : Int) =>
      bindO (ref02_At (x.1, s1)) fun y2 =>
      bindO (ref02_Space y2) fun y3 =>
      bif y3 then
        some (LO.again (w64 (s1 + 1)))
      else
        some (LO.out s1) : Int → Option (LO (Int) (Int) _)) x.2 fun o4 =>
  some o4
noncomputable def ref02_lost (x : Unit) : Option Str :=
  some [(239 : UInt8), (191 : UInt8), (189 : UInt8)]
noncomputable def ref02_Hex (x : Int) : Option Int :=
  bindO (ref02_Digit x) fun y1 =>
  bif y1 then
    some (w64 (wu8 (x - 48)))
  else
    bindO (ref01_Small x) fun y2 =>
    bif bif decide (y2 ≥ 97) then decide (y2 ≤ 102) else false then
      some (w64 (w64 (wu8 (y2 - 97)) + 10))
    else
      some (-1)
noncomputable def ref02_UTF8 (x : Int) : Option Str :=
  bif bif bif x == 0 then true else bif decide (x ≥ 55296) then decide (x ≤ 57343) else false then true else decide (x > 1114111) then
    bindO (ref02_lost ()) fun y1 =>
    some y1
  else
    bif decide (x < 128) then
      bindO (byteO (wu8 x)) fun y2 =>
      some [y2]
    else
      bif decide (x < 2048) then
        bindO (byteO (wu8 (w64 (192 + w64 (Int.tdiv x 64))))) fun y3 =>
        bindO (byteO (wu8 (w64 (128 + Int.tmod x 64)))) fun y4 =>
        some [y3, y4]
      else
        bif decide (x < 65536) then
          bindO (byteO (wu8 (w64 (224 + w64 (Int.tdiv x 4096))))) fun y5 =>
          bindO (byteO (wu8 (w64 (128 + Int.tmod (w64 (Int.tdiv x 64)) 64)))) fun y6 =>
          bindO (byteO (wu8 (w64 (128 + Int.tmod x 64)))) fun y7 =>
          some [y5, y6, y7]
        else
          bindO (byteO (wu8 (w64 (240 + w64 (Int.tdiv x 262144))))) fun y8 =>
          bindO (byteO (wu8 (w64 (128 + Int.tmod (w64 (Int.tdiv x 4096)) 64)))) fun y9 =>
          bindO (byteO (wu8 (w64 (128 + Int.tmod (w64 (Int.tdiv x 64)) 64)))) fun y10 =>
          bindO (byteO (wu8 (w64 (128 + Int.tmod x 64)))) fun y11 =>
          some [y8, y9, y10, y11]
noncomputable def ref02_Escaped (x : Str × Int) : Option (Str × Int) :=
  bif decide (w64 (x.2 + 1) ≥ (x.1.length : Int)) then
    bindO (ref02_lost ()) fun y1 =>
    some (y1, w64 (x.2 + 1))
  else
    bindO (geti x.1 (w64 (x.2 + 1))) fun y2 =>
    bindO (ref02_Hex (y2.toNat : Int)) fun y3 =>
    bif decide (y3 < 0) then
      need (decide (0 ≤ w64 (x.2 + 1)) && (decide (w64 (x.2 + 1) ≤ w64 (w64 (x.2 + 1) + 1)) && decide (w64 (w64 (x.2 + 1) + 1) ≤ (x.1.length : Int)))) <|
      some (List.drop (w64 (x.2 + 1)).toNat (List.take (w64 (w64 (x.2 + 1) + 1)).toNat x.1), w64 (w64 (x.2 + 1) + 1))
    else
      loopK (fun (s4 : Int × Int) =>
          bindO (condO (bif decide (s4.2 < (x.1.length : Int)) then decide (s4.2 < w64 (w64 (x.2 + 1) + 6)) else false) (geti x.1 s4.2) 0) fun y5 =>
          bindO (condO (bif decide (s4.2 < (x.1.length : Int)) then decide (s4.2 < w64 (w64 (x.2 + 1) + 6)) else false) (ref02_Hex (y5.toNat : Int)) (default : Int)) fun y6 =>
          bif bif bif decide (s4.2 < (x.1.length : Int)) then decide (s4.2 < w64 (w64 (x.2 + 1) + 6)) else false then decide (y6 ≥ 0) else false then
            bindO (geti x.1 s4.2) fun y7 =>
            bindO (ref02_Hex (y7.toNat : Int)) fun y8 =>
            some (LO.again (w64 (w64 (16 * s4.1) + y8), w64 (s4.2 + 1)))
          else
            some (LO.out (s4.1, s4.2)) : Int × Int → Option (LO (Int × Int) (Int × Int) _)) (0, w64 (x.2 + 1)) fun o9 =>
      joinK (X := Int) (
          bindO (ref02_At (x.1, o9.2)) fun y10 =>
          bindO (ref02_Space y10) fun y11 =>
          bif y11 then
            some (LX.out (w64 (o9.2 + 1)))
          else
            some (LX.out o9.2)) fun j12 =>
      bindO (ref02_UTF8 o9.1) fun y13 =>
      some (y13, j12)
noncomputable def ref02_quoted (x : Str × Int) : Option (VToken × Int) :=
  bindO (geti x.1 x.2) fun y1 =>
  loopK (fun (s2 : Int × VToken × VToken) =>
      bif decide (s2.1 < (x.1.length : Int)) then
        bindO (geti x.1 s2.1) fun y3 =>
        bif (y3.toNat : Int) == (y1.toNat : Int) then
          some (LO.ret (s2.2.2, w64 (s2.1 + 1)))
        else
          bindO (geti x.1 s2.1) fun y4 =>
          bif (y4.toNat : Int) == 10 then
            some (LO.ret ((⟨6, [], 0, [], false⟩ : VToken), s2.1))
          else
            bindO (geti x.1 s2.1) fun y5 =>
            bif bif (y5.toNat : Int) == 92 then w64 (s2.1 + 1) == (x.1.length : Int) else false then
              some (LO.again (w64 (s2.1 + 1), s2.2.1, s2.2.2))
            else
              bindO (geti x.1 s2.1) fun y6 =>
              bindO (condO ((y6.toNat : Int) == 92) (geti x.1 (w64 (s2.1 + 1))) 0) fun y7 =>
              bif bif (y6.toNat : Int) == 92 then (y7.toNat : Int) == 10 else false then
                some (LO.again (w64 (s2.1 + 2), s2.2.1, s2.2.2))
              else
                bindO (geti x.1 s2.1) fun y8 =>
                bif (y8.toNat : Int) == 92 then
                  bindO (ref02_Escaped (x.1, s2.1)) fun y9 =>
                  need (decide (((s2.2.2.text.length + y9.1.length : Nat) : Int) ≤ 9223372036854775807)) <|
                  some (LO.again (y9.2, s2.2.1, (⟨s2.2.2.kind, s2.2.2.text ++ y9.1, s2.2.2.num, s2.2.2.unit, s2.2.2.flag⟩ : VToken)))
                else
                  need (decide (0 ≤ s2.1) && (decide (s2.1 ≤ w64 (s2.1 + 1)) && decide (w64 (s2.1 + 1) ≤ (x.1.length : Int)))) <|
                  need (decide (((s2.2.2.text.length + (List.drop s2.1.toNat (List.take (w64 (s2.1 + 1)).toNat x.1)).length : Nat) : Int) ≤ 9223372036854775807)) <|
                  some (LO.again (w64 (s2.1 + 1), s2.2.1, (⟨s2.2.2.kind, s2.2.2.text ++ List.drop s2.1.toNat (List.take (w64 (s2.1 + 1)).toNat x.1), s2.2.2.num, s2.2.2.unit, s2.2.2.flag⟩ : VToken)))
      else
        some (LO.out (s2.1, s2.2.1, s2.2.2)) : Int × VToken × VToken → Option (LO (Int × VToken × VToken) (Int × VToken × VToken) _)) (w64 (x.2 + 1), (⟨0, [], 0, [], false⟩ : VToken), (⟨5, [], 0, [], false⟩ : VToken)) fun o10 =>
  some (o10.2.2, o10.1)
noncomputable def ref02_Starts (x : Int) : Option Bool :=
  bindO (ref01_Small x) fun y1 =>
  some (bif bif bif decide (y1 ≥ 97) then decide (y1 ≤ 122) else false then true else x == 95 then true else decide (x ≥ 128))
noncomputable def ref02_Letter (x : Int) : Option Bool :=
  bindO (ref02_Starts x) fun y1 =>
  bindO (condO (!y1) (ref02_Digit x) (default : Bool)) fun y2 =>
  some (bif bif y1 then true else y2 then true else x == 45)
noncomputable def ref02_Escape (x : Str × Int) : Option Bool :=
  bindO (ref02_At (x.1, x.2)) fun y1 =>
  bindO (condO (y1 == 92) (ref02_At (x.1, w64 (x.2 + 1))) (default : Int)) fun y2 =>
  some (bif y1 == 92 then y2 != 10 else false)
noncomputable def ref02_Named (x : Str × Int) : Option (Str × Int) :=
  loopK (fun (s1 : Int × Str) =>
      bindO (condO (decide (s1.1 < (x.1.length : Int))) (geti x.1 s1.1) 0) fun y2 =>
      bindO (condO (decide (s1.1 < (x.1.length : Int))) (ref02_Letter (y2.toNat : Int)) (default : Bool)) fun y3 =>
      bif bif decide (s1.1 < (x.1.length : Int)) then y3 else false then
        need (decide (0 ≤ s1.1) && (decide (s1.1 ≤ w64 (s1.1 + 1)) && decide (w64 (s1.1 + 1) ≤ (x.1.length : Int)))) <|
        need (decide (((s1.2.length + (List.drop s1.1.toNat (List.take (w64 (s1.1 + 1)).toNat x.1)).length : Nat) : Int) ≤ 9223372036854775807)) <|
        some (LO.again (w64 (s1.1 + 1), s1.2 ++ List.drop s1.1.toNat (List.take (w64 (s1.1 + 1)).toNat x.1)))
      else
        bindO (condO (decide (s1.1 < (x.1.length : Int))) (ref02_Escape (x.1, s1.1)) (default : Bool)) fun y4 =>
        bif bif decide (s1.1 < (x.1.length : Int)) then y4 else false then
          bindO (ref02_Escaped (x.1, s1.1)) fun y5 =>
          need (decide (((s1.2.length + y5.1.length : Nat) : Int) ≤ 9223372036854775807)) <|
          some (LO.again (y5.2, s1.2 ++ y5.1))
        else
          some (LO.ret (s1.2, s1.1)) : Int × Str → Option (LO (Int × Str) (Unit) _)) (x.2, []) fun o6 =>
  none
noncomputable def ref02_NameAt (x : Str × Int) : Option Bool :=
  bindO (ref02_At (x.1, x.2)) fun y1 =>
  bif y1 == 45 then
    bindO (ref02_At (x.1, w64 (x.2 + 1))) fun y2 =>
    bindO (ref02_Starts y2) fun y3 =>
    bindO (condO (!y3) (ref02_At (x.1, w64 (x.2 + 1))) (default : Int)) fun y4 =>
    bindO (condO (!(bif y3 then true else y4 == 45)) (ref02_Escape (x.1, w64 (x.2 + 1))) (default : Bool)) fun y5 =>
    some (bif bif y3 then true else y4 == 45 then true else y5)
  else
    bindO (ref02_At (x.1, x.2)) fun y6 =>
    bindO (ref02_Starts y6) fun y7 =>
    bindO (condO (!y7) (ref02_Escape (x.1, x.2)) (default : Bool)) fun y8 =>
    some (bif y7 then true else y8)
noncomputable def ref02_NumberAt (x : Str × Int) : Option Bool :=
  joinK (X := Int) (
      bindO (ref02_At (x.1, x.2)) fun y1 =>
      bif bif y1 == 43 then true else y1 == 45 then
        some (LX.out (w64 (x.2 + 1)))
      else
        some (LX.out x.2)) fun j2 =>
  joinK (X := Int) (
      bindO (ref02_At (x.1, j2)) fun y3 =>
      bif y3 == 46 then
        some (LX.out (w64 (j2 + 1)))
      else
        some (LX.out j2)) fun j4 =>
  bindO (ref02_At (x.1, j4)) fun y5 =>
  bindO (ref02_Digit y5) fun y6 =>
  some y6
noncomputable def ref02_digits (x : Str × Int) : Option Int :=
  loopK (fun (s1 : Int) =>
      bindO (ref02_At (x.1, s1)) fun y2 =>
      bindO (ref02_Digit y2) fun y3 =>
      bif y3 then
        some (LO.again (w64 (s1 + 1)))
      else
        some (LO.out s1) : Int → Option (LO (Int) (Int) _)) x.2 fun o4 =>
  some o4
noncomputable def ref02_NumberEnd (x : Str × Int) : Option (Int × Bool) :=
  joinK (X := Int) (
      bindO (ref02_At (x.1, x.2)) fun y1 =>
      bif bif y1 == 43 then true else y1 == 45 then
        some (LX.out (w64 (x.2 + 1)))
      else
        some (LX.out x.2)) fun j2 =>
  bindO (ref02_digits (x.1, j2)) fun y3 =>
  joinK (X := Int × Bool) (
      bindO (ref02_At (x.1, y3)) fun y4 =>
      bindO (condO (y4 == 46) (ref02_At (x.1, w64 (y3 + 1))) (default : Int)) fun y5 =>
      bindO (condO (y4 == 46) (ref02_Digit y5) (default : Bool)) fun y6 =>
      bif bif y4 == 46 then y6 else false then
        bindO (ref02_digits (x.1, w64 (y3 + 1))) fun y7 =>
        some (LX.out (y7, false))
      else
        some (LX.out (y3, true))) fun j8 =>
  joinK (X := Int × Bool) (
      bindO (ref02_At (x.1, j8.1)) fun y9 =>
      bif bif y9 == 101 then true else y9 == 69 then
        joinK (X := Int × Bool × Int) (
            bindO (ref02_At (x.1, w64 (j8.1 + 1))) fun y10 =>
            bif bif y10 == 43 then true else y10 == 45 then
              some (LX.out (j8.1, j8.2, w64 (w64 (j8.1 + 1) + 1)))
            else
              some (LX.out (j8.1, j8.2, w64 (j8.1 + 1)))) fun j11 =>
        bindO (ref02_At (x.1, j11.2.2)) fun y12 =>
        bindO (ref02_Digit y12) fun y13 =>
        bif y13 then
          bindO (ref02_digits (x.1, j11.2.2)) fun y14 =>
          some (LX.out (y14, false))
        else
          some (LX.out (j11.1, j11.2.1))
      else
        some (LX.out (j8.1, j8.2))) fun j15 =>
  some (j15.1, j15.2)
noncomputable def ref02_Thousandths (x : Str) : Option Int :=
  bindO (geti x 0) fun y1 =>
  joinK (X := Str × Int × Int) (
      bindO (geti x 0) fun y2 =>
      bif bif (y2.toNat : Int) == 43 then true else (y1.toNat : Int) == 45 then
        some (LX.out ([], 3, 1))
      else
        some (LX.out ([], 3, 0))) fun j3 =>
  loopK (fun (s4 : Str × Int) =>
      bindO (ref02_At (x, s4.2)) fun y5 =>
      bindO (ref02_Digit y5) fun y6 =>
      bif y6 then
        need (decide (0 ≤ s4.2) && (decide (s4.2 ≤ w64 (s4.2 + 1)) && decide (w64 (s4.2 + 1) ≤ (x.length : Int)))) <|
        need (decide (((s4.1.length + (List.drop s4.2.toNat (List.take (w64 (s4.2 + 1)).toNat x)).length : Nat) : Int) ≤ 9223372036854775807)) <|
        some (LO.again (s4.1 ++ List.drop s4.2.toNat (List.take (w64 (s4.2 + 1)).toNat x), w64 (s4.2 + 1)))
      else
        some (LO.out (s4.1, s4.2)) : Str × Int → Option (LO (Str × Int) (Str × Int) _)) (j3.1, j3.2.2) fun o7 =>
  joinK (X := Str × Int × Int) (
      bindO (ref02_At (x, o7.2)) fun y8 =>
      bif y8 == 46 then
        loopK (fun (s9 : Str × Int × Int) =>
            bindO (ref02_At (x, s9.2.2)) fun y10 =>
            bindO (ref02_Digit y10) fun y11 =>
            bif y11 then
              need (decide (0 ≤ s9.2.2) && (decide (s9.2.2 ≤ w64 (s9.2.2 + 1)) && decide (w64 (s9.2.2 + 1) ≤ (x.length : Int)))) <|
              need (decide (((s9.1.length + (List.drop s9.2.2.toNat (List.take (w64 (s9.2.2 + 1)).toNat x)).length : Nat) : Int) ≤ 9223372036854775807)) <|
              some (LO.again (s9.1 ++ List.drop s9.2.2.toNat (List.take (w64 (s9.2.2 + 1)).toNat x), w64 (s9.2.1 - 1), w64 (s9.2.2 + 1)))
            else
              some (LO.out (s9.1, s9.2.1, s9.2.2)) : Str × Int × Int → Option (LO (Str × Int × Int) (Str × Int × Int) _)) (o7.1, j3.2.1, w64 (o7.2 + 1)) fun o12 =>
        some (LX.out (o12.1, o12.2.1, o12.2.2))
      else
        some (LX.out (o7.1, j3.2.1, o7.2))) fun j13 =>
  joinK (X := Int) (
      bif decide (j13.2.2 < (x.length : Int)) then
        bindO (geti x (w64 (j13.2.2 + 1))) fun y14 =>
        joinK (X := Int × Int) (
            bindO (geti x (w64 (j13.2.2 + 1))) fun y15 =>
            bif bif (y15.toNat : Int) == 43 then true else (y14.toNat : Int) == 45 then
              some (LX.out (j13.2.1, w64 (w64 (j13.2.2 + 1) + 1)))
            else
              some (LX.out (j13.2.1, w64 (j13.2.2 + 1)))) fun j16 =>
        loopK (fun (s17 : Int × Int) =>
            bif decide (s17.1 < (x.length : Int)) then
              bindO (geti x s17.1) fun y18 =>
              some (LO.again (w64 (s17.1 + 1), if w64 (w64 (10 * s17.2) + w64 (wu8 ((y18.toNat : Int) - 48))) < 10000 then w64 (w64 (10 * s17.2) + w64 (wu8 ((y18.toNat : Int) - 48))) else 10000))
            else
              some (LO.out s17.2) : Int × Int → Option (LO (Int × Int) (Int) _)) (j16.2, 0) fun o19 =>
        joinK (X := Int × Int) (
            bif (y14.toNat : Int) == 45 then
              some (LX.out (j16.1, w64 (0 - o19)))
            else
              some (LX.out (j16.1, o19))) fun j20 =>
        some (LX.out (w64 (j20.1 + j20.2)))
      else
        some (LX.out j13.2.1)) fun j21 =>
  loopK (fun (s22 : Int × Int) =>
      bif bif decide (s22.2 < w64 ((j13.1.length : Int) + j21)) then decide (s22.2 < (j13.1.length : Int)) else false then
        bindO (geti j13.1 s22.2) fun y23 =>
        some (LO.again (if w64 (w64 (10 * s22.1) + w64 (wu8 ((y23.toNat : Int) - 48))) < 1000000000000 then w64 (w64 (10 * s22.1) + w64 (wu8 ((y23.toNat : Int) - 48))) else 1000000000000, w64 (s22.2 + 1)))
      else
        some (LO.out s22.1) : Int × Int → Option (LO (Int × Int) (Int) _)) (0, 0) fun o24 =>
  loopK (fun (s25 : Int × Int) =>
      bif bif bif decide (s25.1 > 0) then decide (s25.2 > 0) else false then decide (s25.2 < 1000000000000) else false then
        some (LO.again (w64 (s25.1 - 1), if w64 (10 * s25.2) < 1000000000000 then w64 (10 * s25.2) else 1000000000000))
      else
        some (LO.out s25.2) : Int × Int → Option (LO (Int × Int) (Int) _)) (j21, o24) fun o26 =>
  bif (y1.toNat : Int) == 45 then
    some (w64 (0 - o26))
  else
    some o26
noncomputable def ref02_numeric (x : Str × Int) : Option (VToken × Int) :=
  bindO (ref02_NumberEnd (x.1, x.2)) fun y1 =>
  need (decide (0 ≤ x.2) && (decide (x.2 ≤ y1.1) && decide (y1.1 ≤ (x.1.length : Int)))) <|
  bindO (ref02_Thousandths (List.drop x.2.toNat (List.take y1.1.toNat x.1))) fun y2 =>
  joinK (X := Int × VToken × VToken) (
      bindO (ref02_NameAt (x.1, y1.1)) fun y3 =>
      bif y3 then
        bindO (ref02_Named (x.1, y1.1)) fun y4 =>
        some (LX.out (y4.2, (⟨0, [], 0, [], false⟩ : VToken), (⟨12, [], y2, y4.1, y1.2⟩ : VToken)))
      else
        bindO (ref02_At (x.1, y1.1)) fun y5 =>
        bif y5 == 37 then
          some (LX.out (w64 (y1.1 + 1), (⟨0, [], 0, [], false⟩ : VToken), (⟨11, [], y2, [], false⟩ : VToken)))
        else
          some (LX.out (y1.1, (⟨0, [], 0, [], false⟩ : VToken), (⟨10, [], y2, [], y1.2⟩ : VToken)))) fun j6 =>
  some (j6.2.2, j6.1)
noncomputable def ref02_has (x : Str × Int × Str) : Option Bool :=
  need (decide (0 ≤ x.2.1) && (decide (x.2.1 ≤ w64 (x.2.1 + (x.2.2.length : Int))) && decide (w64 (x.2.1 + (x.2.2.length : Int)) ≤ (x.1.length : Int))) || !(decide (w64 ((x.1.length : Int) - x.2.1) ≥ (x.2.2.length : Int)))) <|
  some (bif decide (w64 ((x.1.length : Int) - x.2.1) ≥ (x.2.2.length : Int)) then List.drop x.2.1.toNat (List.take (w64 (x.2.1 + (x.2.2.length : Int))).toNat x.1) == x.2.2 else false)
noncomputable def ref02_bad (x : Str × Int) : Option (VToken × Int) :=
  loopK (fun (s1 : Int) =>
      bindO (condO (decide (s1 < (x.1.length : Int))) (geti x.1 s1) 0) fun y2 =>
      bif bif decide (s1 < (x.1.length : Int)) then (y2.toNat : Int) != 41 else false then
        bindO (ref02_Escape (x.1, s1)) fun y3 =>
        bif y3 then
          bindO (ref02_Escaped (x.1, s1)) fun y4 =>
          some (LO.again y4.2)
        else
          some (LO.again (w64 (s1 + 1)))
      else
        some (LO.out s1) : Int → Option (LO (Int) (Int) _)) x.2 fun o5 =>
  some ((⟨8, [], 0, [], false⟩ : VToken), if w64 (o5 + 1) < (x.1.length : Int) then w64 (o5 + 1) else (x.1.length : Int))
noncomputable def ref02_Unprintable (x : Int) : Option Bool :=
  some (bif bif bif decide (x ≤ 8) then true else x == 11 then true else bif decide (x ≥ 14) then decide (x ≤ 31) else false then true else x == 127)
noncomputable def ref02_url (x : Str × Int) : Option (VToken × Int) :=
  bindO (ref02_spaces (x.1, x.2)) fun y1 =>
  loopK (fun (s2 : Int × VToken × VToken) =>
      bindO (condO (decide (s2.1 < (x.1.length : Int))) (geti x.1 s2.1) 0) fun y3 =>
      bif bif decide (s2.1 < (x.1.length : Int)) then (y3.toNat : Int) != 41 else false then
        bindO (geti x.1 s2.1) fun y4 =>
        bindO (ref02_Space (y4.toNat : Int)) fun y5 =>
        bif y5 then
          bindO (ref02_spaces (x.1, s2.1)) fun y6 =>
          bindO (condO (decide (y6 < (x.1.length : Int))) (geti x.1 y6) 0) fun y7 =>
          bif bif decide (y6 < (x.1.length : Int)) then (y7.toNat : Int) != 41 else false then
            bindO (ref02_bad (x.1, y6)) fun y8 =>
            some (LO.ret (y8.1, y8.2))
          else
            some (LO.again (y6, s2.2.1, s2.2.2))
        else
          bindO (condO (!(bif bif (y4.toNat : Int) == 34 then true else (y4.toNat : Int) == 39 then true else (y4.toNat : Int) == 40)) (ref02_Unprintable (y4.toNat : Int)) (default : Bool)) fun y9 =>
          bindO (condO ((y4.toNat : Int) == 92 && !(bif bif bif (y4.toNat : Int) == 34 then true else (y4.toNat : Int) == 39 then true else (y4.toNat : Int) == 40 then true else y9)) (ref02_Escape (x.1, s2.1)) (default : Bool)) fun y10 =>
          bif bif bif bif bif (y4.toNat : Int) == 34 then true else (y4.toNat : Int) == 39 then true else (y4.toNat : Int) == 40 then true else y9 then true else bif (y4.toNat : Int) == 92 then !y10 else false then
            bindO (ref02_bad (x.1, s2.1)) fun y11 =>
            some (LO.ret (y11.1, y11.2))
          else
            bif (y4.toNat : Int) == 92 then
              bindO (ref02_Escaped (x.1, s2.1)) fun y12 =>
              need (decide (((s2.2.2.text.length + y12.1.length : Nat) : Int) ≤ 9223372036854775807)) <|
              some (LO.again (y12.2, s2.2.1, (⟨s2.2.2.kind, s2.2.2.text ++ y12.1, s2.2.2.num, s2.2.2.unit, s2.2.2.flag⟩ : VToken)))
            else
              need (decide (0 ≤ s2.1) && (decide (s2.1 ≤ w64 (s2.1 + 1)) && decide (w64 (s2.1 + 1) ≤ (x.1.length : Int)))) <|
              need (decide (((s2.2.2.text.length + (List.drop s2.1.toNat (List.take (w64 (s2.1 + 1)).toNat x.1)).length : Nat) : Int) ≤ 9223372036854775807)) <|
              some (LO.again (w64 (s2.1 + 1), s2.2.1, (⟨s2.2.2.kind, s2.2.2.text ++ List.drop s2.1.toNat (List.take (w64 (s2.1 + 1)).toNat x.1), s2.2.2.num, s2.2.2.unit, s2.2.2.flag⟩ : VToken)))
      else
        some (LO.out (s2.1, s2.2.1, s2.2.2)) : Int × VToken × VToken → Option (LO (Int × VToken × VToken) (Int × VToken × VToken) _)) (y1, (⟨0, [], 0, [], false⟩ : VToken), (⟨7, [], 0, [], false⟩ : VToken)) fun o13 =>
  some (o13.2.2, if w64 (o13.1 + 1) < (x.1.length : Int) then w64 (o13.1 + 1) else (x.1.length : Int))
noncomputable def ref02_word (x : Str × Int) : Option (VToken × Int) :=
  bindO (ref02_Named (x.1, x.2)) fun y1 =>
  bindO (ref02_At (x.1, y1.2)) fun y2 =>
  bif y2 != 40 then
    some ((⟨1, y1.1, 0, [], false⟩ : VToken), y1.2)
  else
    joinK (X := VToken) (
        bindO (ref01_Alike (y1.1, [117, 114, 108])) fun y3 =>
        bif y3 then
          bindO (ref02_spaces (x.1, w64 (y1.2 + 1))) fun y4 =>
          bindO (ref02_At (x.1, y4)) fun y5 =>
          bif bif y5 != 34 then y5 != 39 else false then
            bindO (ref02_url (x.1, w64 (y1.2 + 1))) fun y6 =>
            some (LX.ret (y6.1, y6.2))
          else
            some (LX.out (⟨0, [], 0, [], false⟩ : VToken))
        else
          some (LX.out (⟨0, [], 0, [], false⟩ : VToken))) fun j7 =>
    some ((⟨2, y1.1, 0, [], false⟩ : VToken), w64 (y1.2 + 1))
noncomputable def ref02_mark (x : Int) : Option Int :=
  bif x == 58 then
    some 16
  else
    bif x == 59 then
      some 17
    else
      bif x == 44 then
        some 18
      else
        bif x == 91 then
          some 19
        else
          bif x == 93 then
            some 20
          else
            bif x == 40 then
              some 21
            else
              bif x == 41 then
                some 22
              else
                bif x == 123 then
                  some 23
                else
                  bif x == 125 then
                    some 24
                  else
                    some 0
noncomputable def ref02_One (x : Str × Int) : Option (VToken × Int) :=
  bindO (geti x.1 x.2) fun y1 =>
  bindO (ref02_Space (y1.toNat : Int)) fun y2 =>
  bif y2 then
    bindO (ref02_spaces (x.1, x.2)) fun y3 =>
    some ((⟨13, [], 0, [], false⟩ : VToken), y3)
  else
    bif bif (y1.toNat : Int) == 34 then true else (y1.toNat : Int) == 39 then
      bindO (ref02_quoted (x.1, x.2)) fun y4 =>
      some (y4.1, y4.2)
    else
      bindO (condO (decide (w64 (x.2 + 1) < (x.1.length : Int)) && (y1.toNat : Int) == 35) (geti x.1 (w64 (x.2 + 1))) 0) fun y5 =>
      bindO (condO (decide (w64 (x.2 + 1) < (x.1.length : Int)) && (y1.toNat : Int) == 35) (ref02_Letter (y5.toNat : Int)) (default : Bool)) fun y6 =>
      bindO (condO (!(bif decide (w64 (x.2 + 1) < (x.1.length : Int)) then y6 else false) && (y1.toNat : Int) == 35) (ref02_Escape (x.1, w64 (x.2 + 1))) (default : Bool)) fun y7 =>
      bif bif (y1.toNat : Int) == 35 then bif bif decide (w64 (x.2 + 1) < (x.1.length : Int)) then y6 else false then true else y7 else false then
        bindO (ref02_Named (x.1, w64 (x.2 + 1))) fun y8 =>
        bindO (ref02_NameAt (x.1, w64 (x.2 + 1))) fun y9 =>
        some ((⟨4, y8.1, 0, [], y9⟩ : VToken), y8.2)
      else
        bindO (ref02_NumberAt (x.1, x.2)) fun y10 =>
        bif y10 then
          bindO (ref02_numeric (x.1, x.2)) fun y11 =>
          some (y11.1, y11.2)
        else
          bindO (ref02_has (x.1, x.2, [45, 45, 62])) fun y12 =>
          bif y12 then
            some ((⟨15, [], 0, [], false⟩ : VToken), w64 (x.2 + 3))
          else
            bindO (ref02_has (x.1, x.2, [60, 33, 45, 45])) fun y13 =>
            bif y13 then
              some ((⟨14, [], 0, [], false⟩ : VToken), w64 (x.2 + 4))
            else
              bindO (condO ((y1.toNat : Int) == 64) (ref02_NameAt (x.1, w64 (x.2 + 1))) (default : Bool)) fun y14 =>
              bif bif (y1.toNat : Int) == 64 then y14 else false then
                bindO (ref02_Named (x.1, w64 (x.2 + 1))) fun y15 =>
                some ((⟨3, y15.1, 0, [], false⟩ : VToken), y15.2)
              else
                bindO (ref02_NameAt (x.1, x.2)) fun y16 =>
                bif y16 then
                  bindO (ref02_word (x.1, x.2)) fun y17 =>
                  some (y17.1, y17.2)
                else
                  bindO (ref02_mark (y1.toNat : Int)) fun y18 =>
                  bif y18 != 0 then
                    bindO (ref02_mark (y1.toNat : Int)) fun y19 =>
                    some ((⟨y19, [], 0, [], false⟩ : VToken), w64 (x.2 + 1))
                  else
                    need (decide (0 ≤ x.2) && (decide (x.2 ≤ w64 (x.2 + 1)) && decide (w64 (x.2 + 1) ≤ (x.1.length : Int)))) <|
                    some ((⟨9, List.drop x.2.toNat (List.take (w64 (x.2 + 1)).toNat x.1), 0, [], false⟩ : VToken), w64 (x.2 + 1))
noncomputable def ref03_Delim (x : Int) : Option Bool :=
  bindO (byteO x) fun y1 =>
  bindO (ref02_One ([y1, (10 : UInt8)], 0)) fun y2 =>
  some (bif bif bif bif decide (x ≥ 1) then decide (x ≤ 127) else false then x != 12 else false then x != 13 else false then y2.1.kind == 9 else false)
noncomputable def ref03_Fine (x : VToken) : Option Bool :=
  joinK (X := Bool × VToken) (
      bif x.kind == 1 then
        some (LX.out (x.kind == 1, x))
      else
        bif x.kind == 2 then
          some (LX.out (x.kind == 2, x))
        else
          some (LX.out (x.kind == 3, x))) fun j1 =>
  bif j1.1 then
    bindO (condO (!(x.text == [])) (ref03_whole x.text) (default : Bool)) fun y2 =>
    some (bif bif !(x.text == []) then y2 else false then j1.2.kind == x.kind && (([] : Str) == [] && (j1.2.num == 0 && (j1.2.unit == [] && (j1.2.flag == false && true)))) else false)
  else
    bif x.kind == 4 then
      bindO (condO (!(x.text == [])) (ref03_whole x.text) (default : Bool)) fun y3 =>
      bindO (condO (!x.flag && (bif !(x.text == []) then y3 else false)) (ref03_Bare x.text) (default : Bool)) fun y4 =>
      some (bif bif bif !(x.text == []) then y3 else false then bif x.flag then true else y4 else false then j1.2.kind == x.kind && (([] : Str) == [] && (j1.2.num == 0 && (j1.2.unit == [] && (false == false && true)))) else false)
    else
      joinK (X := Bool × VToken) (
          bif x.kind == 5 then
            some (LX.out (x.kind == 5, j1.2))
          else
            some (LX.out (x.kind == 7, j1.2))) fun j5 =>
      bif j5.1 then
        bindO (ref03_whole x.text) fun y6 =>
        some (bif y6 then j5.2.kind == x.kind && (([] : Str) == [] && (j5.2.num == 0 && (j5.2.unit == [] && (j5.2.flag == false && true)))) else false)
      else
        bif x.kind == 9 then
          bindO (condO ((x.text.length : Int) == 1) (geti x.text 0) 0) fun y7 =>
          bindO (condO ((x.text.length : Int) == 1) (ref03_Delim (y7.toNat : Int)) (default : Bool)) fun y8 =>
          some (bif bif (x.text.length : Int) == 1 then y8 else false then j5.2.kind == x.kind && (([] : Str) == [] && (j5.2.num == 0 && (j5.2.unit == [] && (j5.2.flag == false && true)))) else false)
        else
          joinK (X := Bool × VToken) (
              bif x.kind == 10 then
                some (LX.out (x.kind == 10, j5.2))
              else
                bif x.kind == 11 then
                  some (LX.out (x.kind == 11, j5.2))
                else
                  some (LX.out (x.kind == 12, j5.2))) fun j9 =>
          bif j9.1 then
            bindO (condO ((!(x.unit == [])) == (x.kind == 12)) (ref03_whole x.unit) (default : Bool)) fun y10 =>
            some (bif bif bif bif bif decide (x.num ≥ (-1000000000000)) then decide (x.num ≤ 1000000000000) else false then bif !x.flag then true else Int.tmod x.num 1000 == 0 else false then bif (!(x.unit == [])) == (x.kind == 12) then y10 else false else false then bif x.kind != 11 then true else !x.flag else false then j9.2.kind == x.kind && (j9.2.text == [] && (0 == 0 && (([] : Str) == [] && (false == false && true)))) else false)
          else
            joinK (X := Bool) (
                bif x.kind == 6 then
                  some (LX.out (x.kind == 6))
                else
                  some (LX.out (x.kind == 8))) fun j11 =>
            bif j11 then
              some false
            else
              some (bif bif decide (x.kind ≥ 1) then decide (x.kind ≤ 24) else false then x.kind == x.kind && (x.text == [] && (x.num == 0 && (x.unit == [] && (x.flag == false && true)))) else false)
noncomputable def ref03_Check (x : List VToken) : Option Int :=
  bif decide ((x.length : Int) > 1500) then
    some 4
  else
    loopK (fun (s1 : Int) =>
        bif decide (s1 < (x.length : Int)) then
          bindO (geti x s1) fun y2 =>
          bindO (ref03_Fine y2) fun y3 =>
          bif !y3 then
            some (LO.ret 8)
          else
            joinK (X := Unit) (
                bindO (geti x s1) fun y4 =>
                bindO (condO (y4.kind == 2) (geti x s1) (default : VToken)) fun y5 =>
                bindO (condO (y4.kind == 2) (ref01_Alike (y5.text, [117, 114, 108])) (default : Bool)) fun y6 =>
                bif bif y4.kind == 2 then y6 else false then
                  joinK (X := Int) (
                      bindO (condO (decide (w64 (s1 + 1) < (x.length : Int))) (geti x (w64 (s1 + 1))) (default : VToken)) fun y7 =>
                      bif bif decide (w64 (s1 + 1) < (x.length : Int)) then y7.kind == 13 else false then
                        some (LX.out (w64 (w64 (s1 + 1) + 1)))
                      else
                        some (LX.out (w64 (s1 + 1)))) fun j8 =>
                  bindO (condO (!(decide (j8 ≥ (x.length : Int)))) (geti x j8) (default : VToken)) fun y9 =>
                  bif bif decide (j8 ≥ (x.length : Int)) then true else y9.kind != 5 then
                    some (LX.ret (LO.ret 8))
                  else
                    some (LX.out ())
                else
                  some (LX.out ())) fun j10 =>
            bindO (geti x s1) fun y11 =>
            bindO (condO (y11.kind == 9) (geti x s1) (default : VToken)) fun y12 =>
            bindO (condO (!(w64 (s1 + 1) == (x.length : Int)) && (bif y11.kind == 9 then y12.text == [92] else false)) (geti x (w64 (s1 + 1))) (default : VToken)) fun y13 =>
            bif bif bif y11.kind == 9 then y12.text == [92] else false then bif w64 (s1 + 1) == (x.length : Int) then true else y13.kind != 13 else false then
              some (LO.ret 8)
            else
              some (LO.again (w64 (s1 + 1)))
        else
          some (LO.out ()) : Int → Option (LO (Int) (Unit) _)) 0 fun o14 =>
    some 0
noncomputable def ref05_closers_B (ref05_closers : List VValue → Option Bool) (x : List VValue) : Option Bool :=
  loopK (fun (s1 : Int) =>
      bif decide (s1 < (x.length : Int)) then
        bindO (geti x s1) fun y2 =>
        bindO (condO (!(bif bif y2.token.kind == 20 then true else y2.token.kind == 22 then true else y2.token.kind == 24)) (geti x s1) (default : VValue)) fun y3 =>
        bindO (condO (!(bif bif y2.token.kind == 20 then true else y2.token.kind == 22 then true else y2.token.kind == 24)) (ref05_closers y3.list) (default : Bool)) fun y4 =>
        bif bif bif bif y2.token.kind == 20 then true else y2.token.kind == 22 then true else y2.token.kind == 24 then true else y4 then
          some (LO.ret true)
        else
          some (LO.again (w64 (s1 + 1)))
      else
        some (LO.out ()) : Int → Option (LO (Int) (Unit) _)) 0 fun o5 =>
  some false
noncomputable def ref05_closers : List VValue → Option Bool := recE (ref05_closers_B)
noncomputable def ref05_Custom (x : Str) : Option Bool :=
  need (decide (2 ≤ (x.length : Int)) || !(decide ((x.length : Int) > 2))) <|
  some (bif decide ((x.length : Int) > 2) then List.take 2 x == [45, 45] else false)
noncomputable def ref05_Valued (x : Str × List VValue) : Option Bool :=
  bindO (ref04_Check x.2) fun y1 =>
  bindO (condO (!(y1 != 0)) (ref04_Tokens x.2) (default : List VToken)) fun y2 =>
  bindO (condO (!(y1 != 0)) (ref03_Check y2) (default : Int)) fun y3 =>
  bindO (condO (!(bif y1 != 0 then true else y3 != 0)) (ref05_closers x.2) (default : Bool)) fun y4 =>
  bif bif bif y1 != 0 then true else y3 != 0 then true else y4 then
    some false
  else
    bindO (ref04_Trimmed x.2) fun y5 =>
    bindO (condO ((x.2.length : Int) == 0 && !((y5.length : Int) != (x.2.length : Int))) (ref05_Custom x.1) (default : Bool)) fun y6 =>
    bif bif (y5.length : Int) != (x.2.length : Int) then true else bif (x.2.length : Int) == 0 then !y6 else false then
      some false
    else
      loopK (fun (s7 : Int) =>
          bif decide (s7 < (x.2.length : Int)) then
            bindO (geti x.2 s7) fun y8 =>
            bif bif y8.token.kind == 17 then true else bif y8.token.kind == 9 then y8.token.text == [33] else false then
              some (LO.ret false)
            else
              some (LO.again (w64 (s7 + 1)))
          else
            some (LO.out ()) : Int → Option (LO (Int) (Unit) _)) 0 fun o9 =>
      some true
noncomputable def ref05_Check (x : VDecl) : Option Int :=
  bindO (ref05_Named x.name) fun y1 =>
  bindO (condO (!(!y1)) (ref05_Valued (x.name, x.value)) (default : Bool)) fun y2 =>
  bif bif !y1 then true else !y2 then
    some 8
  else
    some 0
noncomputable def ref05_Read1 (x : List VValue) : Option (VDecl × Bool) :=
  bindO (ref04_Trimmed x) fun y1 =>
  bindO (condO (!((y1.length : Int) == 0)) (geti y1 0) (default : VValue)) fun y2 =>
  bif bif (y1.length : Int) == 0 then true else y2.token.kind != 1 then
    some ((⟨[], [], false⟩ : VDecl), false)
  else
    bindO (geti y1 0) fun y3 =>
    joinK (X := List VValue × (Str × Bool) × (Str × Bool)) (
        need (decide (2 ≤ (y3.token.text.length : Int)) || !(!(decide ((y3.token.text.length : Int) < 2)))) <|
        bif bif decide ((y3.token.text.length : Int) < 2) then true else !(List.take 2 y3.token.text == [45, 45]) then
          bindO (ref01_Lower y3.token.text) fun y4 =>
          some (LX.out (y1, ([], false), (y4, false)))
        else
          some (LX.out (y1, ([], false), (y3.token.text, false)))) fun j5 =>
    need (decide (1 ≤ (j5.1.length : Int))) <|
    bindO (ref04_Trimmed (List.drop 1 j5.1)) fun y6 =>
    bindO (condO (!((y6.length : Int) == 0)) (geti y6 0) (default : VValue)) fun y7 =>
    bif bif (y6.length : Int) == 0 then true else y7.token.kind != 16 then
      some ((⟨[], [], false⟩ : VDecl), false)
    else
      need (decide (1 ≤ (y6.length : Int))) <|
      bindO (ref04_Trimmed (List.drop 1 y6)) fun y8 =>
      bindO (ref05_marked y8) fun y9 =>
      bindO (ref05_Check (⟨j5.2.2.1, y9.1, y9.2⟩ : VDecl)) fun y10 =>
      bif y10 != 0 then
        some ((⟨[], [], false⟩ : VDecl), false)
      else
        some ((⟨j5.2.2.1, y9.1, y9.2⟩ : VDecl), true)
noncomputable def ref10_term (ref10_told : List VValue → Option (VCond × Bool)) (x : List VValue × Int) : Option (VCond × Bool) :=
  bindO (ref10_kind (x.1, x.2, 2)) fun y1 =>
  bif y1 then
    some ((⟨8, [], 0, (⟨[], [], false⟩ : VDecl), []⟩ : VCond), true)
  else
    bindO (ref10_kind (x.1, x.2, 21)) fun y2 =>
    bif !y2 then
      some ((⟨0, [], 0, (⟨[], [], false⟩ : VDecl), []⟩ : VCond), false)
    else
      bindO (geti x.1 x.2) fun y3 =>
      bindO (ref05_Read1 y3.list) fun y4 =>
      bif y4.2 then
        some ((⟨7, [], 0, y4.1, []⟩ : VCond), true)
      else
        bindO (geti x.1 x.2) fun y5 =>
        bindO (ref10_told y5.list) fun y6 =>
        bif y6.2 then
          some ((⟨y6.1.kind, y6.1.name, y6.1.num, y6.1.decl, y6.1.list⟩ : VCond), true)
        else
          some ((⟨8, [], 0, (⟨[], [], false⟩ : VDecl), []⟩ : VCond), true)
noncomputable def ref10_told_B (ref10_told : List VValue → Option (VCond × Bool)) (x : List VValue) : Option (VCond × Bool) :=
  bindO (ref04_Trimmed x) fun y1 =>
  bindO (ref10_word (y1, 0, [110, 111, 116])) fun y2 =>
  bif y2 then
    bindO (ref10_spaces (y1, 1)) fun y3 =>
    bindO (ref10_term ref10_told (y1, y3)) fun y4 =>
    some ((⟨3, [], 0, (⟨[], [], false⟩ : VDecl), [(⟨y4.1.kind, y4.1.name, y4.1.num, y4.1.decl, y4.1.list⟩ : VCond)]⟩ : VCond), bif bif y4.2 then decide (y3 > 1) else false then w64 (y3 + 1) == (y1.length : Int) else false)
  else
    bindO (ref10_term ref10_told (y1, 0)) fun y5 =>
    bif bif !y5.2 then true else (y1.length : Int) == 1 then
      some ((⟨y5.1.kind, y5.1.name, y5.1.num, y5.1.decl, y5.1.list⟩ : VCond), y5.2)
    else
      joinK (X := (Int × Str × Int × Str × Bool) × (Int × Str × Int × Str × Bool) × List VCond) (
          bindO (ref10_spaces (y1, 1)) fun y6 =>
          bindO (ref10_word (y1, y6, [111, 114])) fun y7 =>
          bif y7 then
            some (LX.out ((0, [], 0, [], false), (2, [], 0, [], false), [(⟨y5.1.kind, y5.1.name, y5.1.num, y5.1.decl, y5.1.list⟩ : VCond)]))
          else
            some (LX.out ((0, [], 0, [], false), (1, [], 0, [], false), [(⟨y5.1.kind, y5.1.name, y5.1.num, y5.1.decl, y5.1.list⟩ : VCond)]))) fun j8 =>
      loopK (fun (s9 : Int × (Int × Str × Int × Str × Bool) × (Int × Str × Int × Str × Bool) × List VCond) =>
          bif decide (s9.1 < (y1.length : Int)) then
            bindO (ref10_spaces (y1, s9.1)) fun y10 =>
            bindO (condO (s9.2.2.1.1 == 1 && !(y10 == s9.1)) (ref10_word (y1, y10, [97, 110, 100])) (default : Bool)) fun y11 =>
            bindO (condO (s9.2.2.1.1 == 2 && !(bif y10 == s9.1 then true else bif s9.2.2.1.1 == 1 then !y11 else false)) (ref10_word (y1, y10, [111, 114])) (default : Bool)) fun y12 =>
            bif bif bif y10 == s9.1 then true else bif s9.2.2.1.1 == 1 then !y11 else false then true else bif s9.2.2.1.1 == 2 then !y12 else false then
              some (LO.ret ((⟨0, [], 0, (⟨[], [], false⟩ : VDecl), []⟩ : VCond), false))
            else
              bindO (ref10_spaces (y1, w64 (y10 + 1))) fun y13 =>
              bindO (ref10_term ref10_told (y1, y13)) fun y14 =>
              bif bif !y14.2 then true else y13 == w64 (y10 + 1) then
                some (LO.ret ((⟨0, [], 0, (⟨[], [], false⟩ : VDecl), []⟩ : VCond), false))
              else
                need (appOk s9.2.2.2.length 1 104) <|
                some (LO.again (w64 (y13 + 1), (s9.2.1.1, s9.2.1.2.1, s9.2.1.2.2.1, s9.2.1.2.2.2.1, s9.2.1.2.2.2.2), (s9.2.2.1.1, s9.2.2.1.2.1, s9.2.2.1.2.2.1, s9.2.2.1.2.2.2.1, s9.2.2.1.2.2.2.2), s9.2.2.2 ++ [(⟨y14.1.kind, y14.1.name, y14.1.num, y14.1.decl, y14.1.list⟩ : VCond)]))
          else
            some (LO.out ((s9.2.1.1, s9.2.1.2.1, s9.2.1.2.2.1, s9.2.1.2.2.2.1, s9.2.1.2.2.2.2), (s9.2.2.1.1, s9.2.2.1.2.1, s9.2.2.1.2.2.1, s9.2.2.1.2.2.2.1, s9.2.2.1.2.2.2.2), s9.2.2.2)) : Int × (Int × Str × Int × Str × Bool) × (Int × Str × Int × Str × Bool) × List VCond → Option (LO (Int × (Int × Str × Int × Str × Bool) × (Int × Str × Int × Str × Bool) × List VCond) ((Int × Str × Int × Str × Bool) × (Int × Str × Int × Str × Bool) × List VCond) _)) (1, (j8.1.1, j8.1.2.1, j8.1.2.2.1, j8.1.2.2.2.1, j8.1.2.2.2.2), (j8.2.1.1, j8.2.1.2.1, j8.2.1.2.2.1, j8.2.1.2.2.2.1, j8.2.1.2.2.2.2), j8.2.2) fun o15 =>
      some ((⟨o15.2.1.1, o15.2.1.2.1, o15.2.1.2.2.1, (⟨o15.2.1.2.2.2.1, [], o15.2.1.2.2.2.2⟩ : VDecl), o15.2.2⟩ : VCond), true)
noncomputable def ref10_told : List VValue → Option (VCond × Bool) := recE (ref10_told_B)
noncomputable def ref10_Size_B (ref10_Size : VCond × Int → Option Int) (x : VCond × Int) : Option Int :=
  loopK (fun (s1 : Int × Int) =>
      bif bif decide (s1.2 < (x.1.list.length : Int)) then decide (s1.1 ≤ x.2) else false then
        bindO (geti x.1.list s1.2) fun y2 =>
        bindO (ref10_Size ((⟨y2.kind, y2.name, y2.num, y2.decl, y2.list⟩ : VCond), w64 (x.2 - s1.1))) fun y3 =>
        some (LO.again (w64 (s1.1 + y3), w64 (s1.2 + 1)))
      else
        some (LO.out s1.1) : Int × Int → Option (LO (Int × Int) (Int) _)) (1, 0) fun o4 =>
  some o4
noncomputable def ref10_Size : VCond × Int → Option Int := recE (ref10_Size_B)
noncomputable def ref10_Deep_B (ref10_Deep : VCond → Option Int) (x : VCond) : Option Int :=
  bif x.kind == 7 then
    bindO (ref04_Deep x.decl.value) fun y1 =>
    some (w64 (1 + y1))
  else
    bif x.kind == 8 then
      some 1
    else
      loopK (fun (s2 : Int × Int) =>
          bif decide (s2.2 < (x.list.length : Int)) then
            bindO (geti x.list s2.2) fun y3 =>
            joinK (X := Int × Int) (
                bif bif y3.kind == 7 then true else y3.kind == 8 then
                  some (LX.out (s2.1, 0))
                else
                  some (LX.out (s2.1, 1))) fun j4 =>
            bindO (geti x.list s2.2) fun y5 =>
            bindO (ref10_Deep (⟨y5.kind, y5.name, y5.num, y5.decl, y5.list⟩ : VCond)) fun y6 =>
            some (LO.again (if w64 (j4.2 + y6) > j4.1 then w64 (j4.2 + y6) else j4.1, w64 (s2.2 + 1)))
          else
            some (LO.out s2.1) : Int × Int → Option (LO (Int × Int) (Int) _)) (0, 0) fun o7 =>
      some o7
noncomputable def ref10_Deep : VCond → Option Int := recE (ref10_Deep_B)
noncomputable def ref10_plain (x : VDecl) : Option Bool :=
  some (bif bif x.name == [] then (x.value.length : Int) == 0 else false then !x.important else false)
noncomputable def ref10_listed (x : VCond) : Option Bool :=
  bindO (condO (bif x.name == [] then x.num == 0 else false) (ref10_plain x.decl) (default : Bool)) fun y1 =>
  some (bif bif x.name == [] then x.num == 0 else false then y1 else false)
noncomputable def ref10_supported_B (ref10_supported : VCond → Option Bool) (x : VCond) : Option Bool :=
  bif x.kind == 7 then
    bindO (condO (bif bif x.name == [] then x.num == 0 else false then (x.list.length : Int) == 0 else false) (ref05_Check x.decl) (default : Int)) fun y1 =>
    some (bif bif bif x.name == [] then x.num == 0 else false then (x.list.length : Int) == 0 else false then y1 == 0 else false)
  else
    bif x.kind == 8 then
      bindO (ref10_listed (⟨x.kind, x.name, x.num, x.decl, x.list⟩ : VCond)) fun y2 =>
      some (bif y2 then (x.list.length : Int) == 0 else false)
    else
      bif x.kind == 3 then
        bindO (ref10_listed (⟨x.kind, x.name, x.num, x.decl, x.list⟩ : VCond)) fun y3 =>
        bindO (condO (bif y3 then (x.list.length : Int) == 1 else false) (geti x.list 0) (default : VCond)) fun y4 =>
        bindO (condO (bif y3 then (x.list.length : Int) == 1 else false) (ref10_supported (⟨y4.kind, y4.name, y4.num, y4.decl, y4.list⟩ : VCond)) (default : Bool)) fun y5 =>
        some (bif bif y3 then (x.list.length : Int) == 1 else false then y5 else false)
      else
        joinK (X := Bool) (
            bif x.kind == 1 then
              some (LX.out (x.kind == 1))
            else
              some (LX.out (x.kind == 2))) fun j6 =>
        bif j6 then
          bindO (ref10_listed (⟨x.kind, x.name, x.num, x.decl, x.list⟩ : VCond)) fun y7 =>
          bif bif !y7 then true else decide ((x.list.length : Int) < 2) then
            some false
          else
            loopK (fun (s8 : Int) =>
                bif decide (s8 < (x.list.length : Int)) then
                  bindO (geti x.list s8) fun y9 =>
                  bindO (ref10_supported (⟨y9.kind, y9.name, y9.num, y9.decl, y9.list⟩ : VCond)) fun y10 =>
                  bif !y10 then
                    some (LO.ret false)
                  else
                    some (LO.again (w64 (s8 + 1)))
                else
                  some (LO.out ()) : Int → Option (LO (Int) (Unit) _)) 0 fun o11 =>
            some true
        else
          some false
noncomputable def ref10_supported : VCond → Option Bool := recE (ref10_supported_B)
noncomputable def ref10_Supportive (x : VCond) : Option Bool :=
  bindO (ref10_Size ((⟨x.kind, x.name, x.num, x.decl, x.list⟩ : VCond), 1500)) fun y1 =>
  bindO (condO (decide (y1 ≤ 1500)) (ref10_Deep (⟨x.kind, x.name, x.num, x.decl, x.list⟩ : VCond)) (default : Int)) fun y2 =>
  bindO (condO (bif decide (y1 ≤ 1500) then decide (y2 ≤ 16) else false) (ref10_supported (⟨x.kind, x.name, x.num, x.decl, x.list⟩ : VCond)) (default : Bool)) fun y3 =>
  some (bif bif decide (y1 ≤ 1500) then decide (y2 ≤ 16) else false then y3 else false)
noncomputable def ref10_Told (x : List VValue) : Option (VCond × Bool) :=
  bindO (ref10_told x) fun y1 =>
  bindO (condO y1.2 (ref10_Supportive (⟨y1.1.kind, y1.1.name, y1.1.num, y1.1.decl, y1.1.list⟩ : VCond)) (default : Bool)) fun y2 =>
  some ((⟨y1.1.kind, y1.1.name, y1.1.num, y1.1.decl, y1.1.list⟩ : VCond), bif y1.2 then y2 else false)
noncomputable def ref10_Supports (x : List VValue) : Option (VCond × Int) :=
  bindO (ref04_Check x) fun y1 =>
  bif y1 != 0 then
    some ((⟨0, [], 0, (⟨[], [], false⟩ : VDecl), []⟩ : VCond), y1)
  else
    bindO (ref10_Told x) fun y2 =>
    bif !y2.2 then
      some ((⟨0, [], 0, (⟨[], [], false⟩ : VDecl), []⟩ : VCond), 12)
    else
      some ((⟨y2.1.kind, y2.1.name, y2.1.num, y2.1.decl, y2.1.list⟩ : VCond), 0)
noncomputable def ref04_Same_B (ref04_Same : List VValue × List VValue → Option Bool) (x : List VValue × List VValue) : Option Bool :=
  bif (x.1.length : Int) != (x.2.length : Int) then
    some false
  else
    loopK (fun (s1 : Int) =>
        bif decide (s1 < (x.1.length : Int)) then
          bindO (geti x.1 s1) fun y2 =>
          bindO (geti x.2 s1) fun y3 =>
          bindO (condO (!(!(y2.token.kind == y3.token.kind && (y2.token.text == y3.token.text && (y2.token.num == y3.token.num && (y2.token.unit == y3.token.unit && (y2.token.flag == y3.token.flag && true))))))) (geti x.1 s1) (default : VValue)) fun y4 =>
          bindO (condO (!(!(y2.token.kind == y3.token.kind && (y2.token.text == y3.token.text && (y2.token.num == y3.token.num && (y2.token.unit == y3.token.unit && (y2.token.flag == y3.token.flag && true))))))) (geti x.2 s1) (default : VValue)) fun y5 =>
          bindO (condO (!(!(y2.token.kind == y3.token.kind && (y2.token.text == y3.token.text && (y2.token.num == y3.token.num && (y2.token.unit == y3.token.unit && (y2.token.flag == y3.token.flag && true))))))) (ref04_Same (y4.list, y5.list)) (default : Bool)) fun y6 =>
          bif bif !(y2.token.kind == y3.token.kind && (y2.token.text == y3.token.text && (y2.token.num == y3.token.num && (y2.token.unit == y3.token.unit && (y2.token.flag == y3.token.flag && true))))) then true else !y6 then
            some (LO.ret false)
          else
            some (LO.again (w64 (s1 + 1)))
        else
          some (LO.out ()) : Int → Option (LO (Int) (Unit) _)) 0 fun o7 =>
    some true
noncomputable def ref04_Same : List VValue × List VValue → Option Bool := recE (ref04_Same_B)
noncomputable def ref05_Same1 (x : VDecl × VDecl) : Option Bool :=
  bindO (condO (bif x.1.name == x.2.name then x.1.important == x.2.important else false) (ref04_Same (x.1.value, x.2.value)) (default : Bool)) fun y1 =>
  some (bif bif x.1.name == x.2.name then x.1.important == x.2.important else false then y1 else false)
noncomputable def ref10_Same_B (ref10_Same : VCond × VCond → Option Bool) (x : VCond × VCond) : Option Bool :=
  bindO (condO (!(bif bif x.1.kind != x.2.kind then true else !(x.1.name == x.2.name) then true else x.1.num != x.2.num)) (ref05_Same1 (x.1.decl, x.2.decl)) (default : Bool)) fun y1 =>
  bif bif bif bif bif x.1.kind != x.2.kind then true else !(x.1.name == x.2.name) then true else x.1.num != x.2.num then true else !y1 then true else (x.1.list.length : Int) != (x.2.list.length : Int) then
    some false
  else
    loopK (fun (s2 : Int) =>
        bif decide (s2 < (x.1.list.length : Int)) then
          bindO (geti x.1.list s2) fun y3 =>
          bindO (geti x.2.list s2) fun y4 =>
          bindO (ref10_Same ((⟨y3.kind, y3.name, y3.num, y3.decl, y3.list⟩ : VCond), (⟨y4.kind, y4.name, y4.num, y4.decl, y4.list⟩ : VCond))) fun y5 =>
          bif !y5 then
            some (LO.ret false)
          else
            some (LO.again (w64 (s2 + 1)))
        else
          some (LO.out ()) : Int → Option (LO (Int) (Unit) _)) 0 fun o6 =>
    some true
noncomputable def ref10_Same : VCond × VCond → Option Bool := recE (ref10_Same_B)
noncomputable def law10_CondReads (x : List VValue) : Option Bool :=
  bindO (ref04_Great x) fun y1 =>
  bif y1 then
    some true
  else
    bindO (cond_Media x) fun y2 =>
    bindO (ref10_Media x) fun y3 =>
    bindO (cond_Supports x) fun y4 =>
    bindO (ref10_Supports x) fun y5 =>
    bindO (ref10_Same ((⟨y2.1.kind, y2.1.name, y2.1.num, y2.1.decl, y2.1.list⟩ : VCond), (⟨y3.1.kind, y3.1.name, y3.1.num, y3.1.decl, y3.1.list⟩ : VCond))) fun y6 =>
    bindO (condO (bif y6 then y2.2 == y3.2 else false) (ref10_Same ((⟨y4.1.kind, y4.1.name, y4.1.num, y4.1.decl, y4.1.list⟩ : VCond), (⟨y5.1.kind, y5.1.name, y5.1.num, y5.1.decl, y5.1.list⟩ : VCond))) (default : Bool)) fun y7 =>
    some (bif bif bif y6 then y2.2 == y3.2 else false then y7 else false then y4.2 == y5.2 else false)
end Go.Lv.VT
