/- Texts. -/
import Derived.Test.YtnfhfeipljhciaaGreatTy
import Derived.Test.YtnfhfeipljhciaaGreatLf
namespace Go.Lv.VT
set_option maxRecDepth 100000
noncomputable def ref08_size_B (ref08_size : List VComplex × Int → Option Int) (x : List VComplex × Int) : Option Int :=
  loopK (fun (s1 : Int × Int) =>
      bif bif decide (s1.2 < (x.1.length : Int)) then decide (s1.1 ≤ x.2) else false then
        bindO (geti x.1 s1.2) fun y2 =>
        loopK (fun (s3 : Int × Int) =>
            bindO (geti x.1 s1.2) fun y4 =>
            bif bif decide (s3.2 < (y4.parts.length : Int)) then decide (s3.1 ≤ x.2) else false then
              bindO (geti x.1 s1.2) fun y5 =>
              bindO (geti y5.parts s3.2) fun y6 =>
              bindO (geti x.1 s1.2) fun y7 =>
              bindO (geti y7.parts s3.2) fun y8 =>
              loopK (fun (s9 : Int × Int) =>
                  bif bif decide (s9.2 < (y8.simples.length : Int)) then decide (s9.1 ≤ x.2) else false then
                    bindO (geti y8.simples s9.2) fun y10 =>
                    bindO (geti y8.simples s9.2) fun y11 =>
                    bindO (geti y8.simples s9.2) fun y12 =>
                    bindO (ref08_size (y12.list, w64 (x.2 - s9.1))) fun y13 =>
                    some (LO.again (w64 (s9.1 + w64 (w64 (w64 (1 + (y10.name.length : Int)) + (y11.value.length : Int)) + y13)), w64 (s9.2 + 1)))
                  else
                    some (LO.out s9.1) : Int × Int → Option (LO (Int × Int) (Int) _)) (w64 (s3.1 + w64 (1 + (y6.tag.length : Int))), 0) fun o14 =>
              some (LO.again (o14, w64 (s3.2 + 1)))
            else
              some (LO.out s3.1) : Int × Int → Option (LO (Int × Int) (Int) _)) (w64 (s1.1 + w64 (1 + (y2.combs.length : Int))), 0) fun o15 =>
        some (LO.again (o15, w64 (s1.2 + 1)))
      else
        some (LO.out s1.1) : Int × Int → Option (LO (Int × Int) (Int) _)) (0, 0) fun o16 =>
  some o16
noncomputable def ref08_size : List VComplex × Int → Option Int := recE (ref08_size_B)
noncomputable def ref08_Great (x : List VComplex) : Option Bool :=
  bindO (ref08_size (x, 600)) fun y1 =>
  some (decide (y1 > 600))
noncomputable def ref04_Size_B (ref04_Size : List VValue × Int → Option Int) (x : List VValue × Int) : Option Int :=
  loopK (fun (s1 : Int × Int) =>
      bif bif decide (s1.2 < (x.1.length : Int)) then decide (s1.1 ≤ x.2) else false then
        bindO (geti x.1 s1.2) fun y2 =>
        bindO (geti x.1 s1.2) fun y3 =>
        bindO (geti x.1 s1.2) fun y4 =>
        bindO (ref04_Size (y4.list, w64 (x.2 - s1.1))) fun y5 =>
        some (LO.again (w64 (s1.1 + w64 (w64 (w64 (1 + (y2.token.text.length : Int)) + (y3.token.unit.length : Int)) + y5)), w64 (s1.2 + 1)))
      else
        some (LO.out s1.1) : Int × Int → Option (LO (Int × Int) (Int) _)) (0, 0) fun o6 =>
  some o6
noncomputable def ref04_Size : List VValue × Int → Option Int := recE (ref04_Size_B)
noncomputable def ref04_Closer (x : Int) : Option Int :=
  bif x == 19 then
    some 20
  else
    joinK (X := Bool) (
        bif x == 21 then
          some (LX.out (x == 21))
        else
          some (LX.out (x == 2))) fun j1 =>
    bif j1 then
      some 22
    else
      bif x == 23 then
        some 24
      else
        some 0
noncomputable def ref04_Deep_B (ref04_Deep : List VValue → Option Int) (x : List VValue) : Option Int :=
  loopK (fun (s1 : Int × Int) =>
      bif decide (s1.2 < (x.length : Int)) then
        joinK (X := Int × Int) (
            bindO (geti x s1.2) fun y2 =>
            bindO (ref04_Closer y2.token.kind) fun y3 =>
            bif y3 != 0 then
              bindO (geti x s1.2) fun y4 =>
              bindO (ref04_Deep y4.list) fun y5 =>
              some (LX.out (if w64 (1 + y5) > s1.1 then w64 (1 + y5) else s1.1, s1.2))
            else
              some (LX.out (s1.1, s1.2))) fun j6 =>
        some (LO.again (j6.1, w64 (j6.2 + 1)))
      else
        some (LO.out s1.1) : Int × Int → Option (LO (Int × Int) (Int) _)) (0, 0) fun o7 =>
  some o7
noncomputable def ref04_Deep : List VValue → Option Int := recE (ref04_Deep_B)
noncomputable def ref05_Great (x : List VDecl) : Option Bool :=
  bif decide ((x.length : Int) > 40) then
    some true
  else
    loopK (fun (s1 : Int × Int) =>
        bif decide (s1.2 < (x.length : Int)) then
          bindO (geti x s1.2) fun y2 =>
          bindO (geti x s1.2) fun y3 =>
          bindO (ref04_Size (y3.value, 300)) fun y4 =>
          bindO (condO (!(decide (w64 (s1.1 + w64 ((y2.name.length : Int) + y4)) > 300))) (geti x s1.2) (default : VDecl)) fun y5 =>
          bindO (condO (!(decide (w64 (s1.1 + w64 ((y2.name.length : Int) + y4)) > 300))) (ref04_Deep y5.value) (default : Int)) fun y6 =>
          bif bif decide (w64 (s1.1 + w64 ((y2.name.length : Int) + y4)) > 300) then true else decide (y6 > 40) then
            some (LO.ret true)
          else
            some (LO.again (w64 (s1.1 + w64 ((y2.name.length : Int) + y4)), w64 (s1.2 + 1)))
        else
          some (LO.out ()) : Int × Int → Option (LO (Int × Int) (Unit) _)) (0, 0) fun o7 =>
    some false
noncomputable def ref10_Size_B (ref10_Size : VCond × Int → Option Int) (x : VCond × Int) : Option Int :=
  loopK (fun (s1 : Int × Int) =>
      bif bif decide (s1.2 < (x.1.list.length : Int)) then decide (s1.1 ≤ x.2) else false then
        bindO (geti x.1.list s1.2) fun y2 =>
        bindO (ref10_Size ((⟨y2.kind, y2.name, y2.num, y2.decl, y2.list⟩ : VCond), w64 (x.2 - s1.1))) fun y3 =>
        some (LO.again (w64 (s1.1 + y3), w64 (s1.2 + 1)))
      else
        some (LO.out s1.1) : Int × Int → Option (LO (Int × Int) (Int) _)) (1, 0) fun o4 =>
  some o4
noncomputable def ref10_Size : VCond × Int → Option Int := recE (ref10_Size_B)
noncomputable def ref10_long_B (ref10_long : VCond → Option Bool) (x : VCond) : Option Bool :=
  bindO (ref05_Great [x.decl]) fun y1 =>
  bif bif y1 then true else decide ((x.name.length : Int) > 200) then
    some true
  else
    loopK (fun (s2 : Int) =>
        bif decide (s2 < (x.list.length : Int)) then
          bindO (geti x.list s2) fun y3 =>
          bindO (ref10_long (⟨y3.kind, y3.name, y3.num, y3.decl, y3.list⟩ : VCond)) fun y4 =>
          bif y4 then
            some (LO.ret true)
          else
            some (LO.again (w64 (s2 + 1)))
        else
          some (LO.out ()) : Int → Option (LO (Int) (Unit) _)) 0 fun o5 =>
    some false
noncomputable def ref10_long : VCond → Option Bool := recE (ref10_long_B)
noncomputable def ref10_Great (x : VCond) : Option Bool :=
  bindO (ref10_Size ((⟨x.kind, x.name, x.num, x.decl, x.list⟩ : VCond), 100)) fun y1 =>
  bindO (condO (!(decide (y1 > 100))) (ref10_long (⟨x.kind, x.name, x.num, x.decl, x.list⟩ : VCond)) (default : Bool)) fun y2 =>
  some (bif decide (y1 > 100) then true else y2)
noncomputable def ref11_weighed_B (ref11_weighed : List VRule × Int → Option Bool) (x : List VRule × Int) : Option Bool :=
  bif bif x.2 == 0 then true else decide ((x.1.length : Int) > 70) then
    some true
  else
    loopK (fun (s1 : Int) =>
        bif decide (s1 < (x.1.length : Int)) then
          bindO (geti x.1 s1) fun y2 =>
          bindO (ref08_Great y2.selectors) fun y3 =>
          bindO (condO (!y3) (ref05_Great y2.decls) (default : Bool)) fun y4 =>
          bindO (condO (!(bif y3 then true else y4)) (ref10_Great (⟨y2.cond.kind, y2.cond.name, y2.cond.num, y2.cond.decl, y2.cond.list⟩ : VCond)) (default : Bool)) fun y5 =>
          bindO (condO (!(bif bif bif y3 then true else y4 then true else y5 then true else decide ((y2.names.length : Int) > 70))) (ref11_weighed (y2.rules, w64 (x.2 - 1))) (default : Bool)) fun y6 =>
          bif bif bif bif bif y3 then true else y4 then true else y5 then true else decide ((y2.names.length : Int) > 70) then true else y6 then
            some (LO.ret true)
          else
            loopK (fun (s7 : Int) =>
                bif decide (s7 < (y2.names.length : Int)) then
                  bindO (geti y2.names s7) fun y8 =>
                  bif decide ((y8.length : Int) > 20) then
                    some (LO.ret (LO.ret true))
                  else
                    some (LO.again (w64 (s7 + 1)))
                else
                  some (LO.out ()) : Int → Option (LO (Int) (Unit) _)) 0 fun o9 =>
            some (LO.again (w64 (s1 + 1)))
        else
          some (LO.out ()) : Int → Option (LO (Int) (Unit) _)) 0 fun o10 =>
    some false
noncomputable def ref11_weighed : List VRule × Int → Option Bool := recE (ref11_weighed_B)
noncomputable def ref11_Number_B (ref11_Number : List VRule → Option Int) (x : List VRule) : Option Int :=
  loopK (fun (s1 : Int × Int) =>
      bif decide (s1.2 < (x.length : Int)) then
        bindO (geti x s1.2) fun y2 =>
        bindO (ref11_Number y2.rules) fun y3 =>
        some (LO.again (w64 (s1.1 + y3), w64 (s1.2 + 1)))
      else
        some (LO.out s1.1) : Int × Int → Option (LO (Int × Int) (Int) _)) ((x.length : Int), 0) fun o4 =>
  some o4
noncomputable def ref11_Number : List VRule → Option Int := recE (ref11_Number_B)
noncomputable def ref11_Great (x : List VRule) : Option Bool :=
  bindO (ref11_weighed (x, 30)) fun y1 =>
  bindO (condO (!y1) (ref11_Number x) (default : Int)) fun y2 =>
  some (bif y1 then true else decide (y2 > 70))
noncomputable def strings_IndexByte (x : Str × Int) : Option Int :=
  bindO (idxByte (x.1, x.2)) fun y1 =>
  some y1
noncomputable def sheet_named_1 (x : Str) : Option Bool :=
  bindO (condO (!(bif x == [] then true else decide ((x.length : Int) > 64))) (strings_IndexByte (x, 0)) (default : Int)) fun y1 =>
  some (bif bif x == [] then true else decide ((x.length : Int) > 64) then true else decide (y1 ≥ 0))
noncomputable def slices_IndexFunc_string_2 (x : List Str) : Option Int :=
  loopK (fun (s1 : Int) =>
      bif decide (s1 < (x.length : Int)) then
        bindO (geti x s1) fun y2 =>
        bindO (sheet_named_1 y2) fun y3 =>
        bif y3 then
          some (LO.ret s1)
        else
          some (LO.again (w64 (s1 + 1)))
      else
        some (LO.out ()) : Int → Option (LO (Int) (Unit) _)) 0 fun o4 =>
  some (-1)
noncomputable def slices_ContainsFunc_string_2 (x : List Str) : Option Bool :=
  bindO (slices_IndexFunc_string_2 x) fun y1 =>
  some (decide (y1 ≥ 0))
noncomputable def sheet_named (x : List Str) : Option Bool :=
  bindO (condO (bif decide ((x.length : Int) > 0) then decide ((x.length : Int) ≤ 16) else false) (slices_ContainsFunc_string_2 x) (default : Bool)) fun y1 =>
  some (bif bif decide ((x.length : Int) > 0) then decide ((x.length : Int) ≤ 16) else false then !y1 else false)
noncomputable def sheet_look_1 (x : List Str) : Option Bool :=
  bindO (sheet_named x) fun y1 =>
  some (!y1)
noncomputable def slices_IndexFunc_string (x : List (List Str)) : Option Int :=
  loopK (fun (s1 : Int) =>
      bif decide (s1 < (x.length : Int)) then
        bindO (geti x s1) fun y2 =>
        bindO (sheet_look_1 y2) fun y3 =>
        bif y3 then
          some (LO.ret s1)
        else
          some (LO.again (w64 (s1 + 1)))
      else
        some (LO.out ()) : Int → Option (LO (Int) (Unit) _)) 0 fun o4 =>
  some (-1)
noncomputable def slices_ContainsFunc_string (x : List (List Str)) : Option Bool :=
  bindO (slices_IndexFunc_string x) fun y1 =>
  some (decide (y1 ≥ 0))
noncomputable def sheet_selected_B (sheet_selected : List VComplex → Option Int) (x : List VComplex) : Option Int :=
  loopK (fun (s1 : Int × Int) =>
      bif decide (s1.2 < (x.length : Int)) then
        bindO (geti x s1.2) fun y2 =>
        loopK (fun (s3 : Int × Int) =>
            bif decide (s3.2 < (y2.parts.length : Int)) then
              bindO (geti y2.parts s3.2) fun y4 =>
              loopK (fun (s5 : Int × Int) =>
                  bif decide (s5.2 < (y4.simples.length : Int)) then
                    joinK (X := Int × Int) (
                        bindO (geti y4.simples s5.2) fun y6 =>
                        bif bif y6.kind == 3 then true else bif decide (y6.kind ≥ 9) then !(bif bif bif y6.kind == 9 then true else y6.kind == 10 then !y6.of_ else false then y6.anb.a == 0 && (y6.anb.b == 1 && true) else false) else false then
                          bindO (sheet_selected y6.list) fun y7 =>
                          some (LX.out (if w64 (y7 + 1) > s5.1 then w64 (y7 + 1) else s5.1, s5.2))
                        else
                          some (LX.out (s5.1, s5.2))) fun j8 =>
                    some (LO.again (j8.1, w64 (j8.2 + 1)))
                  else
                    some (LO.out s5.1) : Int × Int → Option (LO (Int × Int) (Int) _)) (s3.1, 0) fun o9 =>
              some (LO.again (o9, w64 (s3.2 + 1)))
            else
              some (LO.out s3.1) : Int × Int → Option (LO (Int × Int) (Int) _)) (s1.1, 0) fun o10 =>
        some (LO.again (o10, w64 (s1.2 + 1)))
      else
        some (LO.out s1.1) : Int × Int → Option (LO (Int × Int) (Int) _)) (0, 0) fun o11 =>
  some o11
noncomputable def sheet_selected : List VComplex → Option Int := recE (sheet_selected_B)
noncomputable def seltext_zero (x : Str × Int) : Option Bool :=
  bindO (condO (!(decide ((x.1.length : Int) > x.2))) (strings_IndexByte (x.1, 0)) (default : Int)) fun y1 =>
  some (bif decide ((x.1.length : Int) > x.2) then true else decide (y1 ≥ 0))
noncomputable def seltext_named (x : Str) : Option Bool :=
  bindO (condO (!(x == [])) (seltext_zero (x, 64)) (default : Bool)) fun y1 =>
  some (bif !(x == []) then !y1 else false)
noncomputable def input_Lower (x : Str) : Option Str :=
  need (decide (x.length ≤ maxLen)) <|
  loopK (fun (s1 : Int × List UInt8) =>
      bif decide (s1.1 < (x.length : Int)) then
        joinK (X := Int × List UInt8) (
            need (decide (0 ≤ s1.1) && decide (s1.1 < (s1.2.length : Int))) <|
            bindO s1.2[s1.1.toNat]? fun y2 =>
            bif bif decide (65 ≤ (y2.toNat : Int)) then decide ((y2.toNat : Int) ≤ 90) else false then
              need (decide (0 ≤ s1.1) && decide (s1.1 < (s1.2.length : Int))) <|
              bindO s1.2[s1.1.toNat]? fun y3 =>
              need (decide (0 ≤ s1.1) && decide (s1.1 < (s1.2.length : Int))) <|
              bindO s1.2[s1.1.toNat]? fun y4 =>
              bindO (byteO (ibOr IntKind.u8 (y3.toNat : Int) 32)) fun y5 =>
              some (LX.out (s1.1, List.set s1.2 s1.1.toNat y5))
            else
              some (LX.out (s1.1, s1.2))) fun j6 =>
        some (LO.again (w64 (j6.1 + 1), j6.2))
      else
        some (LO.out s1.2) : Int × List UInt8 → Option (LO (Int × List UInt8) (List UInt8) _)) (0, x) fun o7 =>
  some o7
noncomputable def seltext_small (x : Str) : Option Bool :=
  bindO (seltext_named x) fun y1 =>
  bindO (condO y1 (input_Lower x) (default : Str)) fun y2 =>
  some (bif y1 then y2 == x else false)
noncomputable def seltext_lists (x : VSimple) : Option (Bool × Bool) :=
  joinK (X := Bool) (
      bif x.kind == 9 then
        some (LX.out (x.kind == 9))
      else
        some (LX.out (x.kind == 10))) fun j1 =>
  bif j1 then
    some (x.of_, false)
  else
    joinK (X := Bool) (
        bif x.kind == 11 then
          some (LX.out (x.kind == 11))
        else
          some (LX.out (x.kind == 12))) fun j2 =>
    bif j2 then
      some (true, true)
    else
      joinK (X := Bool) (
          bif x.kind == 13 then
            some (LX.out (x.kind == 13))
          else
            some (LX.out (x.kind == 14))) fun j3 =>
      bif j3 then
        some (true, false)
      else
        some (false, true)
noncomputable def seltext_place_in (x : Vseltext_place × Int) : Option (Vseltext_place × Bool) :=
  bif bif x.1.deep == 3 then true else bif x.1.has then x.2 == 14 else false then
    some ((⟨0, false⟩ : Vseltext_place), false)
  else
    some ((⟨w64 (x.1.deep + 1), bif x.1.has then true else x.2 == 14⟩ : Vseltext_place), true)
noncomputable def anb_within (x : Int) : Option Bool :=
  some (bif decide ((-1000000000) ≤ x) then decide (x ≤ 1000000000) else false)
noncomputable def anb_Check (x : VAnb) : Option Int :=
  bindO (anb_within x.a) fun y1 =>
  bindO (condO (!(!y1)) (anb_within x.b) (default : Bool)) fun y2 =>
  bif bif !y1 then true else !y2 then
    some 8
  else
    some 0
noncomputable def seltext_simple_1 (seltext_whole : VComplex × Vseltext_place × Bool → Option Bool) (x : VComplex × Vseltext_place × VSimple) : Option Bool :=
  bindO (seltext_whole ((⟨x.1.lead, x.1.parts, x.1.combs⟩ : VComplex), x.2.1, x.2.2.kind == 14)) fun y1 =>
  some (!y1)
noncomputable def slices_IndexFunc_Complex_2 (seltext_whole : VComplex × Vseltext_place × Bool → Option Bool) (x : List VComplex × Vseltext_place × VSimple) : Option Int :=
  loopK (fun (s1 : Int) =>
      bif decide (s1 < (x.1.length : Int)) then
        bindO (geti x.1 s1) fun y2 =>
        bindO (seltext_simple_1 seltext_whole ((⟨y2.lead, y2.parts, y2.combs⟩ : VComplex), x.2.1, (⟨x.2.2.kind, x.2.2.name, x.2.2.op, x.2.2.value, x.2.2.fold, x.2.2.anb, x.2.2.of_, x.2.2.list⟩ : VSimple))) fun y3 =>
        bif y3 then
          some (LO.ret s1)
        else
          some (LO.again (w64 (s1 + 1)))
      else
        some (LO.out ()) : Int → Option (LO (Int) (Unit) _)) 0 fun o4 =>
  some (-1)
noncomputable def slices_ContainsFunc_Complex_2 (seltext_whole : VComplex × Vseltext_place × Bool → Option Bool) (x : List VComplex × Vseltext_place × VSimple) : Option Bool :=
  bindO (slices_IndexFunc_Complex_2 seltext_whole (x.1, x.2.1, (⟨x.2.2.kind, x.2.2.name, x.2.2.op, x.2.2.value, x.2.2.fold, x.2.2.anb, x.2.2.of_, x.2.2.list⟩ : VSimple))) fun y1 =>
  some (decide (y1 ≥ 0))
noncomputable def seltext_simple (seltext_whole : VComplex × Vseltext_place × Bool → Option Bool) (x : VSimple × Vseltext_place) : Option Bool :=
  bindO (seltext_lists (⟨x.1.kind, x.1.name, x.1.op, x.1.value, x.1.fold, x.1.anb, x.1.of_, x.1.list⟩ : VSimple)) fun y1 =>
  joinK (X := Unit) (
      bif y1.1 then
        bindO (seltext_place_in (x.2, x.1.kind)) fun y2 =>
        bindO (condO (!(bif !y2.2 then true else bif !y1.2 then (x.1.list.length : Int) == 0 else false)) (slices_ContainsFunc_Complex_2 seltext_whole (x.1.list, y2.1, (⟨x.1.kind, x.1.name, x.1.op, x.1.value, x.1.fold, x.1.anb, x.1.of_, x.1.list⟩ : VSimple))) (default : Bool)) fun y3 =>
        bif bif bif !y2.2 then true else bif !y1.2 then (x.1.list.length : Int) == 0 else false then true else y3 then
          some (LX.ret false)
        else
          some (LX.out ())
      else
        bif decide ((x.1.list.length : Int) > 0) then
          some (LX.ret false)
        else
          some (LX.out ())) fun j4 =>
  bif bif bif !(x.1.kind == 3) then bif bif x.1.op != 0 then true else !(x.1.value == []) then true else x.1.fold else false then true else bif !(bif x.1.kind == 9 then true else x.1.kind == 10) then bif x.1.of_ then true else !(x.1.anb.a == 0 && (x.1.anb.b == 0 && true)) else false then
    some false
  else
    joinK (X := Bool) (
        bif x.1.kind == 1 then
          some (LX.out (x.1.kind == 1))
        else
          some (LX.out (x.1.kind == 2))) fun j5 =>
    bif j5 then
      bindO (seltext_named x.1.name) fun y6 =>
      some y6
    else
      bif x.1.kind == 3 then
        bindO (seltext_small x.1.name) fun y7 =>
        bindO (condO (bif y7 then decide (x.1.op ≤ 6) else false) (seltext_zero (x.1.value, 400)) (default : Bool)) fun y8 =>
        some (bif bif bif y7 then decide (x.1.op ≤ 6) else false then !y8 else false then bif x.1.op != 0 then true else bif x.1.value == [] then !x.1.fold else false else false)
      else
        bindO (condO (!(!(bif x.1.kind == 9 then true else x.1.kind == 10)) && (bif bif x.1.name == [] then decide (x.1.kind ≥ 4) else false then decide (x.1.kind ≤ 14) else false)) (anb_Check x.1.anb) (default : Int)) fun y9 =>
        some (bif bif bif x.1.name == [] then decide (x.1.kind ≥ 4) else false then decide (x.1.kind ≤ 14) else false then bif !(bif x.1.kind == 9 then true else x.1.kind == 10) then true else y9 == 0 else false)
noncomputable def seltext_compound (seltext_whole : VComplex × Vseltext_place × Bool → Option Bool) (x : VCompound × Vseltext_place) : Option Bool :=
  bindO (condO (bif !(x.1.tag == []) then !(x.1.tag == [42]) else false) (seltext_small x.1.tag) (default : Bool)) fun y1 =>
  bif bif bif bif !(x.1.tag == []) then !(x.1.tag == [42]) else false then !y1 else false then true else decide ((x.1.simples.length : Int) > 64) then
    some false
  else
    loopK (fun (s2 : Int) =>
        bif decide (s2 < (x.1.simples.length : Int)) then
          bindO (geti x.1.simples s2) fun y3 =>
          bindO (seltext_simple seltext_whole ((⟨y3.kind, y3.name, y3.op, y3.value, y3.fold, y3.anb, y3.of_, y3.list⟩ : VSimple), x.2)) fun y4 =>
          bif !y4 then
            some (LO.ret false)
          else
            some (LO.again (w64 (s2 + 1)))
        else
          some (LO.out ()) : Int → Option (LO (Int) (Unit) _)) 0 fun o5 =>
    some (bif !(x.1.tag == []) then true else decide ((x.1.simples.length : Int) > 0))
noncomputable def seltext_whole_1 (seltext_whole : VComplex × Vseltext_place × Bool → Option Bool) (x : VCompound × Vseltext_place) : Option Bool :=
  bindO (seltext_compound seltext_whole ((⟨x.1.tag, x.1.simples⟩ : VCompound), x.2)) fun y1 =>
  some (!y1)
noncomputable def slices_IndexFunc_Compound (seltext_whole : VComplex × Vseltext_place × Bool → Option Bool) (x : List VCompound × Vseltext_place) : Option Int :=
  loopK (fun (s1 : Int) =>
      bif decide (s1 < (x.1.length : Int)) then
        bindO (geti x.1 s1) fun y2 =>
        bindO (seltext_whole_1 seltext_whole ((⟨y2.tag, y2.simples⟩ : VCompound), x.2)) fun y3 =>
        bif y3 then
          some (LO.ret s1)
        else
          some (LO.again (w64 (s1 + 1)))
      else
        some (LO.out ()) : Int → Option (LO (Int) (Unit) _)) 0 fun o4 =>
  some (-1)
noncomputable def slices_ContainsFunc_Compound (seltext_whole : VComplex × Vseltext_place × Bool → Option Bool) (x : List VCompound × Vseltext_place) : Option Bool :=
  bindO (slices_IndexFunc_Compound seltext_whole (x.1, x.2)) fun y1 =>
  some (decide (y1 ≥ 0))
noncomputable def seltext_whole_B (seltext_whole : VComplex × Vseltext_place × Bool → Option Bool) (x : VComplex × Vseltext_place × Bool) : Option Bool :=
  bif bif bif bif !(x.2.2 == (x.1.lead != 0)) then true else decide (x.1.lead > 4) then true else w64 ((x.1.combs.length : Int) + 1) != (x.1.parts.length : Int) then true else decide ((x.1.parts.length : Int) > 64) then
    some false
  else
    loopK (fun (s1 : Int) =>
        bif decide (s1 < (x.1.combs.length : Int)) then
          bindO (geti x.1.combs s1) fun y2 =>
          bif bif decide ((y2.toNat : Int) < 1) then true else decide ((y2.toNat : Int) > 4) then
            some (LO.ret false)
          else
            some (LO.again (w64 (s1 + 1)))
        else
          some (LO.out ()) : Int → Option (LO (Int) (Unit) _)) 0 fun o3 =>
    bindO (slices_ContainsFunc_Compound seltext_whole (x.1.parts, x.2.1)) fun y4 =>
    some (!y4)
noncomputable def seltext_whole : VComplex × Vseltext_place × Bool → Option Bool := recE (seltext_whole_B)
noncomputable def seltext_Check_1 (x : VComplex) : Option Bool :=
  bindO (seltext_whole ((⟨x.lead, x.parts, x.combs⟩ : VComplex), (⟨0, false⟩ : Vseltext_place), false)) fun y1 =>
  some (!y1)
noncomputable def slices_IndexFunc_Complex (x : List VComplex) : Option Int :=
  loopK (fun (s1 : Int) =>
      bif decide (s1 < (x.length : Int)) then
        bindO (geti x s1) fun y2 =>
        bindO (seltext_Check_1 (⟨y2.lead, y2.parts, y2.combs⟩ : VComplex)) fun y3 =>
        bif y3 then
          some (LO.ret s1)
        else
          some (LO.again (w64 (s1 + 1)))
      else
        some (LO.out ()) : Int → Option (LO (Int) (Unit) _)) 0 fun o4 =>
  some (-1)
noncomputable def slices_ContainsFunc_Complex (x : List VComplex) : Option Bool :=
  bindO (slices_IndexFunc_Complex x) fun y1 =>
  some (decide (y1 ≥ 0))
noncomputable def seltext_count_B (seltext_count : List VComplex → Option Int) (x : List VComplex) : Option Int :=
  loopK (fun (s1 : Int × Int) =>
      bif decide (s1.2 < (x.length : Int)) then
        bindO (geti x s1.2) fun y2 =>
        loopK (fun (s3 : Int × Int) =>
            bif decide (s3.2 < (y2.parts.length : Int)) then
              bindO (geti y2.parts s3.2) fun y4 =>
              loopK (fun (s5 : Int × Int) =>
                  bif decide (s5.2 < (y4.simples.length : Int)) then
                    bindO (geti y4.simples s5.2) fun y6 =>
                    bindO (seltext_count y6.list) fun y7 =>
                    some (LO.again (w64 (s5.1 + y7), w64 (s5.2 + 1)))
                  else
                    some (LO.out s5.1) : Int × Int → Option (LO (Int × Int) (Int) _)) (s3.1, 0) fun o8 =>
              some (LO.again (o8, w64 (s3.2 + 1)))
            else
              some (LO.out s3.1) : Int × Int → Option (LO (Int × Int) (Int) _)) (s1.1, 0) fun o9 =>
        some (LO.again (o9, w64 (s1.2 + 1)))
      else
        some (LO.out s1.1) : Int × Int → Option (LO (Int × Int) (Int) _)) ((x.length : Int), 0) fun o10 =>
  some o10
noncomputable def seltext_count : List VComplex → Option Int := recE (seltext_count_B)
noncomputable def seltext_Check (x : List VComplex) : Option Int :=
  bindO (condO (!((x.length : Int) == 0)) (slices_ContainsFunc_Complex x) (default : Bool)) fun y1 =>
  bif bif (x.length : Int) == 0 then true else y1 then
    some 8
  else
    bindO (seltext_count x) fun y2 =>
    bif decide (y2 > 64) then
      some 4
    else
      some 0
noncomputable def sheet_empty (x : VCond) : Option Bool :=
  some (bif bif bif bif bif bif x.kind == 0 then x.name == [] else false then x.num == 0 else false then (x.list.length : Int) == 0 else false then x.decl.name == [] else false then (x.decl.value.length : Int) == 0 else false then !x.decl.important else false)
noncomputable def nest_closer (x : Int) : Option Int :=
  bif x == 2 then
    some 22
  else
    joinK (X := Bool) (
        bif x == 19 then
          some (LX.out (x == 19))
        else
          bif x == 21 then
            some (LX.out (x == 21))
          else
            some (LX.out (x == 23))) fun j1 =>
    bif j1 then
      some (wu8 (x + 1))
    else
      some 0
noncomputable def nest_look_B (nest_look : List VValue × Int → Option Vnest_found) (x : List VValue × Int) : Option Vnest_found :=
  loopK (fun (s1 : Int × Vnest_found) =>
      bif decide (s1.1 < (x.1.length : Int)) then
        joinK (X := Int × Vnest_found) (
            bindO (geti x.1 s1.1) fun y2 =>
            bindO (nest_closer y2.token.kind) fun y3 =>
            joinK (X := Vnest_found) (
                bif bif bif x.2 != 0 then y2.token.kind == x.2 else false then true else bif y3 == 0 then decide ((y2.list.length : Int) > 0) else false then
                  some (LX.out (⟨s1.2.depth, w64 (s1.2.tokens + 1), true⟩ : Vnest_found))
                else
                  some (LX.out (⟨s1.2.depth, w64 (s1.2.tokens + 1), s1.2.bad⟩ : Vnest_found))) fun j4 =>
            bif y3 == 0 then
              some (LX.out (s1.1, j4))
            else
              bindO (nest_look (y2.list, y3)) fun y5 =>
              some (LX.out (s1.1, (⟨if w64 (y5.depth + 1) > j4.depth then w64 (y5.depth + 1) else j4.depth, w64 (w64 (j4.tokens + y5.tokens) + 1), bif j4.bad then true else y5.bad⟩ : Vnest_found)))) fun j6 =>
        some (LO.again (w64 (j6.1 + 1), j6.2))
      else
        some (LO.out s1.2) : Int × Vnest_found → Option (LO (Int × Vnest_found) (Vnest_found) _)) (0, (⟨0, 0, false⟩ : Vnest_found)) fun o7 =>
  some o7
noncomputable def nest_look : List VValue × Int → Option Vnest_found := recE (nest_look_B)
noncomputable def nest_Check (x : List VValue) : Option Int :=
  bindO (nest_look (x, 0)) fun y1 =>
  bif decide (y1.depth > 16) then
    some 20
  else
    bif decide (y1.tokens > 1500) then
      some 4
    else
      bif y1.bad then
        some 8
      else
        some 0
noncomputable def nest_Depth (x : List VValue) : Option (Int × Int) :=
  bindO (nest_Check x) fun y1 =>
  bif y1 != 0 then
    some (0, y1)
  else
    bindO (nest_look (x, 0)) fun y2 =>
    some (y2.depth, 0)
noncomputable def nest_flat_3_B (nest_flat_3 : List VValue × List VToken → Option (List VToken)) (x : List VValue × List VToken) : Option (List VToken) :=
  loopK (fun (s1 : Int × List VToken) =>
      bif decide (s1.1 < (x.1.length : Int)) then
        joinK (X := Int × List VToken) (
            bindO (geti x.1 s1.1) fun y2 =>
            need (appOk s1.2.length 1 56) <|
            bindO (nest_closer y2.token.kind) fun y3 =>
            bif y3 != 0 then
              bindO (nest_flat_3 (y2.list, s1.2 ++ [y2.token])) fun y4 =>
              need (appOk y4.length 1 56) <|
              some (LX.out (s1.1, y4 ++ [(⟨y3, [], 0, [], false⟩ : VToken)]))
            else
              some (LX.out (s1.1, s1.2 ++ [y2.token]))) fun j5 =>
        some (LO.again (w64 (j5.1 + 1), j5.2))
      else
        some (LO.out s1.2) : Int × List VToken → Option (LO (Int × List VToken) (List VToken) _)) (0, x.2) fun o6 =>
  some o6
noncomputable def nest_flat_3 : List VValue × List VToken → Option (List VToken) := recE (nest_flat_3_B)
noncomputable def nest_flat_2 (x : List VValue) : Option (List VToken) :=
  loopK (fun (s1 : Int × List VToken) =>
      bif decide (s1.1 < (x.length : Int)) then
        joinK (X := Int × List VToken) (
            bindO (geti x s1.1) fun y2 =>
            need (appOk s1.2.length 1 56) <|
            bindO (nest_closer y2.token.kind) fun y3 =>
            bif y3 != 0 then
              bindO (nest_flat_3 (y2.list, s1.2 ++ [y2.token])) fun y4 =>
              need (appOk y4.length 1 56) <|
              some (LX.out (s1.1, y4 ++ [(⟨y3, [], 0, [], false⟩ : VToken)]))
            else
              some (LX.out (s1.1, s1.2 ++ [y2.token]))) fun j5 =>
        some (LO.again (w64 (j5.1 + 1), j5.2))
      else
        some (LO.out s1.2) : Int × List VToken → Option (LO (Int × List VToken) (List VToken) _)) (0, []) fun o6 =>
  some o6
noncomputable def nest_Flat (x : List VValue) : Option (List VToken × Int) :=
  bindO (nest_Check x) fun y1 =>
  bif y1 != 0 then
    some ([], y1)
  else
    bindO (nest_flat_2 x) fun y2 =>
    some (y2, 0)
noncomputable def stringslite_HasPrefix (x : Str × Str) : Option Bool :=
  need (decide (0 ≤ (x.2.length : Int)) && decide ((x.2.length : Int) ≤ (x.1.length : Int)) || !(decide ((x.1.length : Int) ≥ (x.2.length : Int)))) <|
  some (bif decide ((x.1.length : Int) ≥ (x.2.length : Int)) then List.take x.2.length x.1 == x.2 else false)
noncomputable def strings_HasPrefix (x : Str × Str) : Option Bool :=
  bindO (stringslite_HasPrefix (x.1, x.2)) fun y1 =>
  some y1
noncomputable def decl_named (x : Str) : Option Bool :=
  bindO (condO (!(bif x == [] then true else decide ((x.length : Int) > 64))) (strings_IndexByte (x, 0)) (default : Int)) fun y1 =>
  bif bif bif x == [] then true else decide ((x.length : Int) > 64) then true else decide (y1 ≥ 0) then
    some false
  else
    bindO (strings_HasPrefix (x, [45, 45])) fun y2 =>
    bif y2 then
      some (!(x == [45, 45]))
    else
      bindO (input_Lower x) fun y3 =>
      some (x == y3)
noncomputable def stringslite_TrimPrefix (x : Str × Str) : Option Str :=
  bindO (stringslite_HasPrefix (x.1, x.2)) fun y1 =>
  bif y1 then
    need (decide (0 ≤ (x.2.length : Int)) && decide ((x.2.length : Int) ≤ (x.1.length : Int))) <|
    some (List.drop x.2.length x.1)
  else
    some x.1
noncomputable def strings_TrimPrefix (x : Str × Str) : Option Str :=
  bindO (stringslite_TrimPrefix (x.1, x.2)) fun y1 =>
  some y1
noncomputable def glue_digit (x : Int) : Option Bool :=
  some (bif decide (48 ≤ x) then decide (x ≤ 57) else false)
noncomputable def glue_numeric (x : Str) : Option Bool :=
  bindO (strings_TrimPrefix (x, [45])) fun y1 =>
  bindO (condO (!(y1 == [])) (geti y1 0) 0) fun y2 =>
  bindO (condO (!(y1 == [])) (glue_digit (y2.toNat : Int)) (default : Bool)) fun y3 =>
  some (bif !(y1 == []) then y3 else false)
noncomputable def glue_letter (x : Int) : Option Bool :=
  some (bif bif decide (97 ≤ ibOr IntKind.u8 x 32) then decide (ibOr IntKind.u8 x 32 ≤ 122) else false then decide (x < 128) else false)
noncomputable def glue_named (x : Int) : Option Bool :=
  bindO (glue_letter x) fun y1 =>
  bindO (condO (!y1) (glue_digit x) (default : Bool)) fun y2 =>
  some (bif bif bif bif y1 then true else y2 then true else x == 95 then true else x == 45 then true else decide (x ≥ 128))
noncomputable def strings_Index (x : Str × Str) : Option Int :=
  bindO (index1 (x.1, x.2)) fun y1 =>
  some y1
noncomputable def strings_Contains (x : Str × Str) : Option Bool :=
  bindO (strings_Index (x.1, x.2)) fun y1 =>
  some (decide (y1 ≥ 0))
noncomputable def glue_fine (x : VToken) : Option Bool :=
  need (decide (((x.text.length + x.unit.length : Nat) : Int) ≤ 9223372036854775807)) <|
  bindO (strings_IndexByte (x.text ++ x.unit, 0)) fun y1 =>
  joinK (X := Bool × Bool × Bool × Bool × Bool) (
      joinK (X := Bool × Bool × Bool × Bool × Bool × Bool) (
          bif x.kind == 1 then
            some (LX.out (false, false, false, false, decide (y1 < 0), x.kind == 1))
          else
            bif x.kind == 2 then
              some (LX.out (false, false, false, false, decide (y1 < 0), x.kind == 2))
            else
              some (LX.out (false, false, false, false, decide (y1 < 0), x.kind == 3))) fun j2 =>
      bif j2.2.2.2.2.2 then
        some (LX.out (true, j2.2.1, j2.2.2.1, j2.2.2.2.1, bif j2.2.2.2.2.1 then !(x.text == []) else false))
      else
        bif x.kind == 4 then
          bindO (condO (!x.flag && (bif j2.2.2.2.2.1 then !(x.text == []) else false)) (glue_numeric x.text) (default : Bool)) fun y3 =>
          bindO (condO (y3 && (!x.flag && (bif j2.2.2.2.2.1 then !(x.text == []) else false))) (strings_HasPrefix (x.text, [45, 45])) (default : Bool)) fun y4 =>
          some (LX.out (true, j2.2.1, j2.2.2.1, true, bif bif j2.2.2.2.2.1 then !(x.text == []) else false then bif bif x.flag then true else bif y3 then !y4 else false then true else x.text == [45] else false))
        else
          joinK (X := Bool × Bool × Bool × Bool × Bool × Bool) (
              bif x.kind == 5 then
                some (LX.out (j2.1, j2.2.1, j2.2.2.1, j2.2.2.2.1, j2.2.2.2.2.1, x.kind == 5))
              else
                some (LX.out (j2.1, j2.2.1, j2.2.2.1, j2.2.2.2.1, j2.2.2.2.2.1, x.kind == 7))) fun j5 =>
          bif j5.2.2.2.2.2 then
            some (LX.out (true, j5.2.1, j5.2.2.1, j5.2.2.2.1, j5.2.2.2.2.1))
          else
            bif x.kind == 9 then
              bindO (condO (bif j5.2.2.2.2.1 then (x.text.length : Int) == 1 else false) (geti x.text 0) 0) fun y6 =>
              bindO (condO (bif j5.2.2.2.2.1 then (x.text.length : Int) == 1 else false) (glue_named (y6.toNat : Int)) (default : Bool)) fun y7 =>
              bindO (condO (bif bif bif j5.2.2.2.2.1 then (x.text.length : Int) == 1 else false then !y7 else false then true else x.text == [45]) (strings_Contains ([32, 9, 10, 12, 13, 34, 39, 58, 59, 44, 91, 93, 40, 41, 123, 125], x.text)) (default : Bool)) fun y8 =>
              some (LX.out (true, j5.2.1, j5.2.2.1, j5.2.2.2.1, bif bif bif bif j5.2.2.2.2.1 then (x.text.length : Int) == 1 else false then !y7 else false then true else x.text == [45] then !y8 else false))
            else
              joinK (X := Bool × Bool × Bool × Bool × Bool) (
                  bif x.kind == 10 then
                    some (LX.out (j5.2.1, j5.2.2.1, j5.2.2.2.1, j5.2.2.2.2.1, x.kind == 10))
                  else
                    bif x.kind == 11 then
                      some (LX.out (j5.2.1, j5.2.2.1, j5.2.2.2.1, j5.2.2.2.2.1, x.kind == 11))
                    else
                      some (LX.out (j5.2.1, j5.2.2.1, j5.2.2.2.1, j5.2.2.2.2.1, x.kind == 12))) fun j9 =>
              bif j9.2.2.2.2 then
                some (LX.out (j5.1, x.kind == 12, true, x.kind != 11, bif bif bif bif j9.2.2.2.1 then decide (x.num ≥ (-1000000000000)) else false then decide (x.num ≤ 1000000000000) else false then bif !x.flag then true else Int.tmod x.num 1000 == 0 else false then bif !(x.kind == 12) then true else !(x.unit == []) else false))
              else
                some (LX.out (j5.1, j9.1, j9.2.1, j9.2.2.1, bif decide (x.kind ≥ 13) then decide (x.kind ≤ 24) else false))) fun j10 =>
  some (bif bif bif bif j10.2.2.2.2 then bif j10.1 then true else x.text == [] else false then bif j10.2.1 then true else x.unit == [] else false then bif j10.2.2.1 then true else x.num == 0 else false then bif j10.2.2.2.1 then true else !x.flag else false)
noncomputable def glue_piece_1 (x : (Int × Int) × List VToken) : Option Bool :=
  bindO (condO (decide (x.1.1 < (x.2.length : Int))) (geti x.2 x.1.1) (default : VToken)) fun y1 =>
  some (bif decide (x.1.1 < (x.2.length : Int)) then y1.kind == x.1.2 else false)
noncomputable def input_Alike (x : Str × Str) : Option Bool :=
  bindO (input_Lower x.1) fun y1 =>
  bindO (input_Lower x.2) fun y2 =>
  some (y1 == y2)
noncomputable def glue_piece (x : List VToken) : Option Int :=
  bindO (geti x 0) fun y1 =>
  bif bif y1.kind == 9 then y1.text == [92] else false then
    bindO (glue_piece_1 ((1, 13), x)) fun y2 =>
    bif !y2 then
      some 0
    else
      some 2
  else
    bindO (condO (y1.kind == 2) (input_Alike (y1.text, [117, 114, 108])) (default : Bool)) fun y3 =>
    bif bif y1.kind == 2 then y3 else false then
      joinK (X := Int) (
          bindO (glue_piece_1 ((1, 13), x)) fun y4 =>
          bif y4 then
            some (LX.out 2)
          else
            some (LX.out 1)) fun j5 =>
      bindO (glue_piece_1 ((j5, 5), x)) fun y6 =>
      bif !y6 then
        some 0
      else
        some (w64 (j5 + 1))
    else
      some 1
noncomputable def glue_Check (x : List VToken) : Option Int :=
  bif decide ((x.length : Int) > 1500) then
    some 4
  else
    loopK (fun (s1 : Int) =>
        bif decide (s1 < (x.length : Int)) then
          bindO (geti x s1) fun y2 =>
          bindO (glue_fine y2) fun y3 =>
          need (decide (0 ≤ s1) && decide (s1 ≤ (x.length : Int)) || !(!(!y3))) <|
          bindO (condO (!(!y3)) (glue_piece (List.drop s1.toNat x)) (default : Int)) fun y4 =>
          bif bif !y3 then true else y4 == 0 then
            some (LO.ret 8)
          else
            some (LO.again (w64 (s1 + 1)))
        else
          some (LO.out ()) : Int → Option (LO (Int) (Unit) _)) 0 fun o5 =>
    some 0
noncomputable def decl_is (x : VValue × Int) : Option Bool :=
  some (x.1.token.kind == x.2)
noncomputable def decl_closers_1 (decl_closers : List VValue → Option Bool) (x : VValue) : Option Bool :=
  bindO (decl_is ((⟨x.token, x.list⟩ : VValue), 20)) fun y1 =>
  bindO (condO (!y1) (decl_is ((⟨x.token, x.list⟩ : VValue), 22)) (default : Bool)) fun y2 =>
  bindO (condO (!(bif y1 then true else y2)) (decl_is ((⟨x.token, x.list⟩ : VValue), 24)) (default : Bool)) fun y3 =>
  bindO (condO (!(bif bif y1 then true else y2 then true else y3)) (decl_closers x.list) (default : Bool)) fun y4 =>
  some (bif bif bif y1 then true else y2 then true else y3 then true else y4)
noncomputable def slices_IndexFunc_Value (decl_closers : List VValue → Option Bool) (x : List VValue) : Option Int :=
  loopK (fun (s1 : Int) =>
      bif decide (s1 < (x.length : Int)) then
        bindO (geti x s1) fun y2 =>
        bindO (decl_closers_1 decl_closers (⟨y2.token, y2.list⟩ : VValue)) fun y3 =>
        bif y3 then
          some (LO.ret s1)
        else
          some (LO.again (w64 (s1 + 1)))
      else
        some (LO.out ()) : Int → Option (LO (Int) (Unit) _)) 0 fun o4 =>
  some (-1)
noncomputable def slices_ContainsFunc_Value (decl_closers : List VValue → Option Bool) (x : List VValue) : Option Bool :=
  bindO (slices_IndexFunc_Value decl_closers x) fun y1 =>
  some (decide (y1 ≥ 0))
noncomputable def decl_closers_B (decl_closers : List VValue → Option Bool) (x : List VValue) : Option Bool :=
  bindO (slices_ContainsFunc_Value decl_closers x) fun y1 =>
  some y1
noncomputable def decl_closers : List VValue → Option Bool := recE (decl_closers_B)
noncomputable def decl_bang (x : VValue) : Option Bool :=
  bindO (decl_is ((⟨x.token, x.list⟩ : VValue), 9)) fun y1 =>
  some (bif y1 then x.token.text == [33] else false)
noncomputable def decl_Check_1 (x : VValue) : Option Bool :=
  bindO (decl_is ((⟨x.token, x.list⟩ : VValue), 17)) fun y1 =>
  bindO (condO (!y1) (decl_bang (⟨x.token, x.list⟩ : VValue)) (default : Bool)) fun y2 =>
  some (bif y1 then true else y2)
noncomputable def slices_IndexFunc_Value_2 (x : List VValue) : Option Int :=
  loopK (fun (s1 : Int) =>
      bif decide (s1 < (x.length : Int)) then
        bindO (geti x s1) fun y2 =>
        bindO (decl_Check_1 (⟨y2.token, y2.list⟩ : VValue)) fun y3 =>
        bif y3 then
          some (LO.ret s1)
        else
          some (LO.again (w64 (s1 + 1)))
      else
        some (LO.out ()) : Int → Option (LO (Int) (Unit) _)) 0 fun o4 =>
  some (-1)
noncomputable def slices_ContainsFunc_Value_2 (x : List VValue) : Option Bool :=
  bindO (slices_IndexFunc_Value_2 x) fun y1 =>
  some (decide (y1 ≥ 0))
noncomputable def decl_Check (x : VDecl) : Option Int :=
  bindO (nest_Flat x.value) fun y1 =>
  bindO (decl_named x.name) fun y2 =>
  bindO (condO (!(bif !y2 then true else y1.2 != 0)) (glue_Check y1.1) (default : Int)) fun y3 =>
  bindO (condO (!(bif bif !y2 then true else y1.2 != 0 then true else y3 != 0)) (decl_closers x.value) (default : Bool)) fun y4 =>
  bif bif bif bif !y2 then true else y1.2 != 0 then true else y3 != 0 then true else y4 then
    some 8
  else
    bindO (slices_ContainsFunc_Value_2 x.value) fun y5 =>
    bif y5 then
      some 8
    else
      bindO (condO ((x.value.length : Int) == 0) (strings_HasPrefix (x.name, [45, 45])) (default : Bool)) fun y6 =>
      bindO (condO (decide ((x.value.length : Int) > 0) && !(bif (x.value.length : Int) == 0 then !y6 else false)) (geti x.value 0) (default : VValue)) fun y7 =>
      bindO (condO (decide ((x.value.length : Int) > 0) && !(bif (x.value.length : Int) == 0 then !y6 else false)) (decl_is ((⟨y7.token, y7.list⟩ : VValue), 13)) (default : Bool)) fun y8 =>
      bindO (condO (!y8 && (decide ((x.value.length : Int) > 0) && !(bif (x.value.length : Int) == 0 then !y6 else false))) (geti x.value (w64 ((x.value.length : Int) - 1))) (default : VValue)) fun y9 =>
      bindO (condO (!y8 && (decide ((x.value.length : Int) > 0) && !(bif (x.value.length : Int) == 0 then !y6 else false))) (decl_is ((⟨y9.token, y9.list⟩ : VValue), 13)) (default : Bool)) fun y10 =>
      bif bif bif (x.value.length : Int) == 0 then !y6 else false then true else bif decide ((x.value.length : Int) > 0) then bif y8 then true else y10 else false then
        some 8
      else
        some 0
noncomputable def sheet_asked_B (sheet_asked : VCond → Option Int) (x : VCond) : Option Int :=
  joinK (X := Int) (
      bif bif x.kind == 5 then true else x.kind == 6 then
        some (LX.out 1)
      else
        some (LX.out 0)) fun j1 =>
  loopK (fun (s2 : Int × Int) =>
      bif decide (s2.2 < (x.list.length : Int)) then
        bindO (geti x.list s2.2) fun y3 =>
        bindO (sheet_asked (⟨y3.kind, y3.name, y3.num, y3.decl, y3.list⟩ : VCond)) fun y4 =>
        some (LO.again (if y4 > s2.1 then y4 else s2.1, w64 (s2.2 + 1)))
      else
        some (LO.out s2.1) : Int × Int → Option (LO (Int × Int) (Int) _)) (j1, 0) fun o5 =>
  some o5
noncomputable def sheet_asked : VCond → Option Int := recE (sheet_asked_B)
noncomputable def cond_bare (x : VCond) : Option Bool :=
  some (bif bif bif bif x.name == [] then x.num == 0 else false then x.decl.name == [] else false then (x.decl.value.length : Int) == 0 else false then !x.decl.important else false)
noncomputable def slices_Index_string (x : List Str × Str) : Option Int :=
  loopK (fun (s1 : Int) =>
      bif decide (s1 < (x.1.length : Int)) then
        bindO (geti x.1 s1) fun y2 =>
        bif x.2 == y2 then
          some (LO.ret s1)
        else
          some (LO.again (w64 (s1 + 1)))
      else
        some (LO.out ()) : Int → Option (LO (Int) (Unit) _)) 0 fun o3 =>
  some (-1)
noncomputable def slices_Contains_string (x : List Str × Str) : Option Bool :=
  bindO (slices_Index_string (x.1, x.2)) fun y1 =>
  some (decide (y1 ≥ 0))
noncomputable def cond_medium (x : Str) : Option Bool :=
  bindO (slices_Contains_string ([[], [97, 110, 100], [111, 114], [110, 111, 116], [111, 110, 108, 121]], x)) fun y1 =>
  bindO (condO (bif !y1 then decide ((x.length : Int) ≤ 64) else false) (input_Lower x) (default : Str)) fun y2 =>
  bindO (condO (bif bif !y1 then decide ((x.length : Int) ≤ 64) else false then y2 == x else false) (strings_IndexByte (x, 0)) (default : Int)) fun y3 =>
  some (bif bif bif !y1 then decide ((x.length : Int) ≤ 64) else false then y2 == x else false then decide (y3 < 0) else false)
noncomputable def fixed_check (x : List Int) : Option Int :=
  loopK (fun (s1 : Int) =>
      bif decide (s1 < (x.length : Int)) then
        bindO (geti x s1) fun y2 =>
        bif bif decide (y2 < (-1000000000000)) then true else decide (y2 > 1000000000000) then
          some (LO.ret 8)
        else
          some (LO.again (w64 (s1 + 1)))
      else
        some (LO.out ()) : Int → Option (LO (Int) (Unit) _)) 0 fun o3 =>
  some 0
noncomputable def fixed_Check (x : Int) : Option Int :=
  bindO (fixed_check [x]) fun y1 =>
  some y1
noncomputable def cond_query (x : VCond) : Option Bool :=
  bindO (condO (!(x.kind != 1)) (cond_bare (⟨x.kind, x.name, x.num, x.decl, x.list⟩ : VCond)) (default : Bool)) fun y1 =>
  bif bif bif x.kind != 1 then true else !y1 then true else (x.list.length : Int) == 0 then
    some false
  else
    loopK (fun (s2 : Int) =>
        bif decide (s2 < (x.list.length : Int)) then
          joinK (X := Int) (
              bindO (geti x.list s2) fun y3 =>
              bindO (condO (!(decide ((y3.list.length : Int) > 0))) (cond_bare (⟨y3.kind, [], 0, y3.decl, y3.list⟩ : VCond)) (default : Bool)) fun y4 =>
              bif bif decide ((y3.list.length : Int) > 0) then true else !y4 then
                some (LX.ret (LO.ret false))
              else
                bif y3.kind == 4 then
                  bindO (condO (!(bif decide (s2 > 0) then true else y3.num != 0)) (cond_medium y3.name) (default : Bool)) fun y5 =>
                  bif bif bif decide (s2 > 0) then true else y3.num != 0 then true else !y5 then
                    some (LX.ret (LO.ret false))
                  else
                    some (LX.out s2)
                else
                  joinK (X := Bool) (
                      bif y3.kind == 5 then
                        some (LX.out (y3.kind == 5))
                      else
                        some (LX.out (y3.kind == 6))) fun j6 =>
                  bif j6 then
                    bindO (condO (!(bif !(y3.name == []) then true else decide (y3.num < 0))) (fixed_Check y3.num) (default : Int)) fun y7 =>
                    bif bif bif !(y3.name == []) then true else decide (y3.num < 0) then true else y7 != 0 then
                      some (LX.ret (LO.ret false))
                    else
                      some (LX.out s2)
                  else
                    some (LX.ret (LO.ret false))) fun j8 =>
          some (LO.again (w64 (j8 + 1)))
        else
          some (LO.out ()) : Int → Option (LO (Int) (Unit) _)) 0 fun o9 =>
    some true
noncomputable def cond_named (x : VCond) : Option Bool :=
  bindO (condO (decide ((x.list.length : Int) > 0)) (geti x.list 0) (default : VCond)) fun y1 =>
  some (bif decide ((x.list.length : Int) > 0) then y1.kind == 4 else false)
noncomputable def cond_asks (x : VCond) : Option Bool :=
  bif x.kind == 3 then
    bindO (cond_bare (⟨x.kind, x.name, x.num, x.decl, x.list⟩ : VCond)) fun y1 =>
    bindO (condO (bif y1 then (x.list.length : Int) == 1 else false) (geti x.list 0) (default : VCond)) fun y2 =>
    bindO (condO (bif y1 then (x.list.length : Int) == 1 else false) (cond_query (⟨y2.kind, y2.name, y2.num, y2.decl, y2.list⟩ : VCond)) (default : Bool)) fun y3 =>
    bindO (condO (bif bif y1 then (x.list.length : Int) == 1 else false then y3 else false) (geti x.list 0) (default : VCond)) fun y4 =>
    bindO (condO (bif bif y1 then (x.list.length : Int) == 1 else false then y3 else false) (cond_named (⟨y4.kind, y4.name, y4.num, y4.decl, y4.list⟩ : VCond)) (default : Bool)) fun y5 =>
    some (bif bif bif y1 then (x.list.length : Int) == 1 else false then y3 else false then y5 else false)
  else
    bindO (cond_query (⟨x.kind, x.name, x.num, x.decl, x.list⟩ : VCond)) fun y6 =>
    some y6
noncomputable def cond_CheckMedia_1 (x : VCond) : Option Bool :=
  bindO (cond_asks (⟨x.kind, x.name, x.num, x.decl, x.list⟩ : VCond)) fun y1 =>
  some (!y1)
noncomputable def slices_IndexFunc_Cond (x : List VCond) : Option Int :=
  loopK (fun (s1 : Int) =>
      bif decide (s1 < (x.length : Int)) then
        bindO (geti x s1) fun y2 =>
        bindO (cond_CheckMedia_1 (⟨y2.kind, y2.name, y2.num, y2.decl, y2.list⟩ : VCond)) fun y3 =>
        bif y3 then
          some (LO.ret s1)
        else
          some (LO.again (w64 (s1 + 1)))
      else
        some (LO.out ()) : Int → Option (LO (Int) (Unit) _)) 0 fun o4 =>
  some (-1)
noncomputable def slices_ContainsFunc_Cond (x : List VCond) : Option Bool :=
  bindO (slices_IndexFunc_Cond x) fun y1 =>
  some (decide (y1 ≥ 0))
noncomputable def cond_CheckMedia (x : VCond) : Option Int :=
  bindO (condO (bif bif x.kind == 2 then decide ((x.list.length : Int) > 0) else false then decide ((x.list.length : Int) ≤ 64) else false) (slices_ContainsFunc_Cond x.list) (default : Bool)) fun y1 =>
  bindO (cond_bare (⟨x.kind, x.name, x.num, x.decl, x.list⟩ : VCond)) fun y2 =>
  bif bif !y2 then true else bif !(bif x.kind == 1 then (x.list.length : Int) == 0 else false) then !(bif bif bif x.kind == 2 then decide ((x.list.length : Int) > 0) else false then decide ((x.list.length : Int) ≤ 64) else false then !y1 else false) else false then
    some 8
  else
    some 0
noncomputable def sheet_told_B (sheet_told : VCond → Option Int) (x : VCond) : Option Int :=
  bif x.kind == 7 then
    bindO (nest_Depth x.decl.value) fun y1 =>
    some (w64 (y1.1 + 1))
  else
    bif x.kind == 8 then
      some 1
    else
      loopK (fun (s2 : Int × Int) =>
          bif decide (s2.2 < (x.list.length : Int)) then
            bindO (geti x.list s2.2) fun y3 =>
            bindO (sheet_told (⟨y3.kind, y3.name, y3.num, y3.decl, y3.list⟩ : VCond)) fun y4 =>
            joinK (X := Int × Int) (
                bif bif y3.kind != 7 then y3.kind != 8 else false then
                  some (LX.out (s2.1, w64 (y4 + 1)))
                else
                  some (LX.out (s2.1, y4))) fun j5 =>
            some (LO.again (if j5.2 > j5.1 then j5.2 else j5.1, w64 (s2.2 + 1)))
          else
            some (LO.out s2.1) : Int × Int → Option (LO (Int × Int) (Int) _)) (0, 0) fun o6 =>
      some o6
noncomputable def sheet_told : VCond → Option Int := recE (sheet_told_B)
noncomputable def cond_leaf (x : VCond) : Option Bool :=
  some (bif x.kind == 7 then true else x.kind == 8)
noncomputable def cond_look_B (cond_look : VCond × Int → Option ((Int × Bool) × Int)) (x : VCond × Int) : Option ((Int × Bool) × Int) :=
  bif decide (w64 (x.2 + 1) > 1500) then
    some ((0, false), w64 (x.2 + 1))
  else
    bif x.1.kind == 7 then
      bindO (nest_Depth x.1.decl.value) fun y1 =>
      bindO (condO (bif bif bif (x.1.list.length : Int) == 0 then x.1.name == [] else false then x.1.num == 0 else false then y1.2 == 0 else false) (decl_Check x.1.decl) (default : Int)) fun y2 =>
      some ((w64 (y1.1 + 1), bif bif bif bif (x.1.list.length : Int) == 0 then x.1.name == [] else false then x.1.num == 0 else false then y1.2 == 0 else false then y2 == 0 else false), w64 (x.2 + 1))
    else
      bif x.1.kind == 8 then
        bindO (condO ((x.1.list.length : Int) == 0) (cond_bare (⟨x.1.kind, x.1.name, x.1.num, x.1.decl, x.1.list⟩ : VCond)) (default : Bool)) fun y3 =>
        some ((1, bif (x.1.list.length : Int) == 0 then y3 else false), w64 (x.2 + 1))
      else
        joinK (X := Bool) (
            bif x.1.kind == 3 then
              some (LX.out (x.1.kind == 3))
            else
              bif x.1.kind == 1 then
                some (LX.out (x.1.kind == 1))
              else
                some (LX.out (x.1.kind == 2))) fun j4 =>
        bif j4 then
          bindO (cond_bare (⟨x.1.kind, x.1.name, x.1.num, x.1.decl, x.1.list⟩ : VCond)) fun y5 =>
          bif bif bif !y5 then true else bif x.1.kind == 3 then (x.1.list.length : Int) != 1 else false then true else bif x.1.kind != 3 then decide ((x.1.list.length : Int) < 2) else false then
            some ((0, false), w64 (x.2 + 1))
          else
            loopK (fun (s6 : (Int × Int) × Int) =>
                bif decide (s6.1.2 < (x.1.list.length : Int)) then
                  bindO (geti x.1.list s6.1.2) fun y7 =>
                  bindO (cond_look ((⟨y7.kind, y7.name, y7.num, y7.decl, y7.list⟩ : VCond), s6.2)) fun y8 =>
                  bif !y8.1.2 then
                    some (LO.ret ((0, false), y8.2))
                  else
                    joinK (X := Int × Int) (
                        bindO (cond_leaf (⟨y7.kind, y7.name, y7.num, y7.decl, y7.list⟩ : VCond)) fun y9 =>
                        bif !y9 then
                          some (LX.out (s6.1.1, w64 (y8.1.1 + 1)))
                        else
                          some (LX.out (s6.1.1, y8.1.1))) fun j10 =>
                    some (LO.again ((if j10.2 > j10.1 then j10.2 else j10.1, w64 (s6.1.2 + 1)), y8.2))
                else
                  some (LO.out (s6.1.1, s6.2)) : (Int × Int) × Int → Option (LO ((Int × Int) × Int) (Int × Int) _)) ((0, 0), w64 (x.2 + 1)) fun o11 =>
            some ((o11.1, true), o11.2)
        else
          some ((0, false), w64 (x.2 + 1))
noncomputable def cond_look : VCond × Int → Option ((Int × Bool) × Int) := recE (cond_look_B)
noncomputable def cond_CheckSupports (x : VCond) : Option Int :=
  bindO (cond_look ((⟨x.kind, x.name, x.num, x.decl, x.list⟩ : VCond), 0)) fun y1 =>
  bif bif !y1.1.2 then true else decide (y1.1.1 > 16) then
    some 8
  else
    some 0
noncomputable def sheet_look_B (sheet_look : List VRule → Option Vsheet_found) (x : List VRule) : Option Vsheet_found :=
  loopK (fun (s1 : Int × Vsheet_found) =>
      bif decide (s1.1 < (x.length : Int)) then
        bindO (geti x s1.1) fun y2 =>
        bindO (sheet_look y2.rules) fun y3 =>
        bindO (slices_ContainsFunc_string y2.names) fun y4 =>
        joinK (X := (Int × Bool) × Vsheet_found × Vsheet_found) (
            bif y2.kind == 1 then
              bindO (sheet_selected y2.selectors) fun y5 =>
              bindO (condO (!(bif y3.bad then true else y4)) (seltext_Check y2.selectors) (default : Int)) fun y6 =>
              bindO (condO (!(bif bif bif y3.bad then true else y4 then true else y6 != 0 then true else decide ((y2.decls.length : Int) > 32))) (sheet_empty (⟨y2.cond.kind, y2.cond.name, y2.cond.num, y2.cond.decl, y2.cond.list⟩ : VCond)) (default : Bool)) fun y7 =>
              loopK (fun (s8 : (Bool × Int) × Vsheet_found) =>
                  bif decide (s8.1.2 < (y2.decls.length : Int)) then
                    bindO (geti y2.decls s8.1.2) fun y9 =>
                    bindO (nest_Depth y9.value) fun y10 =>
                    bindO (condO (!(bif s8.1.1 then true else y10.2 != 0)) (decl_Check y9) (default : Int)) fun y11 =>
                    some (LO.again ((bif bif s8.1.1 then true else y10.2 != 0 then true else y11 != 0, w64 (s8.1.2 + 1)), (⟨s8.2.rules, if y10.1 > s8.2.depth then y10.1 else s8.2.depth, s8.2.bad⟩ : Vsheet_found)))
                  else
                    some (LO.out (s8.1.1, s8.2)) : (Bool × Int) × Vsheet_found → Option (LO ((Bool × Int) × Vsheet_found) (Bool × Vsheet_found) _)) ((bif bif bif bif bif y3.bad then true else y4 then true else y6 != 0 then true else decide ((y2.decls.length : Int) > 32) then true else !y7 then true else decide (w64 ((y2.names.length : Int) + (y2.rules.length : Int)) > 0), 0), y3) fun o12 =>
              some (LX.out ((y5, o12.1), (⟨w64 (s1.2.rules + w64 (y3.rules + 1)), s1.2.depth, s1.2.bad⟩ : Vsheet_found), o12.2))
            else
              bif y2.kind == 2 then
                bindO (sheet_asked (⟨y2.cond.kind, y2.cond.name, y2.cond.num, y2.cond.decl, y2.cond.list⟩ : VCond)) fun y13 =>
                bindO (condO (!(bif bif bif y3.bad then true else y4 then true else decide (w64 ((y2.selectors.length : Int) + (y2.decls.length : Int)) > 0) then true else decide ((y2.names.length : Int) > 0))) (cond_CheckMedia (⟨y2.cond.kind, y2.cond.name, y2.cond.num, y2.cond.decl, y2.cond.list⟩ : VCond)) (default : Int)) fun y14 =>
                some (LX.out ((y13, bif bif bif bif y3.bad then true else y4 then true else decide (w64 ((y2.selectors.length : Int) + (y2.decls.length : Int)) > 0) then true else decide ((y2.names.length : Int) > 0) then true else y14 != 0), (⟨w64 (s1.2.rules + w64 (y3.rules + 1)), s1.2.depth, s1.2.bad⟩ : Vsheet_found), y3))
              else
                bif y2.kind == 3 then
                  bindO (sheet_told (⟨y2.cond.kind, y2.cond.name, y2.cond.num, y2.cond.decl, y2.cond.list⟩ : VCond)) fun y15 =>
                  bindO (condO (!(bif bif bif y3.bad then true else y4 then true else decide (w64 ((y2.selectors.length : Int) + (y2.decls.length : Int)) > 0) then true else decide ((y2.names.length : Int) > 0))) (cond_CheckSupports (⟨y2.cond.kind, y2.cond.name, y2.cond.num, y2.cond.decl, y2.cond.list⟩ : VCond)) (default : Int)) fun y16 =>
                  some (LX.out ((y15, bif bif bif bif y3.bad then true else y4 then true else decide (w64 ((y2.selectors.length : Int) + (y2.decls.length : Int)) > 0) then true else decide ((y2.names.length : Int) > 0) then true else y16 != 0), (⟨w64 (s1.2.rules + w64 (y3.rules + 1)), s1.2.depth, s1.2.bad⟩ : Vsheet_found), y3))
                else
                  bif y2.kind == 4 then
                    bindO (condO (!(bif bif bif y3.bad then true else y4 then true else decide (w64 ((y2.selectors.length : Int) + (y2.decls.length : Int)) > 0) then true else decide ((y2.names.length : Int) > 1))) (sheet_empty (⟨y2.cond.kind, y2.cond.name, y2.cond.num, y2.cond.decl, y2.cond.list⟩ : VCond)) (default : Bool)) fun y17 =>
                    some (LX.out ((0, bif bif bif bif y3.bad then true else y4 then true else decide (w64 ((y2.selectors.length : Int) + (y2.decls.length : Int)) > 0) then true else decide ((y2.names.length : Int) > 1) then true else !y17), (⟨w64 (s1.2.rules + w64 (y3.rules + 1)), s1.2.depth, s1.2.bad⟩ : Vsheet_found), y3))
                  else
                    bif y2.kind == 5 then
                      bindO (condO (!(bif bif bif bif bif y3.bad then true else y4 then true else decide (w64 ((y2.selectors.length : Int) + (y2.decls.length : Int)) > 0) then true else decide ((y2.names.length : Int) < 1) then true else decide ((y2.names.length : Int) > 64) then true else decide ((y2.rules.length : Int) > 0))) (sheet_empty (⟨y2.cond.kind, y2.cond.name, y2.cond.num, y2.cond.decl, y2.cond.list⟩ : VCond)) (default : Bool)) fun y18 =>
                      some (LX.out ((0, bif bif bif bif bif bif y3.bad then true else y4 then true else decide (w64 ((y2.selectors.length : Int) + (y2.decls.length : Int)) > 0) then true else decide ((y2.names.length : Int) < 1) then true else decide ((y2.names.length : Int) > 64) then true else decide ((y2.rules.length : Int) > 0) then true else !y18), (⟨w64 (s1.2.rules + w64 (y3.rules + 1)), s1.2.depth, s1.2.bad⟩ : Vsheet_found), (⟨y3.rules, (-1), y3.bad⟩ : Vsheet_found)))
                    else
                      some (LX.out ((0, true), (⟨w64 (s1.2.rules + w64 (y3.rules + 1)), s1.2.depth, s1.2.bad⟩ : Vsheet_found), y3))) fun j19 =>
        some (LO.again (w64 (s1.1 + 1), (⟨j19.2.1.rules, if j19.1.1 > (if w64 (j19.2.2.depth + 1) > j19.2.1.depth then w64 (j19.2.2.depth + 1) else j19.2.1.depth) then j19.1.1 else if w64 (j19.2.2.depth + 1) > j19.2.1.depth then w64 (j19.2.2.depth + 1) else j19.2.1.depth, bif j19.2.1.bad then true else j19.1.2⟩ : Vsheet_found)))
      else
        some (LO.out s1.2) : Int × Vsheet_found → Option (LO (Int × Vsheet_found) (Vsheet_found) _)) (0, (⟨0, 0, false⟩ : Vsheet_found)) fun o20 =>
  some o20
noncomputable def sheet_look : List VRule → Option Vsheet_found := recE (sheet_look_B)
noncomputable def sheet_check (x : List VRule) : Option Int :=
  bindO (sheet_look x) fun y1 =>
  bif bif bif y1.bad then true else decide (y1.rules > 64) then true else decide (y1.depth > 16) then
    some 8
  else
    some 0
noncomputable def sheet_Check (x : VSheet) : Option Int :=
  bindO (sheet_check x.rules) fun y1 =>
  some y1
noncomputable def sheet_Count (x : VSheet) : Option (Int × Int) :=
  bindO (sheet_look x.rules) fun y1 =>
  bindO (sheet_Check x) fun y2 =>
  bif y2 != 0 then
    some (0, y2)
  else
    some (y1.rules, 0)
noncomputable def ref08_bytes (x : Str × Int) : Option Bool :=
  loopK (fun (s1 : Int) =>
      bif decide (s1 < (x.1.length : Int)) then
        bindO (geti x.1 s1) fun y2 =>
        bif (y2.toNat : Int) == 0 then
          some (LO.ret false)
        else
          some (LO.again (w64 (s1 + 1)))
      else
        some (LO.out ()) : Int → Option (LO (Int) (Unit) _)) 0 fun o3 =>
  some (decide ((x.1.length : Int) ≤ x.2))
noncomputable def ref08_Named (x : Str) : Option Bool :=
  bindO (condO (!(x == [])) (ref08_bytes (x, 64)) (default : Bool)) fun y1 =>
  some (bif !(x == []) then y1 else false)
noncomputable def ref01_Small (x : Int) : Option Int :=
  bif bif decide (x ≥ 65) then decide (x ≤ 90) else false then
    some (wu8 (wu8 (x - 65) + 97))
  else
    some x
noncomputable def ref01_Lower (x : Str) : Option Str :=
  need (decide (x.length ≤ maxLen)) <|
  loopK (fun (s1 : Int × List UInt8) =>
      bif decide (s1.1 < (s1.2.length : Int)) then
        need (decide (0 ≤ s1.1) && decide (s1.1 < (s1.2.length : Int))) <|
        bindO s1.2[s1.1.toNat]? fun y2 =>
        bindO (ref01_Small (y2.toNat : Int)) fun y3 =>
        need (decide (0 ≤ s1.1) && decide (s1.1 < (s1.2.length : Int))) <|
        bindO s1.2[s1.1.toNat]? fun y4 =>
        bindO (byteO y3) fun y5 =>
        some (LO.again (w64 (s1.1 + 1), List.set s1.2 s1.1.toNat y5))
      else
        some (LO.out s1.2) : Int × List UInt8 → Option (LO (Int × List UInt8) (List UInt8) _)) (0, x) fun o6 =>
  some o6
noncomputable def ref08_Small (x : Str) : Option Bool :=
  bindO (ref08_Named x) fun y1 =>
  bindO (condO y1 (ref01_Lower x) (default : Str)) fun y2 =>
  some (bif y1 then x == y2 else false)
noncomputable def ref08_bareOf (x : VSimple) : Option Vref08_base :=
  some (⟨x.kind, x.name, x.op, x.value, x.fold, x.anb, x.of_⟩ : Vref08_base)
noncomputable def ref07_Valid (x : VAnb) : Option Bool :=
  some (bif bif bif decide (x.a ≥ (-1000000000)) then decide (x.a ≤ 1000000000) else false then decide (x.b ≥ (-1000000000)) else false then decide (x.b ≤ 1000000000) else false)
noncomputable def ref08_below (x : Vref08_place × Int) : Option (Vref08_place × Bool) :=
  bif bif x.1.deep == 3 then true else bif x.2 == 14 then x.1.has else false then
    some (x.1, false)
  else
    some ((⟨w64 (x.1.deep + 1), bif x.1.has then true else x.2 == 14⟩ : Vref08_place), true)
noncomputable def ref08_listed (ref08_whole : VComplex × Vref08_place × Bool → Option Bool) (x : List VComplex × Vref08_place × Int) : Option Bool :=
  bindO (ref08_below (x.2.1, x.2.2)) fun y1 =>
  bif !y1.2 then
    some false
  else
    loopK (fun (s2 : Int) =>
        bif decide (s2 < (x.1.length : Int)) then
          bindO (geti x.1 s2) fun y3 =>
          bindO (ref08_whole ((⟨y3.lead, y3.parts, y3.combs⟩ : VComplex), y1.1, x.2.2 == 14)) fun y4 =>
          bif !y4 then
            some (LO.ret false)
          else
            some (LO.again (w64 (s2 + 1)))
        else
          some (LO.out ()) : Int → Option (LO (Int) (Unit) _)) 0 fun o5 =>
    some true
noncomputable def ref08_simple (ref08_whole : VComplex × Vref08_place × Bool → Option Bool) (x : VSimple × Vref08_place) : Option Bool :=
  bindO (ref08_bareOf (⟨x.1.kind, x.1.name, x.1.op, x.1.value, x.1.fold, x.1.anb, x.1.of_, x.1.list⟩ : VSimple)) fun y1 =>
  joinK (X := Bool) (
      bif x.1.kind == 1 then
        some (LX.out (x.1.kind == 1))
      else
        some (LX.out (x.1.kind == 2))) fun j2 =>
  bif j2 then
    bindO (ref08_Named x.1.name) fun y3 =>
    some (bif bif y3 then y1.kind == x.1.kind && (y1.name == x.1.name && (y1.op == 0 && (y1.value == [] && (y1.fold == false && (y1.anb.a == 0 && (y1.anb.b == 0 && (y1.of_ == false && true))))))) else false then (x.1.list.length : Int) == 0 else false)
  else
    bif x.1.kind == 3 then
      bindO (ref08_Small x.1.name) fun y4 =>
      bindO (condO (bif y4 then decide (x.1.op ≤ 6) else false) (ref08_bytes (x.1.value, 400)) (default : Bool)) fun y5 =>
      some (bif bif bif bif bif y4 then decide (x.1.op ≤ 6) else false then y5 else false then bif x.1.op != 0 then true else bif x.1.value == [] then !x.1.fold else false else false then y1.kind == x.1.kind && (y1.name == x.1.name && (y1.op == x.1.op && (y1.value == x.1.value && (y1.fold == x.1.fold && (y1.anb.a == 0 && (y1.anb.b == 0 && (y1.of_ == false && true))))))) else false then (x.1.list.length : Int) == 0 else false)
    else
      joinK (X := Bool) (
          bif x.1.kind == 4 then
            some (LX.out (x.1.kind == 4))
          else
            bif x.1.kind == 5 then
              some (LX.out (x.1.kind == 5))
            else
              bif x.1.kind == 6 then
                some (LX.out (x.1.kind == 6))
              else
                bif x.1.kind == 7 then
                  some (LX.out (x.1.kind == 7))
                else
                  some (LX.out (x.1.kind == 8))) fun j6 =>
      bif j6 then
        some (bif y1.kind == x.1.kind && (y1.name == [] && (y1.op == 0 && (y1.value == [] && (y1.fold == false && (y1.anb.a == 0 && (y1.anb.b == 0 && (y1.of_ == false && true))))))) then (x.1.list.length : Int) == 0 else false)
      else
        joinK (X := Bool) (
            bif x.1.kind == 9 then
              some (LX.out (x.1.kind == 9))
            else
              some (LX.out (x.1.kind == 10))) fun j7 =>
        bif j7 then
          bindO (ref07_Valid x.1.anb) fun y8 =>
          bif bif !y8 then true else !(y1.kind == x.1.kind && (y1.name == [] && (y1.op == 0 && (y1.value == [] && (y1.fold == false && (y1.anb.a == x.1.anb.a && (y1.anb.b == x.1.anb.b && (y1.of_ == x.1.of_ && true)))))))) then
            some false
          else
            bif !x.1.of_ then
              some ((x.1.list.length : Int) == 0)
            else
              bindO (condO (decide ((x.1.list.length : Int) > 0)) (ref08_listed ref08_whole (x.1.list, x.2, x.1.kind)) (default : Bool)) fun y9 =>
              some (bif decide ((x.1.list.length : Int) > 0) then y9 else false)
        else
          joinK (X := Bool) (
              bif x.1.kind == 11 then
                some (LX.out (x.1.kind == 11))
              else
                some (LX.out (x.1.kind == 12))) fun j10 =>
          bif j10 then
            bindO (condO (y1.kind == x.1.kind && (y1.name == [] && (y1.op == 0 && (y1.value == [] && (y1.fold == false && (y1.anb.a == 0 && (y1.anb.b == 0 && (y1.of_ == false && true)))))))) (ref08_listed ref08_whole (x.1.list, x.2, x.1.kind)) (default : Bool)) fun y11 =>
            some (bif y1.kind == x.1.kind && (y1.name == [] && (y1.op == 0 && (y1.value == [] && (y1.fold == false && (y1.anb.a == 0 && (y1.anb.b == 0 && (y1.of_ == false && true))))))) then y11 else false)
          else
            joinK (X := Bool) (
                bif x.1.kind == 13 then
                  some (LX.out (x.1.kind == 13))
                else
                  some (LX.out (x.1.kind == 14))) fun j12 =>
            bif j12 then
              bindO (condO (bif y1.kind == x.1.kind && (y1.name == [] && (y1.op == 0 && (y1.value == [] && (y1.fold == false && (y1.anb.a == 0 && (y1.anb.b == 0 && (y1.of_ == false && true))))))) then decide ((x.1.list.length : Int) > 0) else false) (ref08_listed ref08_whole (x.1.list, x.2, x.1.kind)) (default : Bool)) fun y13 =>
              some (bif bif y1.kind == x.1.kind && (y1.name == [] && (y1.op == 0 && (y1.value == [] && (y1.fold == false && (y1.anb.a == 0 && (y1.anb.b == 0 && (y1.of_ == false && true))))))) then decide ((x.1.list.length : Int) > 0) else false then y13 else false)
            else
              some false
noncomputable def ref08_compound (ref08_whole : VComplex × Vref08_place × Bool → Option Bool) (x : VCompound × Vref08_place) : Option Bool :=
  bindO (condO (bif !(x.1.tag == []) then !(x.1.tag == [42]) else false) (ref08_Small x.1.tag) (default : Bool)) fun y1 =>
  bif bif bif bif bif !(x.1.tag == []) then !(x.1.tag == [42]) else false then !y1 else false then true else bif x.1.tag == [] then (x.1.simples.length : Int) == 0 else false then true else decide ((x.1.simples.length : Int) > 64) then
    some false
  else
    loopK (fun (s2 : Int) =>
        bif decide (s2 < (x.1.simples.length : Int)) then
          bindO (geti x.1.simples s2) fun y3 =>
          bindO (ref08_simple ref08_whole ((⟨y3.kind, y3.name, y3.op, y3.value, y3.fold, y3.anb, y3.of_, y3.list⟩ : VSimple), x.2)) fun y4 =>
          bif !y4 then
            some (LO.ret false)
          else
            some (LO.again (w64 (s2 + 1)))
        else
          some (LO.out ()) : Int → Option (LO (Int) (Unit) _)) 0 fun o5 =>
    some true
noncomputable def ref08_whole_B (ref08_whole : VComplex × Vref08_place × Bool → Option Bool) (x : VComplex × Vref08_place × Bool) : Option Bool :=
  bif bif bif bif bif !((x.1.lead != 0) == x.2.2) then true else decide (x.1.lead > 4) then true else (x.1.parts.length : Int) == 0 then true else decide ((x.1.parts.length : Int) > 64) then true else (x.1.combs.length : Int) != w64 ((x.1.parts.length : Int) - 1) then
    some false
  else
    loopK (fun (s1 : Int) =>
        bif decide (s1 < (x.1.parts.length : Int)) then
          bindO (geti x.1.parts s1) fun y2 =>
          bindO (ref08_compound ref08_whole ((⟨y2.tag, y2.simples⟩ : VCompound), x.2.1)) fun y3 =>
          bindO (condO (decide (s1 > 0) && !(!y3)) (geti x.1.combs (w64 (s1 - 1))) (default : UInt8)) fun y4 =>
          bindO (condO (!(decide ((y4.toNat : Int) < 1)) && (decide (s1 > 0) && !(!y3))) (geti x.1.combs (w64 (s1 - 1))) (default : UInt8)) fun y5 =>
          bif bif !y3 then true else bif decide (s1 > 0) then bif decide ((y4.toNat : Int) < 1) then true else decide ((y5.toNat : Int) > 4) else false then
            some (LO.ret false)
          else
            some (LO.again (w64 (s1 + 1)))
        else
          some (LO.out ()) : Int → Option (LO (Int) (Unit) _)) 0 fun o6 =>
    some true
noncomputable def ref08_whole : VComplex × Vref08_place × Bool → Option Bool := recE (ref08_whole_B)
noncomputable def ref08_Fine (x : List VComplex) : Option Bool :=
  loopK (fun (s1 : Int) =>
      bif decide (s1 < (x.length : Int)) then
        bindO (geti x s1) fun y2 =>
        bindO (ref08_whole ((⟨y2.lead, y2.parts, y2.combs⟩ : VComplex), (⟨0, false⟩ : Vref08_place), false)) fun y3 =>
        bif !y3 then
          some (LO.ret false)
        else
          some (LO.again (w64 (s1 + 1)))
      else
        some (LO.out ()) : Int → Option (LO (Int) (Unit) _)) 0 fun o4 =>
  some (decide ((x.length : Int) > 0))
noncomputable def ref08_Number_B (ref08_Number : List VComplex → Option Int) (x : List VComplex) : Option Int :=
  loopK (fun (s1 : Int × Int) =>
      bif decide (s1.2 < (x.length : Int)) then
        loopK (fun (s2 : Int × Int) =>
            bindO (geti x s1.2) fun y3 =>
            bif decide (s2.2 < (y3.parts.length : Int)) then
              bindO (geti x s1.2) fun y4 =>
              bindO (geti y4.parts s2.2) fun y5 =>
              loopK (fun (s6 : Int × Int) =>
                  bif decide (s6.2 < (y5.simples.length : Int)) then
                    bindO (geti y5.simples s6.2) fun y7 =>
                    bindO (ref08_Number y7.list) fun y8 =>
                    some (LO.again (w64 (s6.1 + y8), w64 (s6.2 + 1)))
                  else
                    some (LO.out s6.1) : Int × Int → Option (LO (Int × Int) (Int) _)) (s2.1, 0) fun o9 =>
              some (LO.again (o9, w64 (s2.2 + 1)))
            else
              some (LO.out s2.1) : Int × Int → Option (LO (Int × Int) (Int) _)) (s1.1, 0) fun o10 =>
        some (LO.again (o10, w64 (s1.2 + 1)))
      else
        some (LO.out s1.1) : Int × Int → Option (LO (Int × Int) (Int) _)) ((x.length : Int), 0) fun o11 =>
  some o11
noncomputable def ref08_Number : List VComplex → Option Int := recE (ref08_Number_B)
noncomputable def ref08_Check (x : List VComplex) : Option Int :=
  bindO (ref08_Fine x) fun y1 =>
  bif !y1 then
    some 8
  else
    bindO (ref08_Number x) fun y2 =>
    bif decide (y2 > 64) then
      some 4
    else
      some 0
noncomputable def ref04_Same_B (ref04_Same : List VValue × List VValue → Option Bool) (x : List VValue × List VValue) : Option Bool :=
  bif (x.1.length : Int) != (x.2.length : Int) then
    some false
  else
    loopK (fun (s1 : Int) =>
        bif decide (s1 < (x.1.length : Int)) then
          bindO (geti x.1 s1) fun y2 =>
          bindO (geti x.2 s1) fun y3 =>
          bindO (condO (!(!(y2.token.kind == y3.token.kind && (y2.token.text == y3.token.text && (y2.token.num == y3.token.num && (y2.token.unit == y3.token.unit && (y2.token.flag == y3.token.flag && true))))))) (geti x.1 s1) (default : VValue)) fun y4 =>
          bindO (condO (!(!(y2.token.kind == y3.token.kind && (y2.token.text == y3.token.text && (y2.token.num == y3.token.num && (y2.token.unit == y3.token.unit && (y2.token.flag == y3.token.flag && true))))))) (geti x.2 s1) (default : VValue)) fun y5 =>
          bindO (condO (!(!(y2.token.kind == y3.token.kind && (y2.token.text == y3.token.text && (y2.token.num == y3.token.num && (y2.token.unit == y3.token.unit && (y2.token.flag == y3.token.flag && true))))))) (ref04_Same (y4.list, y5.list)) (default : Bool)) fun y6 =>
          bif bif !(y2.token.kind == y3.token.kind && (y2.token.text == y3.token.text && (y2.token.num == y3.token.num && (y2.token.unit == y3.token.unit && (y2.token.flag == y3.token.flag && true))))) then true else !y6 then
            some (LO.ret false)
          else
            some (LO.again (w64 (s1 + 1)))
        else
          some (LO.out ()) : Int → Option (LO (Int) (Unit) _)) 0 fun o7 =>
    some true
noncomputable def ref04_Same : List VValue × List VValue → Option Bool := recE (ref04_Same_B)
noncomputable def ref05_Same1 (x : VDecl × VDecl) : Option Bool :=
  bindO (condO (bif x.1.name == x.2.name then x.1.important == x.2.important else false) (ref04_Same (x.1.value, x.2.value)) (default : Bool)) fun y1 =>
  some (bif bif x.1.name == x.2.name then x.1.important == x.2.important else false then y1 else false)
noncomputable def ref10_Same_B (ref10_Same : VCond × VCond → Option Bool) (x : VCond × VCond) : Option Bool :=
  bindO (condO (!(bif bif x.1.kind != x.2.kind then true else !(x.1.name == x.2.name) then true else x.1.num != x.2.num)) (ref05_Same1 (x.1.decl, x.2.decl)) (default : Bool)) fun y1 =>
  bif bif bif bif bif x.1.kind != x.2.kind then true else !(x.1.name == x.2.name) then true else x.1.num != x.2.num then true else !y1 then true else (x.1.list.length : Int) != (x.2.list.length : Int) then
    some false
  else
    loopK (fun (s2 : Int) =>
        bif decide (s2 < (x.1.list.length : Int)) then
          bindO (geti x.1.list s2) fun y3 =>
          bindO (geti x.2.list s2) fun y4 =>
          bindO (ref10_Same ((⟨y3.kind, y3.name, y3.num, y3.decl, y3.list⟩ : VCond), (⟨y4.kind, y4.name, y4.num, y4.decl, y4.list⟩ : VCond))) fun y5 =>
          bif !y5 then
            some (LO.ret false)
          else
            some (LO.again (w64 (s2 + 1)))
        else
          some (LO.out ()) : Int → Option (LO (Int) (Unit) _)) 0 fun o6 =>
    some true
noncomputable def ref10_Same : VCond × VCond → Option Bool := recE (ref10_Same_B)
noncomputable def ref11_none (x : VCond) : Option Bool :=
  bindO (ref10_Same ((⟨x.kind, x.name, x.num, x.decl, x.list⟩ : VCond), (⟨0, [], 0, (⟨[], [], false⟩ : VDecl), []⟩ : VCond))) fun y1 =>
  some y1
noncomputable def ref05_Named (x : Str) : Option Bool :=
  bif bif decide ((x.length : Int) < 1) then true else decide ((x.length : Int) > 64) then
    some false
  else
    loopK (fun (s1 : Int) =>
        bif decide (s1 < (x.length : Int)) then
          bindO (geti x s1) fun y2 =>
          bif (y2.toNat : Int) == 0 then
            some (LO.ret false)
          else
            some (LO.again (w64 (s1 + 1)))
        else
          some (LO.out ()) : Int → Option (LO (Int) (Unit) _)) 0 fun o3 =>
    need (decide (2 ≤ (x.length : Int)) || !(decide ((x.length : Int) ≥ 2))) <|
    bif bif decide ((x.length : Int) ≥ 2) then List.take 2 x == [45, 45] else false then
      some (decide ((x.length : Int) > 2))
    else
      bindO (ref01_Lower x) fun y4 =>
      some (x == y4)
noncomputable def ref04_Tokens_B (ref04_Tokens : List VValue → Option (List VToken)) (x : List VValue) : Option (List VToken) :=
  loopK (fun (s1 : Int × List VToken) =>
      bif decide (s1.1 < (x.length : Int)) then
        joinK (X := Int × List VToken) (
            bindO (geti x s1.1) fun y2 =>
            need (appOk s1.2.length 1 56) <|
            bindO (geti x s1.1) fun y3 =>
            bindO (ref04_Closer y3.token.kind) fun y4 =>
            bif y4 != 0 then
              bindO (geti x s1.1) fun y5 =>
              bindO (ref04_Tokens y5.list) fun y6 =>
              need (appOk (s1.2 ++ [y2.token]).length y6.length 56) <|
              need (appOk (s1.2 ++ [y2.token] ++ y6).length 1 56) <|
              some (LX.out (s1.1, s1.2 ++ [y2.token] ++ y6 ++ [(⟨y4, [], 0, [], false⟩ : VToken)]))
            else
              some (LX.out (s1.1, s1.2 ++ [y2.token]))) fun j7 =>
        some (LO.again (w64 (j7.1 + 1), j7.2))
      else
        some (LO.out s1.2) : Int × List VToken → Option (LO (Int × List VToken) (List VToken) _)) (0, []) fun o8 =>
  some o8
noncomputable def ref04_Tokens : List VValue → Option (List VToken) := recE (ref04_Tokens_B)
noncomputable def ref04_shaped_B (ref04_shaped : List VValue × Int → Option Bool) (x : List VValue × Int) : Option Bool :=
  loopK (fun (s1 : Int) =>
      bif decide (s1 < (x.1.length : Int)) then
        bindO (geti x.1 s1) fun y2 =>
        bindO (ref04_Closer y2.token.kind) fun y3 =>
        bindO (condO (y3 == 0) (geti x.1 s1) (default : VValue)) fun y4 =>
        bindO (condO (x.2 != 0 && !(bif y3 == 0 then decide ((y4.list.length : Int) > 0) else false)) (geti x.1 s1) (default : VValue)) fun y5 =>
        bindO (condO (y3 != 0 && !(bif bif y3 == 0 then decide ((y4.list.length : Int) > 0) else false then true else bif x.2 != 0 then y5.token.kind == x.2 else false)) (geti x.1 s1) (default : VValue)) fun y6 =>
        bindO (condO (y3 != 0 && !(bif bif y3 == 0 then decide ((y4.list.length : Int) > 0) else false then true else bif x.2 != 0 then y5.token.kind == x.2 else false)) (ref04_shaped (y6.list, y3)) (default : Bool)) fun y7 =>
        bif bif bif bif y3 == 0 then decide ((y4.list.length : Int) > 0) else false then true else bif x.2 != 0 then y5.token.kind == x.2 else false then true else bif y3 != 0 then !y7 else false then
          some (LO.ret false)
        else
          some (LO.again (w64 (s1 + 1)))
      else
        some (LO.out ()) : Int → Option (LO (Int) (Unit) _)) 0 fun o8 =>
  some true
noncomputable def ref04_shaped : List VValue × Int → Option Bool := recE (ref04_shaped_B)
noncomputable def ref04_Check (x : List VValue) : Option Int :=
  bindO (ref04_Deep x) fun y1 =>
  bif decide (y1 > 16) then
    some 20
  else
    bindO (ref04_Tokens x) fun y2 =>
    bif decide ((y2.length : Int) > 1500) then
      some 4
    else
      bindO (ref04_shaped (x, 0)) fun y3 =>
      bif !y3 then
        some 8
      else
        some 0
noncomputable def ref03_whole (x : Str) : Option Bool :=
  loopK (fun (s1 : Int) =>
      bif decide (s1 < (x.length : Int)) then
        bindO (geti x s1) fun y2 =>
        bif (y2.toNat : Int) == 0 then
          some (LO.ret false)
        else
          some (LO.again (w64 (s1 + 1)))
      else
        some (LO.out ()) : Int → Option (LO (Int) (Unit) _)) 0 fun o3 =>
  some true
noncomputable def ref02_Digit (x : Int) : Option Bool :=
  some (bif decide (x ≥ 48) then decide (x ≤ 57) else false)
noncomputable def ref03_Bare (x : Str) : Option Bool :=
  bif x == [] then
    some false
  else
    bindO (geti x 0) fun y1 =>
    bindO (ref02_Digit (y1.toNat : Int)) fun y2 =>
    bindO (condO (!(bif y2 then true else x == [45])) (geti x 0) 0) fun y3 =>
    bindO (condO ((y3.toNat : Int) == 45 && !(bif y2 then true else x == [45])) (geti x 1) 0) fun y4 =>
    bindO (condO ((y3.toNat : Int) == 45 && !(bif y2 then true else x == [45])) (ref02_Digit (y4.toNat : Int)) (default : Bool)) fun y5 =>
    some (bif bif y2 then true else x == [45] then true else bif (y3.toNat : Int) == 45 then y5 else false)
noncomputable def ref02_Space (x : Int) : Option Bool :=
  some (bif bif x == 10 then true else x == 9 then true else x == 32)
noncomputable def ref02_At (x : Str × Int) : Option Int :=
  bif decide (x.2 < (x.1.length : Int)) then
    bindO (geti x.1 x.2) fun y1 =>
    some (y1.toNat : Int)
  else
    some 0
noncomputable def ref02_spaces (x : Str × Int) : Option Int :=
  loopK (fun (s1 : Int) =>
      bindO (ref02_At (x.1, s1)) fun y2 =>
      bindO (ref02_Space y2) fun y3 =>
      bif y3 then
        some (LO.again (w64 (s1 + 1)))
      else
        some (LO.out s1) : Int → Option (LO (Int) (Int) _)) x.2 fun o4 =>
  some o4
noncomputable def ref02_lost (x : Unit) : Option Str :=
  some [(239 : UInt8), (191 : UInt8), (189 : UInt8)]
noncomputable def ref02_Hex (x : Int) : Option Int :=
  bindO (ref02_Digit x) fun y1 =>
  bif y1 then
    some (w64 (wu8 (x - 48)))
  else
    bindO (ref01_Small x) fun y2 =>
    bif bif decide (y2 ≥ 97) then decide (y2 ≤ 102) else false then
      some (w64 (w64 (wu8 (y2 - 97)) + 10))
    else
      some (-1)
noncomputable def ref02_UTF8 (x : Int) : Option Str :=
  bif bif bif x == 0 then true else bif decide (x ≥ 55296) then decide (x ≤ 57343) else false then true else decide (x > 1114111) then
    bindO (ref02_lost ()) fun y1 =>
    some y1
  else
    bif decide (x < 128) then
      bindO (byteO (wu8 x)) fun y2 =>
      some [y2]
    else
      bif decide (x < 2048) then
        bindO (byteO (wu8 (w64 (192 + w64 (Int.tdiv x 64))))) fun y3 =>
        bindO (byteO (wu8 (w64 (128 + Int.tmod x 64)))) fun y4 =>
        some [y3, y4]
      else
        bif decide (x < 65536) then
          bindO (byteO (wu8 (w64 (224 + w64 (Int.tdiv x 4096))))) fun y5 =>
          bindO (byteO (wu8 (w64 (128 + Int.tmod (w64 (Int.tdiv x 64)) 64)))) fun y6 =>
          bindO (byteO (wu8 (w64 (128 + Int.tmod x 64)))) fun y7 =>
          some [y5, y6, y7]
        else
          bindO (byteO (wu8 (w64 (240 + w64 (Int.tdiv x 262144))))) fun y8 =>
          bindO (byteO (wu8 (w64 (128 + Int.tmod (w64 (Int.tdiv x 4096)) 64)))) fun y9 =>
          bindO (byteO (wu8 (w64 (128 + Int.tmod (w64 (Int.tdiv x 64)) 64)))) fun y10 =>
          bindO (byteO (wu8 (w64 (128 + Int.tmod x 64)))) fun y11 =>
          some [y8, y9, y10, y11]
noncomputable def ref02_Escaped (x : Str × Int) : Option (Str × Int) :=
  bif decide (w64 (x.2 + 1) ≥ (x.1.length : Int)) then
    bindO (ref02_lost ()) fun y1 =>
    some (y1, w64 (x.2 + 1))
  else
    bindO (geti x.1 (w64 (x.2 + 1))) fun y2 =>
    bindO (ref02_Hex (y2.toNat : Int)) fun y3 =>
    bif decide (y3 < 0) then
      need (decide (0 ≤ w64 (x.2 + 1)) && (decide (w64 (x.2 + 1) ≤ w64 (w64 (x.2 + 1) + 1)) && decide (w64 (w64 (x.2 + 1) + 1) ≤ (x.1.length : Int)))) <|
      some (List.drop (w64 (x.2 + 1)).toNat (List.take (w64 (w64 (x.2 + 1) + 1)).toNat x.1), w64 (w64 (x.2 + 1) + 1))
    else
      loopK (fun (s4 : Int × Int) =>
          bindO (condO (bif decide (s4.2 < (x.1.length : Int)) then decide (s4.2 < w64 (w64 (x.2 + 1) + 6)) else false) (geti x.1 s4.2) 0) fun y5 =>
          bindO (condO (bif decide (s4.2 < (x.1.length : Int)) then decide (s4.2 < w64 (w64 (x.2 + 1) + 6)) else false) (ref02_Hex (y5.toNat : Int)) (default : Int)) fun y6 =>
          bif bif bif decide (s4.2 < (x.1.length : Int)) then decide (s4.2 < w64 (w64 (x.2 + 1) + 6)) else false then decide (y6 ≥ 0) else false then
            bindO (geti x.1 s4.2) fun y7 =>
            bindO (ref02_Hex (y7.toNat : Int)) fun y8 =>
            some (LO.again (w64 (w64 (16 * s4.1) + y8), w64 (s4.2 + 1)))
          else
            some (LO.out (s4.1, s4.2)) : Int × Int → Option (LO (Int × Int) (Int × Int) _)) (0, w64 (x.2 + 1)) fun o9 =>
      joinK (X := Int) (
          bindO (ref02_At (x.1, o9.2)) fun y10 =>
          bindO (ref02_Space y10) fun y11 =>
          bif y11 then
            some (LX.out (w64 (o9.2 + 1)))
          else
            some (LX.out o9.2)) fun j12 =>
      bindO (ref02_UTF8 o9.1) fun y13 =>
      some (y13, j12)
noncomputable def ref02_quoted (x : Str × Int) : Option (VToken × Int) :=
  bindO (geti x.1 x.2) fun y1 =>
  loopK (fun (s2 : Int × VToken × VToken) =>
      bif decide (s2.1 < (x.1.length : Int)) then
        bindO (geti x.1 s2.1) fun y3 =>
        bif (y3.toNat : Int) == (y1.toNat : Int) then
          some (LO.ret (s2.2.2, w64 (s2.1 + 1)))
        else
          bindO (geti x.1 s2.1) fun y4 =>
          bif (y4.toNat : Int) == 10 then
            some (LO.ret ((⟨6, [], 0, [], false⟩ : VToken), s2.1))
          else
            bindO (geti x.1 s2.1) fun y5 =>
            bif bif (y5.toNat : Int) == 92 then w64 (s2.1 + 1) == (x.1.length : Int) else false then
              some (LO.again (w64 (s2.1 + 1), s2.2.1, s2.2.2))
            else
              bindO (geti x.1 s2.1) fun y6 =>
              bindO (condO ((y6.toNat : Int) == 92) (geti x.1 (w64 (s2.1 + 1))) 0) fun y7 =>
              bif bif (y6.toNat : Int) == 92 then (y7.toNat : Int) == 10 else false then
                some (LO.again (w64 (s2.1 + 2), s2.2.1, s2.2.2))
              else
                bindO (geti x.1 s2.1) fun y8 =>
                bif (y8.toNat : Int) == 92 then
                  bindO (ref02_Escaped (x.1, s2.1)) fun y9 =>
                  need (decide (((s2.2.2.text.length + y9.1.length : Nat) : Int) ≤ 9223372036854775807)) <|
                  some (LO.again (y9.2, s2.2.1, (⟨s2.2.2.kind, s2.2.2.text ++ y9.1, s2.2.2.num, s2.2.2.unit, s2.2.2.flag⟩ : VToken)))
                else
                  need (decide (0 ≤ s2.1) && (decide (s2.1 ≤ w64 (s2.1 + 1)) && decide (w64 (s2.1 + 1) ≤ (x.1.length : Int)))) <|
                  need (decide (((s2.2.2.text.length + (List.drop s2.1.toNat (List.take (w64 (s2.1 + 1)).toNat x.1)).length : Nat) : Int) ≤ 9223372036854775807)) <|
                  some (LO.again (w64 (s2.1 + 1), s2.2.1, (⟨s2.2.2.kind, s2.2.2.text ++ List.drop s2.1.toNat (List.take (w64 (s2.1 + 1)).toNat x.1), s2.2.2.num, s2.2.2.unit, s2.2.2.flag⟩ : VToken)))
      else
        some (LO.out (s2.1, s2.2.1, s2.2.2)) : Int × VToken × VToken → Option (LO (Int × VToken × VToken) (Int × VToken × VToken) _)) (w64 (x.2 + 1), (⟨0, [], 0, [], false⟩ : VToken), (⟨5, [], 0, [], false⟩ : VToken)) fun o10 =>
  some (o10.2.2, o10.1)
noncomputable def ref02_Starts (x : Int) : Option Bool :=
  bindO (ref01_Small x) fun y1 =>
  some (bif bif bif decide (y1 ≥ 97) then decide (y1 ≤ 122) else false then true else x == 95 then true else decide (x ≥ 128))
noncomputable def ref02_Letter (x : Int) : Option Bool :=
  bindO (ref02_Starts x) fun y1 =>
  bindO (condO (!y1) (ref02_Digit x) (default : Bool)) fun y2 =>
  some (bif bif y1 then true else y2 then true else x == 45)
noncomputable def ref02_Escape (x : Str × Int) : Option Bool :=
  bindO (ref02_At (x.1, x.2)) fun y1 =>
  bindO (condO (y1 == 92) (ref02_At (x.1, w64 (x.2 + 1))) (default : Int)) fun y2 =>
  some (bif y1 == 92 then y2 != 10 else false)
noncomputable def ref02_Named (x : Str × Int) : Option (Str × Int) :=
  loopK (fun (s1 : Int × Str) =>
      bindO (condO (decide (s1.1 < (x.1.length : Int))) (geti x.1 s1.1) 0) fun y2 =>
      bindO (condO (decide (s1.1 < (x.1.length : Int))) (ref02_Letter (y2.toNat : Int)) (default : Bool)) fun y3 =>
      bif bif decide (s1.1 < (x.1.length : Int)) then y3 else false then
        need (decide (0 ≤ s1.1) && (decide (s1.1 ≤ w64 (s1.1 + 1)) && decide (w64 (s1.1 + 1) ≤ (x.1.length : Int)))) <|
        need (decide (((s1.2.length + (List.drop s1.1.toNat (List.take (w64 (s1.1 + 1)).toNat x.1)).length : Nat) : Int) ≤ 9223372036854775807)) <|
        some (LO.again (w64 (s1.1 + 1), s1.2 ++ List.drop s1.1.toNat (List.take (w64 (s1.1 + 1)).toNat x.1)))
      else
        bindO (condO (decide (s1.1 < (x.1.length : Int))) (ref02_Escape (x.1, s1.1)) (default : Bool)) fun y4 =>
        bif bif decide (s1.1 < (x.1.length : Int)) then y4 else false then
          bindO (ref02_Escaped (x.1, s1.1)) fun y5 =>
          need (decide (((s1.2.length + y5.1.length : Nat) : Int) ≤ 9223372036854775807)) <|
          some (LO.again (y5.2, s1.2 ++ y5.1))
        else
          some (LO.ret (s1.2, s1.1)) : Int × Str → Option (LO (Int × Str) (Unit) _)) (x.2, []) fun o6 =>
  none
noncomputable def ref02_NameAt (x : Str × Int) : Option Bool :=
  bindO (ref02_At (x.1, x.2)) fun y1 =>
  bif y1 == 45 then
    bindO (ref02_At (x.1, w64 (x.2 + 1))) fun y2 =>
    bindO (ref02_Starts y2) fun y3 =>
    bindO (condO (!y3) (ref02_At (x.1, w64 (x.2 + 1))) (default : Int)) fun y4 =>
    bindO (condO (!(bif y3 then true else y4 == 45)) (ref02_Escape (x.1, w64 (x.2 + 1))) (default : Bool)) fun y5 =>
    some (bif bif y3 then true else y4 == 45 then true else y5)
  else
    bindO (ref02_At (x.1, x.2)) fun y6 =>
    bindO (ref02_Starts y6) fun y7 =>
    bindO (condO (!y7) (ref02_Escape (x.1, x.2)) (default : Bool)) fun y8 =>
    some (bif y7 then true else y8)
noncomputable def ref02_NumberAt (x : Str × Int) : Option Bool :=
  joinK (X := Int) (
      bindO (ref02_At (x.1, x.2)) fun y1 =>
      bif bif y1 == 43 then true else y1 == 45 then
        some (LX.out (w64 (x.2 + 1)))
      else
        some (LX.out x.2)) fun j2 =>
  joinK (X := Int) (
      bindO (ref02_At (x.1, j2)) fun y3 =>
      bif y3 == 46 then
        some (LX.out (w64 (j2 + 1)))
      else
        some (LX.out j2)) fun j4 =>
  bindO (ref02_At (x.1, j4)) fun y5 =>
  bindO (ref02_Digit y5) fun y6 =>
  some y6
noncomputable def ref02_digits (x : Str × Int) : Option Int :=
  loopK (fun (s1 : Int) =>
      bindO (ref02_At (x.1, s1)) fun y2 =>
      bindO (ref02_Digit y2) fun y3 =>
      bif y3 then
        some (LO.again (w64 (s1 + 1)))
      else
        some (LO.out s1) : Int → Option (LO (Int) (Int) _)) x.2 fun o4 =>
  some o4
noncomputable def ref02_NumberEnd (x : Str × Int) : Option (Int × Bool) :=
  joinK (X := Int) (
      bindO (ref02_At (x.1, x.2)) fun y1 =>
      bif bif y1 == 43 then true else y1 == 45 then
        some (LX.out (w64 (x.2 + 1)))
      else
        some (LX.out x.2)) fun j2 =>
  bindO (ref02_digits (x.1, j2)) fun y3 =>
  joinK (X := Int × Bool) (
      bindO (ref02_At (x.1, y3)) fun y4 =>
      bindO (condO (y4 == 46) (ref02_At (x.1, w64 (y3 + 1))) (default : Int)) fun y5 =>
      bindO (condO (y4 == 46) (ref02_Digit y5) (default : Bool)) fun y6 =>
      bif bif y4 == 46 then y6 else false then
        bindO (ref02_digits (x.1, w64 (y3 + 1))) fun y7 =>
        some (LX.out (y7, false))
      else
        some (LX.out (y3, true))) fun j8 =>
  joinK (X := Int × Bool) (
      bindO (ref02_At (x.1, j8.1)) fun y9 =>
      bif bif y9 == 101 then true else y9 == 69 then
        joinK (X := Int × Bool × Int) (
            bindO (ref02_At (x.1, w64 (j8.1 + 1))) fun y10 =>
            bif bif y10 == 43 then true else y10 == 45 then
              some (LX.out (j8.1, j8.2, w64 (w64 (j8.1 + 1) + 1)))
            else
              some (LX.out (j8.1, j8.2, w64 (j8.1 + 1)))) fun j11 =>
        bindO (ref02_At (x.1, j11.2.2)) fun y12 =>
        bindO (ref02_Digit y12) fun y13 =>
        bif y13 then
          bindO (ref02_digits (x.1, j11.2.2)) fun y14 =>
          some (LX.out (y14, false))
        else
          some (LX.out (j11.1, j11.2.1))
      else
        some (LX.out (j8.1, j8.2))) fun j15 =>
  some (j15.1, j15.2)
noncomputable def ref02_Thousandths (x : Str) : Option Int :=
  bindO (geti x 0) fun y1 =>
  joinK (X := Str × Int × Int) (
      bindO (geti x 0) fun y2 =>
      bif bif (y2.toNat : Int) == 43 then true else (y1.toNat : Int) == 45 then
        some (LX.out ([], 3, 1))
      else
        some (LX.out ([], 3, 0))) fun j3 =>
  loopK (fun (s4 : Str × Int) =>
      bindO (ref02_At (x, s4.2)) fun y5 =>
      bindO (ref02_Digit y5) fun y6 =>
      bif y6 then
        need (decide (0 ≤ s4.2) && (decide (s4.2 ≤ w64 (s4.2 + 1)) && decide (w64 (s4.2 + 1) ≤ (x.length : Int)))) <|
        need (decide (((s4.1.length + (List.drop s4.2.toNat (List.take (w64 (s4.2 + 1)).toNat x)).length : Nat) : Int) ≤ 9223372036854775807)) <|
        some (LO.again (s4.1 ++ List.drop s4.2.toNat (List.take (w64 (s4.2 + 1)).toNat x), w64 (s4.2 + 1)))
      else
        some (LO.out (s4.1, s4.2)) : Str × Int → Option (LO (Str × Int) (Str × Int) _)) (j3.1, j3.2.2) fun o7 =>
  joinK (X := Str × Int × Int) (
      bindO (ref02_At (x, o7.2)) fun y8 =>
      bif y8 == 46 then
        loopK (fun (s9 : Str × Int × Int) =>
            bindO (ref02_At (x, s9.2.2)) fun y10 =>
            bindO (ref02_Digit y10) fun y11 =>
            bif y11 then
              need (decide (0 ≤ s9.2.2) && (decide (s9.2.2 ≤ w64 (s9.2.2 + 1)) && decide (w64 (s9.2.2 + 1) ≤ (x.length : Int)))) <|
              need (decide (((s9.1.length + (List.drop s9.2.2.toNat (List.take (w64 (s9.2.2 + 1)).toNat x)).length : Nat) : Int) ≤ 9223372036854775807)) <|
              some (LO.again (s9.1 ++ List.drop s9.2.2.toNat (List.take (w64 (s9.2.2 + 1)).toNat x), w64 (s9.2.1 - 1), w64 (s9.2.2 + 1)))
            else
              some (LO.out (s9.1, s9.2.1, s9.2.2)) : Str × Int × Int → Option (LO (Str × Int × Int) (Str × Int × Int) _)) (o7.1, j3.2.1, w64 (o7.2 + 1)) fun o12 =>
        some (LX.out (o12.1, o12.2.1, o12.2.2))
      else
        some (LX.out (o7.1, j3.2.1, o7.2))) fun j13 =>
  joinK (X := Int) (
      bif decide (j13.2.2 < (x.length : Int)) then
        bindO (geti x (w64 (j13.2.2 + 1))) fun y14 =>
        joinK (X := Int × Int) (
            bindO (geti x (w64 (j13.2.2 + 1))) fun y15 =>
            bif bif (y15.toNat : Int) == 43 then true else (y14.toNat : Int) == 45 then
              some (LX.out (j13.2.1, w64 (w64 (j13.2.2 + 1) + 1)))
            else
              some (LX.out (j13.2.1, w64 (j13.2.2 + 1)))) fun j16 =>
        loopK (fun (s17 : Int × Int) =>
            bif decide (s17.1 < (x.length : Int)) then
              bindO (geti x s17.1) fun y18 =>
              some (LO.again (w64 (s17.1 + 1), if w64 (w64 (10 * s17.2) + w64 (wu8 ((y18.toNat : Int) - 48))) < 10000 then w64 (w64 (10 * s17.2) + w64 (wu8 ((y18.toNat : Int) - 48))) else 10000))
            else
              some (LO.out s17.2) : Int × Int → Option (LO (Int × Int) (Int) _)) (j16.2, 0) fun o19 =>
        joinK (X := Int × Int) (
            bif (y14.toNat : Int) == 45 then
              some (LX.out (j16.1, w64 (0 - o19)))
            else
              some (LX.out (j16.1, o19))) fun j20 =>
        some (LX.out (w64 (j20.1 + j20.2)))
      else
        some (LX.out j13.2.1)) fun j21 =>
  loopK (fun (s22 : Int × Int) =>
      bif bif decide (s22.2 < w64 ((j13.1.length : Int) + j21)) then decide (s22.2 < (j13.1.length : Int)) else false then
        bindO (geti j13.1 s22.2) fun y23 =>
        some (LO.again (if w64 (w64 (10 * s22.1) + w64 (wu8 ((y23.toNat : Int) - 48))) < 1000000000000 then w64 (w64 (10 * s22.1) + w64 (wu8 ((y23.toNat : Int) - 48))) else 1000000000000, w64 (s22.2 + 1)))
      else
        some (LO.out s22.1) : Int × Int → Option (LO (Int × Int) (Int) _)) (0, 0) fun o24 =>
  loopK (fun (s25 : Int × Int) =>
      bif bif bif decide (s25.1 > 0) then decide (s25.2 > 0) else false then decide (s25.2 < 1000000000000) else false then
        some (LO.again (w64 (s25.1 - 1), if w64 (10 * s25.2) < 1000000000000 then w64 (10 * s25.2) else 1000000000000))
      else
        some (LO.out s25.2) : Int × Int → Option (LO (Int × Int) (Int) _)) (j21, o24) fun o26 =>
  bif (y1.toNat : Int) == 45 then
    some (w64 (0 - o26))
  else
    some o26
noncomputable def ref02_numeric (x : Str × Int) : Option (VToken × Int) :=
  bindO (ref02_NumberEnd (x.1, x.2)) fun y1 =>
  need (decide (0 ≤ x.2) && (decide (x.2 ≤ y1.1) && decide (y1.1 ≤ (x.1.length : Int)))) <|
  bindO (ref02_Thousandths (List.drop x.2.toNat (List.take y1.1.toNat x.1))) fun y2 =>
  joinK (X := Int × VToken × VToken) (
      bindO (ref02_NameAt (x.1, y1.1)) fun y3 =>
      bif y3 then
        bindO (ref02_Named (x.1, y1.1)) fun y4 =>
        some (LX.out (y4.2, (⟨0, [], 0, [], false⟩ : VToken), (⟨12, [], y2, y4.1, y1.2⟩ : VToken)))
      else
        bindO (ref02_At (x.1, y1.1)) fun y5 =>
        bif y5 == 37 then
          some (LX.out (w64 (y1.1 + 1), (⟨0, [], 0, [], false⟩ : VToken), (⟨11, [], y2, [], false⟩ : VToken)))
        else
          some (LX.out (y1.1, (⟨0, [], 0, [], false⟩ : VToken), (⟨10, [], y2, [], y1.2⟩ : VToken)))) fun j6 =>
  some (j6.2.2, j6.1)
noncomputable def ref02_has (x : Str × Int × Str) : Option Bool :=
  need (decide (0 ≤ x.2.1) && (decide (x.2.1 ≤ w64 (x.2.1 + (x.2.2.length : Int))) && decide (w64 (x.2.1 + (x.2.2.length : Int)) ≤ (x.1.length : Int))) || !(decide (w64 ((x.1.length : Int) - x.2.1) ≥ (x.2.2.length : Int)))) <|
  some (bif decide (w64 ((x.1.length : Int) - x.2.1) ≥ (x.2.2.length : Int)) then List.drop x.2.1.toNat (List.take (w64 (x.2.1 + (x.2.2.length : Int))).toNat x.1) == x.2.2 else false)
noncomputable def ref01_Alike (x : Str × Str) : Option Bool :=
  bindO (ref01_Lower x.1) fun y1 =>
  bindO (ref01_Lower x.2) fun y2 =>
  some (y1 == y2)
noncomputable def ref02_bad (x : Str × Int) : Option (VToken × Int) :=
  loopK (fun (s1 : Int) =>
      bindO (condO (decide (s1 < (x.1.length : Int))) (geti x.1 s1) 0) fun y2 =>
      bif bif decide (s1 < (x.1.length : Int)) then (y2.toNat : Int) != 41 else false then
        bindO (ref02_Escape (x.1, s1)) fun y3 =>
        bif y3 then
          bindO (ref02_Escaped (x.1, s1)) fun y4 =>
          some (LO.again y4.2)
        else
          some (LO.again (w64 (s1 + 1)))
      else
        some (LO.out s1) : Int → Option (LO (Int) (Int) _)) x.2 fun o5 =>
  some ((⟨8, [], 0, [], false⟩ : VToken), if w64 (o5 + 1) < (x.1.length : Int) then w64 (o5 + 1) else (x.1.length : Int))
noncomputable def ref02_Unprintable (x : Int) : Option Bool :=
  some (bif bif bif decide (x ≤ 8) then true else x == 11 then true else bif decide (x ≥ 14) then decide (x ≤ 31) else false then true else x == 127)
noncomputable def ref02_url (x : Str × Int) : Option (VToken × Int) :=
  bindO (ref02_spaces (x.1, x.2)) fun y1 =>
  loopK (fun (s2 : Int × VToken × VToken) =>
      bindO (condO (decide (s2.1 < (x.1.length : Int))) (geti x.1 s2.1) 0) fun y3 =>
      bif bif decide (s2.1 < (x.1.length : Int)) then (y3.toNat : Int) != 41 else false then
        bindO (geti x.1 s2.1) fun y4 =>
        bindO (ref02_Space (y4.toNat : Int)) fun y5 =>
        bif y5 then
          bindO (ref02_spaces (x.1, s2.1)) fun y6 =>
          bindO (condO (decide (y6 < (x.1.length : Int))) (geti x.1 y6) 0) fun y7 =>
          bif bif decide (y6 < (x.1.length : Int)) then (y7.toNat : Int) != 41 else false then
            bindO (ref02_bad (x.1, y6)) fun y8 =>
            some (LO.ret (y8.1, y8.2))
          else
            some (LO.again (y6, s2.2.1, s2.2.2))
        else
          bindO (condO (!(bif bif (y4.toNat : Int) == 34 then true else (y4.toNat : Int) == 39 then true else (y4.toNat : Int) == 40)) (ref02_Unprintable (y4.toNat : Int)) (default : Bool)) fun y9 =>
          bindO (condO ((y4.toNat : Int) == 92 && !(bif bif bif (y4.toNat : Int) == 34 then true else (y4.toNat : Int) == 39 then true else (y4.toNat : Int) == 40 then true else y9)) (ref02_Escape (x.1, s2.1)) (default : Bool)) fun y10 =>
          bif bif bif bif bif (y4.toNat : Int) == 34 then true else (y4.toNat : Int) == 39 then true else (y4.toNat : Int) == 40 then true else y9 then true else bif (y4.toNat : Int) == 92 then !y10 else false then
            bindO (ref02_bad (x.1, s2.1)) fun y11 =>
            some (LO.ret (y11.1, y11.2))
          else
            bif (y4.toNat : Int) == 92 then
              bindO (ref02_Escaped (x.1, s2.1)) fun y12 =>
              need (decide (((s2.2.2.text.length + y12.1.length : Nat) : Int) ≤ 9223372036854775807)) <|
              some (LO.again (y12.2, s2.2.1, (⟨s2.2.2.kind, s2.2.2.text ++ y12.1, s2.2.2.num, s2.2.2.unit, s2.2.2.flag⟩ : VToken)))
            else
              need (decide (0 ≤ s2.1) && (decide (s2.1 ≤ w64 (s2.1 + 1)) && decide (w64 (s2.1 + 1) ≤ (x.1.length : Int)))) <|
              need (decide (((s2.2.2.text.length + (List.drop s2.1.toNat (List.take (w64 (s2.1 + 1)).toNat x.1)).length : Nat) : Int) ≤ 9223372036854775807)) <|
              some (LO.again (w64 (s2.1 + 1), s2.2.1, (⟨s2.2.2.kind, s2.2.2.text ++ List.drop s2.1.toNat (List.take (w64 (s2.1 + 1)).toNat x.1), s2.2.2.num, s2.2.2.unit, s2.2.2.flag⟩ : VToken)))
      else
        some (LO.out (s2.1, s2.2.1, s2.2.2)) : Int × VToken × VToken → Option (LO (Int × VToken × VToken) (Int × VToken × VToken) _)) (y1, (⟨0, [], 0, [], false⟩ : VToken), (⟨7, [], 0, [], false⟩ : VToken)) fun o13 =>
  some (o13.2.2, if w64 (o13.1 + 1) < (x.1.length : Int) then w64 (o13.1 + 1) else (x.1.length : Int))
noncomputable def ref02_word (x : Str × Int) : Option (VToken × Int) :=
  bindO (ref02_Named (x.1, x.2)) fun y1 =>
  bindO (ref02_At (x.1, y1.2)) fun y2 =>
  bif y2 != 40 then
    some ((⟨1, y1.1, 0, [], false⟩ : VToken), y1.2)
  else
    joinK (X := VToken) (
        bindO (ref01_Alike (y1.1, [117, 114, 108])) fun y3 =>
        bif y3 then
          bindO (ref02_spaces (x.1, w64 (y1.2 + 1))) fun y4 =>
          bindO (ref02_At (x.1, y4)) fun y5 =>
          bif bif y5 != 34 then y5 != 39 else false then
            bindO (ref02_url (x.1, w64 (y1.2 + 1))) fun y6 =>
            some (LX.ret (y6.1, y6.2))
          else
            some (LX.out (⟨0, [], 0, [], false⟩ : VToken))
        else
          some (LX.out (⟨0, [], 0, [], false⟩ : VToken))) fun j7 =>
    some ((⟨2, y1.1, 0, [], false⟩ : VToken), w64 (y1.2 + 1))
noncomputable def ref02_mark (x : Int) : Option Int :=
  bif x == 58 then
    some 16
  else
    bif x == 59 then
      some 17
    else
      bif x == 44 then
        some 18
      else
        bif x == 91 then
          some 19
        else
          bif x == 93 then
            some 20
          else
            bif x == 40 then
              some 21
            else
              bif x == 41 then
                some 22
              else
                bif x == 123 then
                  some 23
                else
                  bif x == 125 then
                    some 24
                  else
                    some 0
noncomputable def ref02_One (x : Str × Int) : Option (VToken × Int) :=
  bindO (geti x.1 x.2) fun y1 =>
  bindO (ref02_Space (y1.toNat : Int)) fun y2 =>
  bif y2 then
    bindO (ref02_spaces (x.1, x.2)) fun y3 =>
    some ((⟨13, [], 0, [], false⟩ : VToken), y3)
  else
    bif bif (y1.toNat : Int) == 34 then true else (y1.toNat : Int) == 39 then
      bindO (ref02_quoted (x.1, x.2)) fun y4 =>
      some (y4.1, y4.2)
    else
      bindO (condO (decide (w64 (x.2 + 1) < (x.1.length : Int)) && (y1.toNat : Int) == 35) (geti x.1 (w64 (x.2 + 1))) 0) fun y5 =>
      bindO (condO (decide (w64 (x.2 + 1) < (x.1.length : Int)) && (y1.toNat : Int) == 35) (ref02_Letter (y5.toNat : Int)) (default : Bool)) fun y6 =>
      bindO (condO (!(bif decide (w64 (x.2 + 1) < (x.1.length : Int)) then y6 else false) && (y1.toNat : Int) == 35) (ref02_Escape (x.1, w64 (x.2 + 1))) (default : Bool)) fun y7 =>
      bif bif (y1.toNat : Int) == 35 then bif bif decide (w64 (x.2 + 1) < (x.1.length : Int)) then y6 else false then true else y7 else false then
        bindO (ref02_Named (x.1, w64 (x.2 + 1))) fun y8 =>
        bindO (ref02_NameAt (x.1, w64 (x.2 + 1))) fun y9 =>
        some ((⟨4, y8.1, 0, [], y9⟩ : VToken), y8.2)
      else
        bindO (ref02_NumberAt (x.1, x.2)) fun y10 =>
        bif y10 then
          bindO (ref02_numeric (x.1, x.2)) fun y11 =>
          some (y11.1, y11.2)
        else
          bindO (ref02_has (x.1, x.2, [45, 45, 62])) fun y12 =>
          bif y12 then
            some ((⟨15, [], 0, [], false⟩ : VToken), w64 (x.2 + 3))
          else
            bindO (ref02_has (x.1, x.2, [60, 33, 45, 45])) fun y13 =>
            bif y13 then
              some ((⟨14, [], 0, [], false⟩ : VToken), w64 (x.2 + 4))
            else
              bindO (condO ((y1.toNat : Int) == 64) (ref02_NameAt (x.1, w64 (x.2 + 1))) (default : Bool)) fun y14 =>
              bif bif (y1.toNat : Int) == 64 then y14 else false then
                bindO (ref02_Named (x.1, w64 (x.2 + 1))) fun y15 =>
                some ((⟨3, y15.1, 0, [], false⟩ : VToken), y15.2)
              else
                bindO (ref02_NameAt (x.1, x.2)) fun y16 =>
                bif y16 then
                  bindO (ref02_word (x.1, x.2)) fun y17 =>
                  some (y17.1, y17.2)
                else
                  bindO (ref02_mark (y1.toNat : Int)) fun y18 =>
                  bif y18 != 0 then
                    bindO (ref02_mark (y1.toNat : Int)) fun y19 =>
                    some ((⟨y19, [], 0, [], false⟩ : VToken), w64 (x.2 + 1))
                  else
                    need (decide (0 ≤ x.2) && (decide (x.2 ≤ w64 (x.2 + 1)) && decide (w64 (x.2 + 1) ≤ (x.1.length : Int)))) <|
                    some ((⟨9, List.drop x.2.toNat (List.take (w64 (x.2 + 1)).toNat x.1), 0, [], false⟩ : VToken), w64 (x.2 + 1))
noncomputable def ref03_Delim (x : Int) : Option Bool :=
  bindO (byteO x) fun y1 =>
  bindO (ref02_One ([y1, (10 : UInt8)], 0)) fun y2 =>
  some (bif bif bif bif decide (x ≥ 1) then decide (x ≤ 127) else false then x != 12 else false then x != 13 else false then y2.1.kind == 9 else false)
noncomputable def ref03_Fine (x : VToken) : Option Bool :=
  joinK (X := Bool × VToken) (
      bif x.kind == 1 then
        some (LX.out (x.kind == 1, x))
      else
        bif x.kind == 2 then
          some (LX.out (x.kind == 2, x))
        else
          some (LX.out (x.kind == 3, x))) fun j1 =>
  bif j1.1 then
    bindO (condO (!(x.text == [])) (ref03_whole x.text) (default : Bool)) fun y2 =>
    some (bif bif !(x.text == []) then y2 else false then j1.2.kind == x.kind && (([] : Str) == [] && (j1.2.num == 0 && (j1.2.unit == [] && (j1.2.flag == false && true)))) else false)
  else
    bif x.kind == 4 then
      bindO (condO (!(x.text == [])) (ref03_whole x.text) (default : Bool)) fun y3 =>
      bindO (condO (!x.flag && (bif !(x.text == []) then y3 else false)) (ref03_Bare x.text) (default : Bool)) fun y4 =>
      some (bif bif bif !(x.text == []) then y3 else false then bif x.flag then true else y4 else false then j1.2.kind == x.kind && (([] : Str) == [] && (j1.2.num == 0 && (j1.2.unit == [] && (false == false && true)))) else false)
    else
      joinK (X := Bool × VToken) (
          bif x.kind == 5 then
            some (LX.out (x.kind == 5, j1.2))
          else
            some (LX.out (x.kind == 7, j1.2))) fun j5 =>
      bif j5.1 then
        bindO (ref03_whole x.text) fun y6 =>
        some (bif y6 then j5.2.kind == x.kind && (([] : Str) == [] && (j5.2.num == 0 && (j5.2.unit == [] && (j5.2.flag == false && true)))) else false)
      else
        bif x.kind == 9 then
          bindO (condO ((x.text.length : Int) == 1) (geti x.text 0) 0) fun y7 =>
          bindO (condO ((x.text.length : Int) == 1) (ref03_Delim (y7.toNat : Int)) (default : Bool)) fun y8 =>
          some (bif bif (x.text.length : Int) == 1 then y8 else false then j5.2.kind == x.kind && (([] : Str) == [] && (j5.2.num == 0 && (j5.2.unit == [] && (j5.2.flag == false && true)))) else false)
        else
          joinK (X := Bool × VToken) (
              bif x.kind == 10 then
                some (LX.out (x.kind == 10, j5.2))
              else
                bif x.kind == 11 then
                  some (LX.out (x.kind == 11, j5.2))
                else
                  some (LX.out (x.kind == 12, j5.2))) fun j9 =>
          bif j9.1 then
            bindO (condO ((!(x.unit == [])) == (x.kind == 12)) (ref03_whole x.unit) (default : Bool)) fun y10 =>
            some (bif bif bif bif bif decide (x.num ≥ (-1000000000000)) then decide (x.num ≤ 1000000000000) else false then bif !x.flag then true else Int.tmod x.num 1000 == 0 else false then bif (!(x.unit == [])) == (x.kind == 12) then y10 else false else false then bif x.kind != 11 then true else !x.flag else false then j9.2.kind == x.kind && (j9.2.text == [] && (0 == 0 && (([] : Str) == [] && (false == false && true)))) else false)
          else
            joinK (X := Bool) (
                bif x.kind == 6 then
                  some (LX.out (x.kind == 6))
                else
                  some (LX.out (x.kind == 8))) fun j11 =>
            bif j11 then
              some false
            else
              some (bif bif decide (x.kind ≥ 1) then decide (x.kind ≤ 24) else false then x.kind == x.kind && (x.text == [] && (x.num == 0 && (x.unit == [] && (x.flag == false && true)))) else false)
noncomputable def ref03_Check (x : List VToken) : Option Int :=
  bif decide ((x.length : Int) > 1500) then
    some 4
  else
    loopK (fun (s1 : Int) =>
        bif decide (s1 < (x.length : Int)) then
          bindO (geti x s1) fun y2 =>
          bindO (ref03_Fine y2) fun y3 =>
          bif !y3 then
            some (LO.ret 8)
          else
            joinK (X := Unit) (
                bindO (geti x s1) fun y4 =>
                bindO (condO (y4.kind == 2) (geti x s1) (default : VToken)) fun y5 =>
                bindO (condO (y4.kind == 2) (ref01_Alike (y5.text, [117, 114, 108])) (default : Bool)) fun y6 =>
                bif bif y4.kind == 2 then y6 else false then
                  joinK (X := Int) (
                      bindO (condO (decide (w64 (s1 + 1) < (x.length : Int))) (geti x (w64 (s1 + 1))) (default : VToken)) fun y7 =>
                      bif bif decide (w64 (s1 + 1) < (x.length : Int)) then y7.kind == 13 else false then
                        some (LX.out (w64 (w64 (s1 + 1) + 1)))
                      else
                        some (LX.out (w64 (s1 + 1)))) fun j8 =>
                  bindO (condO (!(decide (j8 ≥ (x.length : Int)))) (geti x j8) (default : VToken)) fun y9 =>
                  bif bif decide (j8 ≥ (x.length : Int)) then true else y9.kind != 5 then
                    some (LX.ret (LO.ret 8))
                  else
                    some (LX.out ())
                else
                  some (LX.out ())) fun j10 =>
            bindO (geti x s1) fun y11 =>
            bindO (condO (y11.kind == 9) (geti x s1) (default : VToken)) fun y12 =>
            bindO (condO (!(w64 (s1 + 1) == (x.length : Int)) && (bif y11.kind == 9 then y12.text == [92] else false)) (geti x (w64 (s1 + 1))) (default : VToken)) fun y13 =>
            bif bif bif y11.kind == 9 then y12.text == [92] else false then bif w64 (s1 + 1) == (x.length : Int) then true else y13.kind != 13 else false then
              some (LO.ret 8)
            else
              some (LO.again (w64 (s1 + 1)))
        else
          some (LO.out ()) : Int → Option (LO (Int) (Unit) _)) 0 fun o14 =>
    some 0
noncomputable def ref05_closers_B (ref05_closers : List VValue → Option Bool) (x : List VValue) : Option Bool :=
  loopK (fun (s1 : Int) =>
      bif decide (s1 < (x.length : Int)) then
        bindO (geti x s1) fun y2 =>
        bindO (condO (!(bif bif y2.token.kind == 20 then true else y2.token.kind == 22 then true else y2.token.kind == 24)) (geti x s1) (default : VValue)) fun y3 =>
        bindO (condO (!(bif bif y2.token.kind == 20 then true else y2.token.kind == 22 then true else y2.token.kind == 24)) (ref05_closers y3.list) (default : Bool)) fun y4 =>
        bif bif bif bif y2.token.kind == 20 then true else y2.token.kind == 22 then true else y2.token.kind == 24 then true else y4 then
          some (LO.ret true)
        else
          some (LO.again (w64 (s1 + 1)))
      else
        some (LO.out ()) : Int → Option (LO (Int) (Unit) _)) 0 fun o5 =>
  some false
noncomputable def ref05_closers : List VValue → Option Bool := recE (ref05_closers_B)
noncomputable def ref04_Trimmed (x : List VValue) : Option (List VValue) :=
  loopK (fun (s1 : List VValue) =>
      bindO (condO (decide ((s1.length : Int) > 0)) (geti s1 0) (default : VValue)) fun y2 =>
      bif bif decide ((s1.length : Int) > 0) then y2.token.kind == 13 else false then
        need (decide (1 ≤ (s1.length : Int))) <|
        some (LO.again (List.drop 1 s1))
      else
        some (LO.out s1) : List VValue → Option (LO (List VValue) (List VValue) _)) x fun o3 =>
  loopK (fun (s4 : List VValue) =>
      bindO (condO (decide ((s4.length : Int) > 0)) (geti s4 (w64 ((s4.length : Int) - 1))) (default : VValue)) fun y5 =>
      bif bif decide ((s4.length : Int) > 0) then y5.token.kind == 13 else false then
        need (decide (0 ≤ w64 ((s4.length : Int) - 1)) && decide (w64 ((s4.length : Int) - 1) ≤ (s4.length : Int))) <|
        some (LO.again (List.take (w64 ((s4.length : Int) - 1)).toNat s4))
      else
        some (LO.out s4) : List VValue → Option (LO (List VValue) (List VValue) _)) o3 fun o6 =>
  some o6
noncomputable def ref05_Custom (x : Str) : Option Bool :=
  need (decide (2 ≤ (x.length : Int)) || !(decide ((x.length : Int) > 2))) <|
  some (bif decide ((x.length : Int) > 2) then List.take 2 x == [45, 45] else false)
noncomputable def ref05_Valued (x : Str × List VValue) : Option Bool :=
  bindO (ref04_Check x.2) fun y1 =>
  bindO (condO (!(y1 != 0)) (ref04_Tokens x.2) (default : List VToken)) fun y2 =>
  bindO (condO (!(y1 != 0)) (ref03_Check y2) (default : Int)) fun y3 =>
  bindO (condO (!(bif y1 != 0 then true else y3 != 0)) (ref05_closers x.2) (default : Bool)) fun y4 =>
  bif bif bif y1 != 0 then true else y3 != 0 then true else y4 then
    some false
  else
    bindO (ref04_Trimmed x.2) fun y5 =>
    bindO (condO ((x.2.length : Int) == 0 && !((y5.length : Int) != (x.2.length : Int))) (ref05_Custom x.1) (default : Bool)) fun y6 =>
    bif bif (y5.length : Int) != (x.2.length : Int) then true else bif (x.2.length : Int) == 0 then !y6 else false then
      some false
    else
      loopK (fun (s7 : Int) =>
          bif decide (s7 < (x.2.length : Int)) then
            bindO (geti x.2 s7) fun y8 =>
            bif bif y8.token.kind == 17 then true else bif y8.token.kind == 9 then y8.token.text == [33] else false then
              some (LO.ret false)
            else
              some (LO.again (w64 (s7 + 1)))
          else
            some (LO.out ()) : Int → Option (LO (Int) (Unit) _)) 0 fun o9 =>
      some true
noncomputable def ref05_Check (x : VDecl) : Option Int :=
  bindO (ref05_Named x.name) fun y1 =>
  bindO (condO (!(!y1)) (ref05_Valued (x.name, x.value)) (default : Bool)) fun y2 =>
  bif bif !y1 then true else !y2 then
    some 8
  else
    some 0
noncomputable def ref10_plain (x : VDecl) : Option Bool :=
  some (bif bif x.name == [] then (x.value.length : Int) == 0 else false then !x.important else false)
noncomputable def ref10_listed (x : VCond) : Option Bool :=
  bindO (condO (bif x.name == [] then x.num == 0 else false) (ref10_plain x.decl) (default : Bool)) fun y1 =>
  some (bif bif x.name == [] then x.num == 0 else false then y1 else false)
noncomputable def ref10_medium (x : Str) : Option Bool :=
  bindO (condO (!(bif x == [] then true else decide ((x.length : Int) > 64))) (ref01_Lower x) (default : Str)) fun y1 =>
  bif bif bif bif bif bif bif x == [] then true else decide ((x.length : Int) > 64) then true else !(x == y1) then true else x == [97, 110, 100] then true else x == [111, 114] then true else x == [110, 111, 116] then true else x == [111, 110, 108, 121] then
    some false
  else
    loopK (fun (s2 : Int) =>
        bif decide (s2 < (x.length : Int)) then
          bindO (geti x s2) fun y3 =>
          bif (y3.toNat : Int) == 0 then
            some (LO.ret false)
          else
            some (LO.again (w64 (s2 + 1)))
        else
          some (LO.out ()) : Int → Option (LO (Int) (Unit) _)) 0 fun o4 =>
    some true
noncomputable def ref06_Is (x : Int) : Option Bool :=
  some (bif decide (x ≥ (-1000000000000)) then decide (x ≤ 1000000000000) else false)
noncomputable def ref10_all (x : VCond) : Option (Bool × Bool) :=
  bindO (condO (!(x.kind != 1)) (ref10_listed (⟨x.kind, x.name, x.num, x.decl, x.list⟩ : VCond)) (default : Bool)) fun y1 =>
  bif bif bif x.kind != 1 then true else !y1 then true else (x.list.length : Int) == 0 then
    some (false, false)
  else
    loopK (fun (s2 : Int) =>
        bif decide (s2 < (x.list.length : Int)) then
          joinK (X := Int) (
              bindO (geti x.list s2) fun y3 =>
              bindO (condO (!(decide ((y3.list.length : Int) > 0))) (ref10_plain y3.decl) (default : Bool)) fun y4 =>
              bif bif decide ((y3.list.length : Int) > 0) then true else !y4 then
                some (LX.ret (LO.ret (false, false)))
              else
                bindO (condO (bif bif s2 == 0 then y3.kind == 4 else false then y3.num == 0 else false) (ref10_medium y3.name) (default : Bool)) fun y5 =>
                bif bif bif bif s2 == 0 then y3.kind == 4 else false then y3.num == 0 else false then y5 else false then
                  some (LX.out s2)
                else
                  bindO (condO (!(bif bif bif y3.kind != 5 then y3.kind != 6 else false then true else !(y3.name == []) then true else decide (y3.num < 0))) (ref06_Is y3.num) (default : Bool)) fun y6 =>
                  bif bif bif bif bif y3.kind != 5 then y3.kind != 6 else false then true else !(y3.name == []) then true else decide (y3.num < 0) then true else !y6 then
                    some (LX.ret (LO.ret (false, false)))
                  else
                    some (LX.out s2)) fun j7 =>
          some (LO.again (w64 (j7 + 1)))
        else
          some (LO.out ()) : Int → Option (LO (Int) (Unit) _)) 0 fun o8 =>
    bindO (geti x.list 0) fun y9 =>
    some (true, y9.kind == 4)
noncomputable def ref10_query (x : VCond) : Option Bool :=
  bif x.kind == 3 then
    bindO (ref10_listed (⟨x.kind, x.name, x.num, x.decl, x.list⟩ : VCond)) fun y1 =>
    bif bif !y1 then true else (x.list.length : Int) != 1 then
      some false
    else
      bindO (geti x.list 0) fun y2 =>
      bindO (ref10_all (⟨y2.kind, y2.name, y2.num, y2.decl, y2.list⟩ : VCond)) fun y3 =>
      some (bif y3.1 then y3.2 else false)
  else
    bindO (ref10_all (⟨x.kind, x.name, x.num, x.decl, x.list⟩ : VCond)) fun y4 =>
    some y4.1
noncomputable def ref10_Medial (x : VCond) : Option Bool :=
  bindO (ref10_listed (⟨x.kind, x.name, x.num, x.decl, x.list⟩ : VCond)) fun y1 =>
  bif !y1 then
    some false
  else
    bif x.kind == 1 then
      some ((x.list.length : Int) == 0)
    else
      bif bif bif x.kind != 2 then true else decide ((x.list.length : Int) < 1) then true else decide ((x.list.length : Int) > 64) then
        some false
      else
        loopK (fun (s2 : Int) =>
            bif decide (s2 < (x.list.length : Int)) then
              bindO (geti x.list s2) fun y3 =>
              bindO (ref10_query (⟨y3.kind, y3.name, y3.num, y3.decl, y3.list⟩ : VCond)) fun y4 =>
              bif !y4 then
                some (LO.ret false)
              else
                some (LO.again (w64 (s2 + 1)))
            else
              some (LO.out ()) : Int → Option (LO (Int) (Unit) _)) 0 fun o5 =>
        some true
noncomputable def ref10_Deep_B (ref10_Deep : VCond → Option Int) (x : VCond) : Option Int :=
  bif x.kind == 7 then
    bindO (ref04_Deep x.decl.value) fun y1 =>
    some (w64 (1 + y1))
  else
    bif x.kind == 8 then
      some 1
    else
      loopK (fun (s2 : Int × Int) =>
          bif decide (s2.2 < (x.list.length : Int)) then
            bindO (geti x.list s2.2) fun y3 =>
            joinK (X := Int × Int) (
                bif bif y3.kind == 7 then true else y3.kind == 8 then
                  some (LX.out (s2.1, 0))
                else
                  some (LX.out (s2.1, 1))) fun j4 =>
            bindO (geti x.list s2.2) fun y5 =>
            bindO (ref10_Deep (⟨y5.kind, y5.name, y5.num, y5.decl, y5.list⟩ : VCond)) fun y6 =>
            some (LO.again (if w64 (j4.2 + y6) > j4.1 then w64 (j4.2 + y6) else j4.1, w64 (s2.2 + 1)))
          else
            some (LO.out s2.1) : Int × Int → Option (LO (Int × Int) (Int) _)) (0, 0) fun o7 =>
      some o7
noncomputable def ref10_Deep : VCond → Option Int := recE (ref10_Deep_B)
noncomputable def ref10_supported_B (ref10_supported : VCond → Option Bool) (x : VCond) : Option Bool :=
  bif x.kind == 7 then
    bindO (condO (bif bif x.name == [] then x.num == 0 else false then (x.list.length : Int) == 0 else false) (ref05_Check x.decl) (default : Int)) fun y1 =>
    some (bif bif bif x.name == [] then x.num == 0 else false then (x.list.length : Int) == 0 else false then y1 == 0 else false)
  else
    bif x.kind == 8 then
      bindO (ref10_listed (⟨x.kind, x.name, x.num, x.decl, x.list⟩ : VCond)) fun y2 =>
      some (bif y2 then (x.list.length : Int) == 0 else false)
    else
      bif x.kind == 3 then
        bindO (ref10_listed (⟨x.kind, x.name, x.num, x.decl, x.list⟩ : VCond)) fun y3 =>
        bindO (condO (bif y3 then (x.list.length : Int) == 1 else false) (geti x.list 0) (default : VCond)) fun y4 =>
        bindO (condO (bif y3 then (x.list.length : Int) == 1 else false) (ref10_supported (⟨y4.kind, y4.name, y4.num, y4.decl, y4.list⟩ : VCond)) (default : Bool)) fun y5 =>
        some (bif bif y3 then (x.list.length : Int) == 1 else false then y5 else false)
      else
        joinK (X := Bool) (
            bif x.kind == 1 then
              some (LX.out (x.kind == 1))
            else
              some (LX.out (x.kind == 2))) fun j6 =>
        bif j6 then
          bindO (ref10_listed (⟨x.kind, x.name, x.num, x.decl, x.list⟩ : VCond)) fun y7 =>
          bif bif !y7 then true else decide ((x.list.length : Int) < 2) then
            some false
          else
            loopK (fun (s8 : Int) =>
                bif decide (s8 < (x.list.length : Int)) then
                  bindO (geti x.list s8) fun y9 =>
                  bindO (ref10_supported (⟨y9.kind, y9.name, y9.num, y9.decl, y9.list⟩ : VCond)) fun y10 =>
                  bif !y10 then
                    some (LO.ret false)
                  else
                    some (LO.again (w64 (s8 + 1)))
                else
                  some (LO.out ()) : Int → Option (LO (Int) (Unit) _)) 0 fun o11 =>
            some true
        else
          some false
noncomputable def ref10_supported : VCond → Option Bool := recE (ref10_supported_B)
noncomputable def ref10_Supportive (x : VCond) : Option Bool :=
  bindO (ref10_Size ((⟨x.kind, x.name, x.num, x.decl, x.list⟩ : VCond), 1500)) fun y1 =>
  bindO (condO (decide (y1 ≤ 1500)) (ref10_Deep (⟨x.kind, x.name, x.num, x.decl, x.list⟩ : VCond)) (default : Int)) fun y2 =>
  bindO (condO (bif decide (y1 ≤ 1500) then decide (y2 ≤ 16) else false) (ref10_supported (⟨x.kind, x.name, x.num, x.decl, x.list⟩ : VCond)) (default : Bool)) fun y3 =>
  some (bif bif decide (y1 ≤ 1500) then decide (y2 ≤ 16) else false then y3 else false)
noncomputable def ref11_pathed (x : List Str) : Option Bool :=
  bif bif decide ((x.length : Int) < 1) then true else decide ((x.length : Int) > 16) then
    some false
  else
    loopK (fun (s1 : Int) =>
        bif decide (s1 < (x.length : Int)) then
          bindO (geti x s1) fun y2 =>
          bindO (ref08_Named y2) fun y3 =>
          bif !y3 then
            some (LO.ret false)
          else
            some (LO.again (w64 (s1 + 1)))
        else
          some (LO.out ()) : Int → Option (LO (Int) (Unit) _)) 0 fun o4 =>
    some true
noncomputable def ref11_shaped_B (ref11_shaped : VRule → Option Bool) (x : VRule) : Option Bool :=
  joinK (X := Unit) (
      bif x.kind == 1 then
        bindO (ref08_Check x.selectors) fun y1 =>
        bindO (condO (!(bif y1 != 0 then true else decide ((x.decls.length : Int) > 32))) (ref11_none (⟨x.cond.kind, x.cond.name, x.cond.num, x.cond.decl, x.cond.list⟩ : VCond)) (default : Bool)) fun y2 =>
        bif bif bif bif bif y1 != 0 then true else decide ((x.decls.length : Int) > 32) then true else !y2 then true else decide ((x.names.length : Int) > 0) then true else decide ((x.rules.length : Int) > 0) then
          some (LX.ret false)
        else
          loopK (fun (s3 : Int) =>
              bif decide (s3 < (x.decls.length : Int)) then
                bindO (geti x.decls s3) fun y4 =>
                bindO (ref05_Check y4) fun y5 =>
                bif y5 != 0 then
                  some (LO.ret (LX.ret false))
                else
                  some (LO.again (w64 (s3 + 1)))
              else
                some (LO.out ()) : Int → Option (LO (Int) (Unit) _)) 0 fun o6 =>
          some (LX.ret true)
      else
        bif x.kind == 2 then
          bindO (condO (!(bif !(bif (x.selectors.length : Int) == 0 then (x.decls.length : Int) == 0 else false) then true else decide ((x.names.length : Int) > 0))) (ref10_Medial (⟨x.cond.kind, x.cond.name, x.cond.num, x.cond.decl, x.cond.list⟩ : VCond)) (default : Bool)) fun y7 =>
          bif bif bif !(bif (x.selectors.length : Int) == 0 then (x.decls.length : Int) == 0 else false) then true else decide ((x.names.length : Int) > 0) then true else !y7 then
            some (LX.ret false)
          else
            some (LX.out ())
        else
          bif x.kind == 3 then
            bindO (condO (!(bif !(bif (x.selectors.length : Int) == 0 then (x.decls.length : Int) == 0 else false) then true else decide ((x.names.length : Int) > 0))) (ref10_Supportive (⟨x.cond.kind, x.cond.name, x.cond.num, x.cond.decl, x.cond.list⟩ : VCond)) (default : Bool)) fun y8 =>
            bif bif bif !(bif (x.selectors.length : Int) == 0 then (x.decls.length : Int) == 0 else false) then true else decide ((x.names.length : Int) > 0) then true else !y8 then
              some (LX.ret false)
            else
              some (LX.out ())
          else
            bif x.kind == 4 then
              bindO (condO (!(!(bif (x.selectors.length : Int) == 0 then (x.decls.length : Int) == 0 else false))) (ref11_none (⟨x.cond.kind, x.cond.name, x.cond.num, x.cond.decl, x.cond.list⟩ : VCond)) (default : Bool)) fun y9 =>
              bif bif bif !(bif (x.selectors.length : Int) == 0 then (x.decls.length : Int) == 0 else false) then true else !y9 then true else decide ((x.names.length : Int) > 1) then
                some (LX.ret false)
              else
                some (LX.out ())
            else
              bif x.kind == 5 then
                bindO (condO (!(!(bif (x.selectors.length : Int) == 0 then (x.decls.length : Int) == 0 else false))) (ref11_none (⟨x.cond.kind, x.cond.name, x.cond.num, x.cond.decl, x.cond.list⟩ : VCond)) (default : Bool)) fun y10 =>
                bif bif bif bif bif !(bif (x.selectors.length : Int) == 0 then (x.decls.length : Int) == 0 else false) then true else !y10 then true else decide ((x.names.length : Int) < 1) then true else decide ((x.names.length : Int) > 64) then true else decide ((x.rules.length : Int) > 0) then
                  some (LX.ret false)
                else
                  some (LX.out ())
              else
                some (LX.ret false)) fun j11 =>
  loopK (fun (s12 : Int) =>
      bif decide (s12 < (x.names.length : Int)) then
        bindO (geti x.names s12) fun y13 =>
        bindO (ref11_pathed y13) fun y14 =>
        bif !y14 then
          some (LO.ret false)
        else
          some (LO.again (w64 (s12 + 1)))
      else
        some (LO.out ()) : Int → Option (LO (Int) (Unit) _)) 0 fun o15 =>
  loopK (fun (s16 : Int) =>
      bif decide (s16 < (x.rules.length : Int)) then
        bindO (geti x.rules s16) fun y17 =>
        bindO (ref11_shaped (⟨y17.kind, y17.selectors, y17.decls, (⟨y17.cond.kind, y17.cond.name, y17.cond.num, y17.cond.decl, y17.cond.list⟩ : VCond), y17.names, y17.rules⟩ : VRule)) fun y18 =>
        bif !y18 then
          some (LO.ret false)
        else
          some (LO.again (w64 (s16 + 1)))
      else
        some (LO.out ()) : Int → Option (LO (Int) (Unit) _)) 0 fun o19 =>
  some true
noncomputable def ref11_shaped : VRule → Option Bool := recE (ref11_shaped_B)
noncomputable def ref08_First (x : VSimple) : Option Bool :=
  some (bif bif bif x.kind == 9 then true else x.kind == 10 then !x.of_ else false then x.anb.a == 0 && (x.anb.b == 1 && true) else false)
noncomputable def ref11_selected_B (ref11_selected : List VComplex → Option Int) (x : List VComplex) : Option Int :=
  loopK (fun (s1 : Int × Int) =>
      bif decide (s1.2 < (x.length : Int)) then
        loopK (fun (s2 : Int × Int) =>
            bindO (geti x s1.2) fun y3 =>
            bif decide (s2.2 < (y3.parts.length : Int)) then
              bindO (geti x s1.2) fun y4 =>
              bindO (geti y4.parts s2.2) fun y5 =>
              loopK (fun (s6 : Int × Int) =>
                  bif decide (s6.2 < (y5.simples.length : Int)) then
                    joinK (X := Int × Int) (
                        bindO (geti y5.simples s6.2) fun y7 =>
                        bindO (condO (!(y7.kind == 3)) (geti y5.simples s6.2) (default : VSimple)) fun y8 =>
                        bindO (condO (decide (y8.kind ≥ 9) && !(y7.kind == 3)) (geti y5.simples s6.2) (default : VSimple)) fun y9 =>
                        bindO (condO (decide (y8.kind ≥ 9) && !(y7.kind == 3)) (ref08_First (⟨y9.kind, y9.name, y9.op, y9.value, y9.fold, y9.anb, y9.of_, y9.list⟩ : VSimple)) (default : Bool)) fun y10 =>
                        bif bif y7.kind == 3 then true else bif decide (y8.kind ≥ 9) then !y10 else false then
                          bindO (geti y5.simples s6.2) fun y11 =>
                          bindO (ref11_selected y11.list) fun y12 =>
                          some (LX.out (if w64 (1 + y12) > s6.1 then w64 (1 + y12) else s6.1, s6.2))
                        else
                          some (LX.out (s6.1, s6.2))) fun j13 =>
                    some (LO.again (j13.1, w64 (j13.2 + 1)))
                  else
                    some (LO.out s6.1) : Int × Int → Option (LO (Int × Int) (Int) _)) (s2.1, 0) fun o14 =>
              some (LO.again (o14, w64 (s2.2 + 1)))
            else
              some (LO.out s2.1) : Int × Int → Option (LO (Int × Int) (Int) _)) (s1.1, 0) fun o15 =>
        some (LO.again (o15, w64 (s1.2 + 1)))
      else
        some (LO.out s1.1) : Int × Int → Option (LO (Int × Int) (Int) _)) (0, 0) fun o16 =>
  some o16
noncomputable def ref11_selected : List VComplex → Option Int := recE (ref11_selected_B)
noncomputable def ref11_conditioned (x : VRule) : Option Int :=
  bif x.kind == 3 then
    bindO (ref10_Deep (⟨x.cond.kind, x.cond.name, x.cond.num, x.cond.decl, x.cond.list⟩ : VCond)) fun y1 =>
    some y1
  else
    loopK (fun (s2 : Int × Int) =>
        bif decide (s2.2 < (x.cond.list.length : Int)) then
          bindO (geti x.cond.list s2.2) fun y3 =>
          joinK (X := Int × VCond) (
              bif bif y3.kind == 3 then (y3.list.length : Int) == 1 else false then
                bindO (geti y3.list 0) fun y4 =>
                some (LX.out (s2.1, (⟨y4.kind, y4.name, y4.num, y4.decl, y4.list⟩ : VCond)))
              else
                some (LX.out (s2.1, (⟨y3.kind, y3.name, y3.num, y3.decl, y3.list⟩ : VCond)))) fun j5 =>
          loopK (fun (s6 : Int × Int) =>
              bif decide (s6.2 < (j5.2.list.length : Int)) then
                joinK (X := Int × Int) (
                    bindO (geti j5.2.list s6.2) fun y7 =>
                    bif y7.kind != 4 then
                      some (LX.out (1, s6.2))
                    else
                      some (LX.out (s6.1, s6.2))) fun j8 =>
                some (LO.again (j8.1, w64 (j8.2 + 1)))
              else
                some (LO.out s6.1) : Int × Int → Option (LO (Int × Int) (Int) _)) (j5.1, 0) fun o9 =>
          some (LO.again (o9, w64 (s2.2 + 1)))
        else
          some (LO.out s2.1) : Int × Int → Option (LO (Int × Int) (Int) _)) (0, 0) fun o10 =>
    some o10
noncomputable def ref11_Deep_B (ref11_Deep : List VRule → Option Int) (x : List VRule) : Option Int :=
  loopK (fun (s1 : Int × Int) =>
      bif decide (s1.2 < (x.length : Int)) then
        joinK (X := Int × Int) (
            bindO (geti x s1.2) fun y2 =>
            bif y2.kind == 5 then
              some (LX.out (s1.1, s1.2))
            else
              bindO (geti x s1.2) fun y3 =>
              bindO (ref11_Deep y3.rules) fun y4 =>
              loopK (fun (s5 : Int × Int) =>
                  bindO (geti x s1.2) fun y6 =>
                  bif decide (s5.2 < (y6.decls.length : Int)) then
                    bindO (geti x s1.2) fun y7 =>
                    bindO (geti y7.decls s5.2) fun y8 =>
                    bindO (ref04_Deep y8.value) fun y9 =>
                    some (LO.again (if y9 > s5.1 then y9 else s5.1, w64 (s5.2 + 1)))
                  else
                    some (LO.out s5.1) : Int × Int → Option (LO (Int × Int) (Int) _)) (y4, 0) fun o10 =>
              bindO (geti x s1.2) fun y11 =>
              bindO (ref11_selected y11.selectors) fun y12 =>
              bindO (geti x s1.2) fun y13 =>
              bindO (ref11_conditioned (⟨y13.kind, y13.selectors, y13.decls, (⟨y13.cond.kind, y13.cond.name, y13.cond.num, y13.cond.decl, y13.cond.list⟩ : VCond), y13.names, y13.rules⟩ : VRule)) fun y14 =>
              some (LX.out (if y14 > (if y12 > (if w64 (1 + o10) > s1.1 then w64 (1 + o10) else s1.1) then y12 else if w64 (1 + o10) > s1.1 then w64 (1 + o10) else s1.1) then y14 else if y12 > (if w64 (1 + o10) > s1.1 then w64 (1 + o10) else s1.1) then y12 else if w64 (1 + o10) > s1.1 then w64 (1 + o10) else s1.1, s1.2))) fun j15 =>
        some (LO.again (j15.1, w64 (j15.2 + 1)))
      else
        some (LO.out s1.1) : Int × Int → Option (LO (Int × Int) (Int) _)) (0, 0) fun o16 =>
  some o16
noncomputable def ref11_Deep : List VRule → Option Int := recE (ref11_Deep_B)
noncomputable def ref11_Valid (x : List VRule) : Option Bool :=
  bindO (ref11_Number x) fun y1 =>
  bif decide (y1 > 64) then
    some false
  else
    loopK (fun (s2 : Int) =>
        bif decide (s2 < (x.length : Int)) then
          bindO (geti x s2) fun y3 =>
          bindO (ref11_shaped (⟨y3.kind, y3.selectors, y3.decls, (⟨y3.cond.kind, y3.cond.name, y3.cond.num, y3.cond.decl, y3.cond.list⟩ : VCond), y3.names, y3.rules⟩ : VRule)) fun y4 =>
          bif !y4 then
            some (LO.ret false)
          else
            some (LO.again (w64 (s2 + 1)))
        else
          some (LO.out ()) : Int → Option (LO (Int) (Unit) _)) 0 fun o5 =>
    bindO (ref11_Deep x) fun y6 =>
    some (decide (y6 ≤ 16))
noncomputable def ref11_Check (x : VSheet) : Option Int :=
  bindO (ref11_Valid x.rules) fun y1 =>
  bif !y1 then
    some 8
  else
    some 0
noncomputable def ref11_Count (x : VSheet) : Option (Int × Int) :=
  bindO (ref11_Check x) fun y1 =>
  bif y1 != 0 then
    some (0, y1)
  else
    bindO (ref11_Number x.rules) fun y2 =>
    some (y2, 0)
noncomputable def sheet_CheckRule (x : VRule) : Option Int :=
  bindO (sheet_check [(⟨x.kind, x.selectors, x.decls, (⟨x.cond.kind, x.cond.name, x.cond.num, x.cond.decl, x.cond.list⟩ : VCond), x.names, x.rules⟩ : VRule)]) fun y1 =>
  some y1
noncomputable def ref11_CheckRule (x : VRule) : Option Int :=
  bindO (ref11_Check (⟨[(⟨x.kind, x.selectors, x.decls, (⟨x.cond.kind, x.cond.name, x.cond.num, x.cond.decl, x.cond.list⟩ : VCond), x.names, x.rules⟩ : VRule)]⟩ : VSheet)) fun y1 =>
  some y1
noncomputable def law11_SheetChecks (x : VSheet × VRule) : Option Bool :=
  bindO (ref11_Great x.1.rules) fun y1 =>
  bindO (condO (!y1) (ref11_Great [(⟨x.2.kind, x.2.selectors, x.2.decls, (⟨x.2.cond.kind, x.2.cond.name, x.2.cond.num, x.2.cond.decl, x.2.cond.list⟩ : VCond), x.2.names, x.2.rules⟩ : VRule)]) (default : Bool)) fun y2 =>
  bif bif y1 then true else y2 then
    some true
  else
    bindO (sheet_Count x.1) fun y3 =>
    bindO (ref11_Count x.1) fun y4 =>
    bindO (sheet_Check x.1) fun y5 =>
    bindO (ref11_Check x.1) fun y6 =>
    bindO (condO (y5 == y6) (sheet_CheckRule (⟨x.2.kind, x.2.selectors, x.2.decls, (⟨x.2.cond.kind, x.2.cond.name, x.2.cond.num, x.2.cond.decl, x.2.cond.list⟩ : VCond), x.2.names, x.2.rules⟩ : VRule)) (default : Int)) fun y7 =>
    bindO (condO (y5 == y6) (ref11_CheckRule (⟨x.2.kind, x.2.selectors, x.2.decls, (⟨x.2.cond.kind, x.2.cond.name, x.2.cond.num, x.2.cond.decl, x.2.cond.list⟩ : VCond), x.2.names, x.2.rules⟩ : VRule)) (default : Int)) fun y8 =>
    some (bif bif bif y5 == y6 then y7 == y8 else false then y3.1 == y4.1 else false then y3.2 == y4.2 else false)
end Go.Lv.VT
