/- Texts. -/
import Derived.Test.YtnfhfeipljhciaaGreatTy
import Derived.Test.YtnfhfeipljhciaaGreatLf
namespace Go.Lv.VT
set_option maxRecDepth 100000
noncomputable def zcw (Qv : List zb × Int → Option Int) (x : List zb × Int) : Option Int :=
 zN (fun (s1 : Int × Int) =>
   bif bif decide (s1.2 < (x.1.length : Int)) then decide (s1.1 ≤ x.2) else false then
    za (geti x.1 s1.2) fun y2 =>
    zN (fun (s3 : Int × Int) =>
      za (geti x.1 s1.2) fun y4 =>
      bif bif decide (s3.2 < (y4.parts.length : Int)) then decide (s3.1 ≤ x.2) else false then
       za (geti x.1 s1.2) fun y5 =>
       za (geti y5.parts s3.2) fun y6 =>
       za (geti x.1 s1.2) fun y7 =>
       za (geti y7.parts s3.2) fun y8 =>
       zN (fun (s9 : Int × Int) =>
         bif bif decide (s9.2 < (y8.simples.length : Int)) then decide (s9.1 ≤ x.2) else false then
          za (geti y8.simples s9.2) fun y10 =>
          za (geti y8.simples s9.2) fun y11 =>
          za (geti y8.simples s9.2) fun y12 =>
          za (Qv (y12.list, w64 (x.2 - s9.1))) fun y13 =>
          some (LO.again (w64 (s9.1 + w64 (w64 (w64 (1 + (y10.name.length : Int)) + (y11.value.length : Int)) + y13)), w64 (s9.2 + 1)))
         else
          some (LO.out s9.1) : Int × Int → Option (LO (Int × Int) (Int) _)) (w64 (s3.1 + w64 (1 + (y6.tag.length : Int))), 0) fun o14 =>
       some (LO.again (o14, w64 (s3.2 + 1)))
      else
       some (LO.out s3.1) : Int × Int → Option (LO (Int × Int) (Int) _)) (w64 (s1.1 + w64 (1 + (y2.combs.length : Int))), 0) fun o15 =>
    some (LO.again (o15, w64 (s1.2 + 1)))
   else
    some (LO.out s1.1) : Int × Int → Option (LO (Int × Int) (Int) _)) (0, 0) fun o16 =>
 some o16
noncomputable def Qv : List zb × Int → Option Int := recE (zcw)
noncomputable def zfF (x : List zb) : Option Bool :=
 za (Qv (x, 600)) fun y1 =>
 some (decide (y1 > 600))
noncomputable def zcu (Qu : List zf × Int → Option Int) (x : List zf × Int) : Option Int :=
 zN (fun (s1 : Int × Int) =>
   bif bif decide (s1.2 < (x.1.length : Int)) then decide (s1.1 ≤ x.2) else false then
    za (geti x.1 s1.2) fun y2 =>
    za (geti x.1 s1.2) fun y3 =>
    za (geti x.1 s1.2) fun y4 =>
    za (Qu (y4.list, w64 (x.2 - s1.1))) fun y5 =>
    some (LO.again (w64 (s1.1 + w64 (w64 (w64 (1 + (y2.token.text.length : Int)) + (y3.token.unit.length : Int)) + y5)), w64 (s1.2 + 1)))
   else
    some (LO.out s1.1) : Int × Int → Option (LO (Int × Int) (Int) _)) (0, 0) fun o6 =>
 some o6
noncomputable def Qu : List zf × Int → Option Int := recE (zcu)
noncomputable def QG (x : Int) : Option Int :=
 bif x == 19 then
  some 20
 else
  zZ (X := Bool) (
    bif x == 21 then
     some (LX.out (x == 21))
    else
     some (LX.out (x == 2))) fun j1 =>
  bif j1 then
   some 22
  else
   bif x == 23 then
    some 24
   else
    some 0
noncomputable def zf5 (ZP : List zf → Option Int) (x : List zf) : Option Int :=
 zN (fun (s1 : Int × Int) =>
   bif decide (s1.2 < (x.length : Int)) then
    zZ (X := Int × Int) (
      za (geti x s1.2) fun y2 =>
      za (QG y2.token.kind) fun y3 =>
      bif y3 != 0 then
       za (geti x s1.2) fun y4 =>
       za (ZP y4.list) fun y5 =>
       some (LX.out (if w64 (1 + y5) > s1.1 then w64 (1 + y5) else s1.1, s1.2))
      else
       some (LX.out (s1.1, s1.2))) fun j6 =>
    some (LO.again (j6.1, w64 (j6.2 + 1)))
   else
    some (LO.out s1.1) : Int × Int → Option (LO (Int × Int) (Int) _)) (0, 0) fun o7 =>
 some o7
noncomputable def ZP : List zf → Option Int := recE (zf5)
noncomputable def zbn (x : List Zh) : Option Bool :=
 bif decide ((x.length : Int) > 40) then
  some true
 else
  zN (fun (s1 : Int × Int) =>
    bif decide (s1.2 < (x.length : Int)) then
     za (geti x s1.2) fun y2 =>
     za (geti x s1.2) fun y3 =>
     za (Qu (y3.value, 300)) fun y4 =>
     za (zz (!(decide (w64 (s1.1 + w64 ((y2.name.length : Int) + y4)) > 300))) (geti x s1.2) (default : Zh)) fun y5 =>
     za (zz (!(decide (w64 (s1.1 + w64 ((y2.name.length : Int) + y4)) > 300))) (ZP y5.value) (default : Int)) fun y6 =>
     bif bif decide (w64 (s1.1 + w64 ((y2.name.length : Int) + y4)) > 300) then true else decide (y6 > 40) then
      some (LO.ret true)
     else
      some (LO.again (w64 (s1.1 + w64 ((y2.name.length : Int) + y4)), w64 (s1.2 + 1)))
    else
     some (LO.out ()) : Int × Int → Option (LO (Int × Int) (Unit) _)) (0, 0) fun o7 =>
  some false
noncomputable def zcx (qg : zk × Int → Option Int) (x : zk × Int) : Option Int :=
 zN (fun (s1 : Int × Int) =>
   bif bif decide (s1.2 < (x.1.list.length : Int)) then decide (s1.1 ≤ x.2) else false then
    za (geti x.1.list s1.2) fun y2 =>
    za (qg ((⟨y2.kind, y2.name, y2.num, y2.decl, y2.list⟩ : zk), w64 (x.2 - s1.1))) fun y3 =>
    some (LO.again (w64 (s1.1 + y3), w64 (s1.2 + 1)))
   else
    some (LO.out s1.1) : Int × Int → Option (LO (Int × Int) (Int) _)) (1, 0) fun o4 =>
 some o4
noncomputable def qg : zk × Int → Option Int := recE (zcx)
noncomputable def zcy (Qx : zk → Option Bool) (x : zk) : Option Bool :=
 za (zbn [x.decl]) fun y1 =>
 bif bif y1 then true else decide ((x.name.length : Int) > 200) then
  some true
 else
  zN (fun (s2 : Int) =>
    bif decide (s2 < (x.list.length : Int)) then
     za (geti x.list s2) fun y3 =>
     za (Qx (⟨y3.kind, y3.name, y3.num, y3.decl, y3.list⟩ : zk)) fun y4 =>
     bif y4 then
      some (LO.ret true)
     else
      some (LO.again (w64 (s2 + 1)))
    else
     some (LO.out ()) : Int → Option (LO (Int) (Unit) _)) 0 fun o5 =>
  some false
noncomputable def Qx : zk → Option Bool := recE (zcy)
noncomputable def zfI (x : zk) : Option Bool :=
 za (qg ((⟨x.kind, x.name, x.num, x.decl, x.list⟩ : zk), 100)) fun y1 =>
 za (zz (!(decide (y1 > 100))) (Qx (⟨x.kind, x.name, x.num, x.decl, x.list⟩ : zk)) (default : Bool)) fun y2 =>
 some (bif decide (y1 > 100) then true else y2)
noncomputable def zaj (ZW : List zu × Int → Option Bool) (x : List zu × Int) : Option Bool :=
 bif bif x.2 == 0 then true else decide ((x.1.length : Int) > 70) then
  some true
 else
  zN (fun (s1 : Int) =>
    bif decide (s1 < (x.1.length : Int)) then
     za (geti x.1 s1) fun y2 =>
     za (zfF y2.selectors) fun y3 =>
     za (zz (!y3) (zbn y2.decls) (default : Bool)) fun y4 =>
     za (zz (!(bif y3 then true else y4)) (zfI (⟨y2.cond.kind, y2.cond.name, y2.cond.num, y2.cond.decl, y2.cond.list⟩ : zk)) (default : Bool)) fun y5 =>
     za (zz (!(bif bif bif y3 then true else y4 then true else y5 then true else decide ((y2.names.length : Int) > 70))) (ZW (y2.rules, w64 (x.2 - 1))) (default : Bool)) fun y6 =>
     bif bif bif bif bif y3 then true else y4 then true else y5 then true else decide ((y2.names.length : Int) > 70) then true else y6 then
      some (LO.ret true)
     else
      zN (fun (s7 : Int) =>
        bif decide (s7 < (y2.names.length : Int)) then
         za (geti y2.names s7) fun y8 =>
         bif decide ((y8.length : Int) > 20) then
          some (LO.ret (LO.ret true))
         else
          some (LO.again (w64 (s7 + 1)))
        else
         some (LO.out ()) : Int → Option (LO (Int) (Unit) _)) 0 fun o9 =>
      some (LO.again (w64 (s1 + 1)))
    else
     some (LO.out ()) : Int → Option (LO (Int) (Unit) _)) 0 fun o10 =>
  some false
noncomputable def ZW : List zu × Int → Option Bool := recE (zaj)
noncomputable def zdQ (ZC : List zu → Option Int) (x : List zu) : Option Int :=
 zN (fun (s1 : Int × Int) =>
   bif decide (s1.2 < (x.length : Int)) then
    za (geti x s1.2) fun y2 =>
    za (ZC y2.rules) fun y3 =>
    some (LO.again (w64 (s1.1 + y3), w64 (s1.2 + 1)))
   else
    some (LO.out s1.1) : Int × Int → Option (LO (Int × Int) (Int) _)) ((x.length : Int), 0) fun o4 =>
 some o4
noncomputable def ZC : List zu → Option Int := recE (zdQ)
noncomputable def zdx (x : List zu) : Option Bool :=
 za (ZW (x, 30)) fun y1 =>
 za (zz (!y1) (ZC x) (default : Int)) fun y2 =>
 some (bif y1 then true else decide (y2 > 70))
noncomputable def strings_IndexByte (x : Str × Int) : Option Int :=
 za (ztp (x.1, x.2)) fun y1 =>
 some y1
noncomputable def zda (x : Str) : Option Bool :=
 za (zz (!(bif x == [] then true else decide ((x.length : Int) > 64))) (strings_IndexByte (x, 0)) (default : Int)) fun y1 =>
 some (bif bif x == [] then true else decide ((x.length : Int) > 64) then true else decide (y1 ≥ 0))
noncomputable def ZV (x : List Str) : Option Int :=
 zN (fun (s1 : Int) =>
   bif decide (s1 < (x.length : Int)) then
    za (geti x s1) fun y2 =>
    za (zda y2) fun y3 =>
    bif y3 then
     some (LO.ret s1)
    else
     some (LO.again (w64 (s1 + 1)))
   else
    some (LO.out ()) : Int → Option (LO (Int) (Unit) _)) 0 fun o4 =>
 some (-1)
noncomputable def Zx (x : List Str) : Option Bool :=
 za (ZV x) fun y1 =>
 some (decide (y1 ≥ 0))
noncomputable def zfM (x : List Str) : Option Bool :=
 za (zz (bif decide ((x.length : Int) > 0) then decide ((x.length : Int) ≤ 16) else false) (Zx x) (default : Bool)) fun y1 =>
 some (bif bif decide ((x.length : Int) > 0) then decide ((x.length : Int) ≤ 16) else false then !y1 else false)
noncomputable def zen (x : List Str) : Option Bool :=
 za (zfM x) fun y1 =>
 some (!y1)
noncomputable def qV (x : List (List Str)) : Option Int :=
 zN (fun (s1 : Int) =>
   bif decide (s1 < (x.length : Int)) then
    za (geti x s1) fun y2 =>
    za (zen y2) fun y3 =>
    bif y3 then
     some (LO.ret s1)
    else
     some (LO.again (w64 (s1 + 1)))
   else
    some (LO.out ()) : Int → Option (LO (Int) (Unit) _)) 0 fun o4 =>
 some (-1)
noncomputable def ZK (x : List (List Str)) : Option Bool :=
 za (qV x) fun y1 =>
 some (decide (y1 ≥ 0))
noncomputable def zb7 (qa : List zb → Option Int) (x : List zb) : Option Int :=
 zN (fun (s1 : Int × Int) =>
   bif decide (s1.2 < (x.length : Int)) then
    za (geti x s1.2) fun y2 =>
    zN (fun (s3 : Int × Int) =>
      bif decide (s3.2 < (y2.parts.length : Int)) then
       za (geti y2.parts s3.2) fun y4 =>
       zN (fun (s5 : Int × Int) =>
         bif decide (s5.2 < (y4.simples.length : Int)) then
          zZ (X := Int × Int) (
            za (geti y4.simples s5.2) fun y6 =>
            bif bif y6.kind == 3 then true else bif decide (y6.kind ≥ 9) then !(bif bif bif y6.kind == 9 then true else y6.kind == 10 then !y6.of_ else false then y6.anb.a == 0 && (y6.anb.b == 1 && true) else false) else false then
             za (qa y6.list) fun y7 =>
             some (LX.out (if w64 (y7 + 1) > s5.1 then w64 (y7 + 1) else s5.1, s5.2))
            else
             some (LX.out (s5.1, s5.2))) fun j8 =>
          some (LO.again (j8.1, w64 (j8.2 + 1)))
         else
          some (LO.out s5.1) : Int × Int → Option (LO (Int × Int) (Int) _)) (s3.1, 0) fun o9 =>
       some (LO.again (o9, w64 (s3.2 + 1)))
      else
       some (LO.out s3.1) : Int × Int → Option (LO (Int × Int) (Int) _)) (s1.1, 0) fun o10 =>
    some (LO.again (o10, w64 (s1.2 + 1)))
   else
    some (LO.out s1.1) : Int × Int → Option (LO (Int × Int) (Int) _)) (0, 0) fun o11 =>
 some o11
noncomputable def qa : List zb → Option Int := recE (zb7)
noncomputable def zaw (x : Str × Int) : Option Bool :=
 za (zz (!(decide ((x.1.length : Int) > x.2))) (strings_IndexByte (x.1, 0)) (default : Int)) fun y1 =>
 some (bif decide ((x.1.length : Int) > x.2) then true else decide (y1 ≥ 0))
noncomputable def QH (x : Str) : Option Bool :=
 za (zz (!(x == [])) (zaw (x, 64)) (default : Bool)) fun y1 =>
 some (bif !(x == []) then !y1 else false)
noncomputable def qK (x : Str) : Option Str :=
 need (decide (x.length ≤ maxLen)) <|
 zN (fun (s1 : Int × List UInt8) =>
   bif decide (s1.1 < (x.length : Int)) then
    zZ (X := Int × List UInt8) (
      need (decide (0 ≤ s1.1) && decide (s1.1 < (s1.2.length : Int))) <|
      za s1.2[s1.1.toNat]? fun y2 =>
      bif bif decide (65 ≤ (y2.toNat : Int)) then decide ((y2.toNat : Int) ≤ 90) else false then
       need (decide (0 ≤ s1.1) && decide (s1.1 < (s1.2.length : Int))) <|
       za s1.2[s1.1.toNat]? fun y3 =>
       need (decide (0 ≤ s1.1) && decide (s1.1 < (s1.2.length : Int))) <|
       za s1.2[s1.1.toNat]? fun y4 =>
       za (zbM (ibOr IntKind.u8 (y3.toNat : Int) 32)) fun y5 =>
       some (LX.out (s1.1, List.set s1.2 s1.1.toNat y5))
      else
       some (LX.out (s1.1, s1.2))) fun j6 =>
    some (LO.again (w64 (j6.1 + 1), j6.2))
   else
    some (LO.out s1.2) : Int × List UInt8 → Option (LO (Int × List UInt8) (List UInt8) _)) (0, x) fun o7 =>
 some o7
noncomputable def QI (x : Str) : Option Bool :=
 za (QH x) fun y1 =>
 za (zz y1 (qK x) (default : Str)) fun y2 =>
 some (bif y1 then y2 == x else false)
noncomputable def zc7 (x : zy) : Option (Bool × Bool) :=
 zZ (X := Bool) (
   bif x.kind == 9 then
    some (LX.out (x.kind == 9))
   else
    some (LX.out (x.kind == 10))) fun j1 =>
 bif j1 then
  some (x.of_, false)
 else
  zZ (X := Bool) (
    bif x.kind == 11 then
     some (LX.out (x.kind == 11))
    else
     some (LX.out (x.kind == 12))) fun j2 =>
  bif j2 then
   some (true, true)
  else
   zZ (X := Bool) (
     bif x.kind == 13 then
      some (LX.out (x.kind == 13))
     else
      some (LX.out (x.kind == 14))) fun j3 =>
   bif j3 then
    some (true, false)
   else
    some (false, true)
noncomputable def zaR (x : zn × Int) : Option (zn × Bool) :=
 bif bif x.1.deep == 3 then true else bif x.1.has then x.2 == 14 else false then
  some ((⟨0, false⟩ : zn), false)
 else
  some ((⟨w64 (x.1.deep + 1), bif x.1.has then true else x.2 == 14⟩ : zn), true)
noncomputable def zgE (x : Int) : Option Bool :=
 some (bif decide ((-1000000000) ≤ x) then decide (x ≤ 1000000000) else false)
noncomputable def zgD (x : VAnb) : Option Int :=
 za (zgE x.a) fun y1 =>
 za (zz (!(!y1)) (zgE x.b) (default : Bool)) fun y2 =>
 bif bif !y1 then true else !y2 then
  some 8
 else
  some 0
noncomputable def zb6 (zl : zb × zn × Bool → Option Bool) (x : zb × zn × zy) : Option Bool :=
 za (zl ((⟨x.1.lead, x.1.parts, x.1.combs⟩ : zb), x.2.1, x.2.2.kind == 14)) fun y1 =>
 some (!y1)
noncomputable def qm (zl : zb × zn × Bool → Option Bool) (x : List zb × zn × zy) : Option Int :=
 zN (fun (s1 : Int) =>
   bif decide (s1 < (x.1.length : Int)) then
    za (geti x.1 s1) fun y2 =>
    za (zb6 zl ((⟨y2.lead, y2.parts, y2.combs⟩ : zb), x.2.1, (⟨x.2.2.kind, x.2.2.name, x.2.2.op, x.2.2.value, x.2.2.fold, x.2.2.anb, x.2.2.of_, x.2.2.list⟩ : zy))) fun y3 =>
    bif y3 then
     some (LO.ret s1)
    else
     some (LO.again (w64 (s1 + 1)))
   else
    some (LO.out ()) : Int → Option (LO (Int) (Unit) _)) 0 fun o4 =>
 some (-1)
noncomputable def Zq (zl : zb × zn × Bool → Option Bool) (x : List zb × zn × zy) : Option Bool :=
 za (qm zl (x.1, x.2.1, (⟨x.2.2.kind, x.2.2.name, x.2.2.op, x.2.2.value, x.2.2.fold, x.2.2.anb, x.2.2.of_, x.2.2.list⟩ : zy))) fun y1 =>
 some (decide (y1 ≥ 0))
noncomputable def za1 (zl : zb × zn × Bool → Option Bool) (x : zy × zn) : Option Bool :=
 za (zc7 (⟨x.1.kind, x.1.name, x.1.op, x.1.value, x.1.fold, x.1.anb, x.1.of_, x.1.list⟩ : zy)) fun y1 =>
 zZ (X := Unit) (
   bif y1.1 then
    za (zaR (x.2, x.1.kind)) fun y2 =>
    za (zz (!(bif !y2.2 then true else bif !y1.2 then (x.1.list.length : Int) == 0 else false)) (Zq zl (x.1.list, y2.1, (⟨x.1.kind, x.1.name, x.1.op, x.1.value, x.1.fold, x.1.anb, x.1.of_, x.1.list⟩ : zy))) (default : Bool)) fun y3 =>
    bif bif bif !y2.2 then true else bif !y1.2 then (x.1.list.length : Int) == 0 else false then true else y3 then
     some (LX.ret false)
    else
     some (LX.out ())
   else
    bif decide ((x.1.list.length : Int) > 0) then
     some (LX.ret false)
    else
     some (LX.out ())) fun j4 =>
 bif bif bif !(x.1.kind == 3) then bif bif x.1.op != 0 then true else !(x.1.value == []) then true else x.1.fold else false then true else bif !(bif x.1.kind == 9 then true else x.1.kind == 10) then bif x.1.of_ then true else !(x.1.anb.a == 0 && (x.1.anb.b == 0 && true)) else false then
  some false
 else
  zZ (X := Bool) (
    bif x.1.kind == 1 then
     some (LX.out (x.1.kind == 1))
    else
     some (LX.out (x.1.kind == 2))) fun j5 =>
  bif j5 then
   za (QH x.1.name) fun y6 =>
   some y6
  else
   bif x.1.kind == 3 then
    za (QI x.1.name) fun y7 =>
    za (zz (bif y7 then decide (x.1.op ≤ 6) else false) (zaw (x.1.value, 400)) (default : Bool)) fun y8 =>
    some (bif bif bif y7 then decide (x.1.op ≤ 6) else false then !y8 else false then bif x.1.op != 0 then true else bif x.1.value == [] then !x.1.fold else false else false)
   else
    za (zz (!(!(bif x.1.kind == 9 then true else x.1.kind == 10)) && (bif bif x.1.name == [] then decide (x.1.kind ≥ 4) else false then decide (x.1.kind ≤ 14) else false)) (zgD x.1.anb) (default : Int)) fun y9 =>
    some (bif bif bif x.1.name == [] then decide (x.1.kind ≥ 4) else false then decide (x.1.kind ≤ 14) else false then bif !(bif x.1.kind == 9 then true else x.1.kind == 10) then true else y9 == 0 else false)
noncomputable def zaQ (zl : zb × zn × Bool → Option Bool) (x : zA × zn) : Option Bool :=
 za (zz (bif !(x.1.tag == []) then !(x.1.tag == [42]) else false) (QI x.1.tag) (default : Bool)) fun y1 =>
 bif bif bif bif !(x.1.tag == []) then !(x.1.tag == [42]) else false then !y1 else false then true else decide ((x.1.simples.length : Int) > 64) then
  some false
 else
  zN (fun (s2 : Int) =>
    bif decide (s2 < (x.1.simples.length : Int)) then
     za (geti x.1.simples s2) fun y3 =>
     za (za1 zl ((⟨y3.kind, y3.name, y3.op, y3.value, y3.fold, y3.anb, y3.of_, y3.list⟩ : zy), x.2)) fun y4 =>
     bif !y4 then
      some (LO.ret false)
     else
      some (LO.again (w64 (s2 + 1)))
    else
     some (LO.out ()) : Int → Option (LO (Int) (Unit) _)) 0 fun o5 =>
  some (bif !(x.1.tag == []) then true else decide ((x.1.simples.length : Int) > 0))
noncomputable def zc8 (zl : zb × zn × Bool → Option Bool) (x : zA × zn) : Option Bool :=
 za (zaQ zl ((⟨x.1.tag, x.1.simples⟩ : zA), x.2)) fun y1 =>
 some (!y1)
noncomputable def qC (zl : zb × zn × Bool → Option Bool) (x : List zA × zn) : Option Int :=
 zN (fun (s1 : Int) =>
   bif decide (s1 < (x.1.length : Int)) then
    za (geti x.1 s1) fun y2 =>
    za (zc8 zl ((⟨y2.tag, y2.simples⟩ : zA), x.2)) fun y3 =>
    bif y3 then
     some (LO.ret s1)
    else
     some (LO.again (w64 (s1 + 1)))
   else
    some (LO.out ()) : Int → Option (LO (Int) (Unit) _)) 0 fun o4 =>
 some (-1)
noncomputable def Zw (zl : zb × zn × Bool → Option Bool) (x : List zA × zn) : Option Bool :=
 za (qC zl (x.1, x.2)) fun y1 =>
 some (decide (y1 ≥ 0))
noncomputable def zc9 (zl : zb × zn × Bool → Option Bool) (x : zb × zn × Bool) : Option Bool :=
 bif bif bif bif !(x.2.2 == (x.1.lead != 0)) then true else decide (x.1.lead > 4) then true else w64 ((x.1.combs.length : Int) + 1) != (x.1.parts.length : Int) then true else decide ((x.1.parts.length : Int) > 64) then
  some false
 else
  zN (fun (s1 : Int) =>
    bif decide (s1 < (x.1.combs.length : Int)) then
     za (geti x.1.combs s1) fun y2 =>
     bif bif decide ((y2.toNat : Int) < 1) then true else decide ((y2.toNat : Int) > 4) then
      some (LO.ret false)
     else
      some (LO.again (w64 (s1 + 1)))
    else
     some (LO.out ()) : Int → Option (LO (Int) (Unit) _)) 0 fun o3 =>
  za (Zw zl (x.1.parts, x.2.1)) fun y4 =>
  some (!y4)
noncomputable def zl : zb × zn × Bool → Option Bool := recE (zc9)
noncomputable def zc5 (x : zb) : Option Bool :=
 za (zl ((⟨x.lead, x.parts, x.combs⟩ : zb), (⟨0, false⟩ : zn), false)) fun y1 =>
 some (!y1)
noncomputable def qG (x : List zb) : Option Int :=
 zN (fun (s1 : Int) =>
   bif decide (s1 < (x.length : Int)) then
    za (geti x s1) fun y2 =>
    za (zc5 (⟨y2.lead, y2.parts, y2.combs⟩ : zb)) fun y3 =>
    bif y3 then
     some (LO.ret s1)
    else
     some (LO.again (w64 (s1 + 1)))
   else
    some (LO.out ()) : Int → Option (LO (Int) (Unit) _)) 0 fun o4 =>
 some (-1)
noncomputable def ZG (x : List zb) : Option Bool :=
 za (qG x) fun y1 =>
 some (decide (y1 ≥ 0))
noncomputable def zc6 (qA : List zb → Option Int) (x : List zb) : Option Int :=
 zN (fun (s1 : Int × Int) =>
   bif decide (s1.2 < (x.length : Int)) then
    za (geti x s1.2) fun y2 =>
    zN (fun (s3 : Int × Int) =>
      bif decide (s3.2 < (y2.parts.length : Int)) then
       za (geti y2.parts s3.2) fun y4 =>
       zN (fun (s5 : Int × Int) =>
         bif decide (s5.2 < (y4.simples.length : Int)) then
          za (geti y4.simples s5.2) fun y6 =>
          za (qA y6.list) fun y7 =>
          some (LO.again (w64 (s5.1 + y7), w64 (s5.2 + 1)))
         else
          some (LO.out s5.1) : Int × Int → Option (LO (Int × Int) (Int) _)) (s3.1, 0) fun o8 =>
       some (LO.again (o8, w64 (s3.2 + 1)))
      else
       some (LO.out s3.1) : Int × Int → Option (LO (Int × Int) (Int) _)) (s1.1, 0) fun o9 =>
    some (LO.again (o9, w64 (s1.2 + 1)))
   else
    some (LO.out s1.1) : Int × Int → Option (LO (Int × Int) (Int) _)) ((x.length : Int), 0) fun o10 =>
 some o10
noncomputable def qA : List zb → Option Int := recE (zc6)
noncomputable def zc4 (x : List zb) : Option Int :=
 za (zz (!((x.length : Int) == 0)) (ZG x) (default : Bool)) fun y1 =>
 bif bif (x.length : Int) == 0 then true else y1 then
  some 8
 else
  za (qA x) fun y2 =>
  bif decide (y2 > 64) then
   some 4
  else
   some 0
noncomputable def zch (x : zk) : Option Bool :=
 some (bif bif bif bif bif bif x.kind == 0 then x.name == [] else false then x.num == 0 else false then (x.list.length : Int) == 0 else false then x.decl.name == [] else false then (x.decl.value.length : Int) == 0 else false then !x.decl.important else false)
noncomputable def zaC (x : Int) : Option Int :=
 bif x == 2 then
  some 22
 else
  zZ (X := Bool) (
    bif x == 19 then
     some (LX.out (x == 19))
    else
     bif x == 21 then
      some (LX.out (x == 21))
     else
      some (LX.out (x == 23))) fun j1 =>
  bif j1 then
   some (wu8 (x + 1))
  else
   some 0
noncomputable def zhE (zaN : List zf × Int → Option zS) (x : List zf × Int) : Option zS :=
 zN (fun (s1 : Int × zS) =>
   bif decide (s1.1 < (x.1.length : Int)) then
    zZ (X := Int × zS) (
      za (geti x.1 s1.1) fun y2 =>
      za (zaC y2.token.kind) fun y3 =>
      zZ (X := zS) (
        bif bif bif x.2 != 0 then y2.token.kind == x.2 else false then true else bif y3 == 0 then decide ((y2.list.length : Int) > 0) else false then
         some (LX.out (⟨s1.2.depth, w64 (s1.2.tokens + 1), true⟩ : zS))
        else
         some (LX.out (⟨s1.2.depth, w64 (s1.2.tokens + 1), s1.2.bad⟩ : zS))) fun j4 =>
      bif y3 == 0 then
       some (LX.out (s1.1, j4))
      else
       za (zaN (y2.list, y3)) fun y5 =>
       some (LX.out (s1.1, (⟨if w64 (y5.depth + 1) > j4.depth then w64 (y5.depth + 1) else j4.depth, w64 (w64 (j4.tokens + y5.tokens) + 1), bif j4.bad then true else y5.bad⟩ : zS)))) fun j6 =>
    some (LO.again (w64 (j6.1 + 1), j6.2))
   else
    some (LO.out s1.2) : Int × zS → Option (LO (Int × zS) (zS) _)) (0, (⟨0, 0, false⟩ : zS)) fun o7 =>
 some o7
noncomputable def zaN : List zf × Int → Option zS := recE (zhE)
noncomputable def zdq (x : List zf) : Option Int :=
 za (zaN (x, 0)) fun y1 =>
 bif decide (y1.depth > 16) then
  some 20
 else
  bif decide (y1.tokens > 1500) then
   some 4
  else
   bif y1.bad then
    some 8
   else
    some 0
noncomputable def Q9 (x : List zf) : Option (Int × Int) :=
 za (zdq x) fun y1 =>
 bif y1 != 0 then
  some (0, y1)
 else
  za (zaN (x, 0)) fun y2 =>
  some (y2.depth, 0)
noncomputable def zeN (QN : List zf × List zm → Option (List zm)) (x : List zf × List zm) : Option (List zm) :=
 zN (fun (s1 : Int × List zm) =>
   bif decide (s1.1 < (x.1.length : Int)) then
    zZ (X := Int × List zm) (
      za (geti x.1 s1.1) fun y2 =>
      need (qw s1.2.length 1 56) <|
      za (zaC y2.token.kind) fun y3 =>
      bif y3 != 0 then
       za (QN (y2.list, s1.2 ++ [y2.token])) fun y4 =>
       need (qw y4.length 1 56) <|
       some (LX.out (s1.1, y4 ++ [(⟨y3, [], 0, [], false⟩ : zm)]))
      else
       some (LX.out (s1.1, s1.2 ++ [y2.token]))) fun j5 =>
    some (LO.again (w64 (j5.1 + 1), j5.2))
   else
    some (LO.out s1.2) : Int × List zm → Option (LO (Int × List zm) (List zm) _)) (0, x.2) fun o6 =>
 some o6
noncomputable def QN : List zf × List zm → Option (List zm) := recE (zeN)
noncomputable def zfq (x : List zf) : Option (List zm) :=
 zN (fun (s1 : Int × List zm) =>
   bif decide (s1.1 < (x.length : Int)) then
    zZ (X := Int × List zm) (
      za (geti x s1.1) fun y2 =>
      need (qw s1.2.length 1 56) <|
      za (zaC y2.token.kind) fun y3 =>
      bif y3 != 0 then
       za (QN (y2.list, s1.2 ++ [y2.token])) fun y4 =>
       need (qw y4.length 1 56) <|
       some (LX.out (s1.1, y4 ++ [(⟨y3, [], 0, [], false⟩ : zm)]))
      else
       some (LX.out (s1.1, s1.2 ++ [y2.token]))) fun j5 =>
    some (LO.again (w64 (j5.1 + 1), j5.2))
   else
    some (LO.out s1.2) : Int × List zm → Option (LO (Int × List zm) (List zm) _)) (0, []) fun o6 =>
 some o6
noncomputable def ziE (x : List zf) : Option (List zm × Int) :=
 za (zdq x) fun y1 =>
 bif y1 != 0 then
  some ([], y1)
 else
  za (zfq x) fun y2 =>
  some (y2, 0)
noncomputable def stringslite_HasPrefix (x : Str × Str) : Option Bool :=
 need (decide (0 ≤ (x.2.length : Int)) && decide ((x.2.length : Int) ≤ (x.1.length : Int)) || !(decide ((x.1.length : Int) ≥ (x.2.length : Int)))) <|
 some (bif decide ((x.1.length : Int) ≥ (x.2.length : Int)) then List.take x.2.length x.1 == x.2 else false)
noncomputable def strings_HasPrefix (x : Str × Str) : Option Bool :=
 za (stringslite_HasPrefix (x.1, x.2)) fun y1 =>
 some y1
noncomputable def zgN (x : Str) : Option Bool :=
 za (zz (!(bif x == [] then true else decide ((x.length : Int) > 64))) (strings_IndexByte (x, 0)) (default : Int)) fun y1 =>
 bif bif bif x == [] then true else decide ((x.length : Int) > 64) then true else decide (y1 ≥ 0) then
  some false
 else
  za (strings_HasPrefix (x, [45, 45])) fun y2 =>
  bif y2 then
   some (!(x == [45, 45]))
  else
   za (qK x) fun y3 =>
   some (x == y3)
noncomputable def stringslite_TrimPrefix (x : Str × Str) : Option Str :=
 za (stringslite_HasPrefix (x.1, x.2)) fun y1 =>
 bif y1 then
  need (decide (0 ≤ (x.2.length : Int)) && decide ((x.2.length : Int) ≤ (x.1.length : Int))) <|
  some (List.drop x.2.length x.1)
 else
  some x.1
noncomputable def strings_TrimPrefix (x : Str × Str) : Option Str :=
 za (stringslite_TrimPrefix (x.1, x.2)) fun y1 =>
 some y1
noncomputable def zbu (x : Int) : Option Bool :=
 some (bif decide (48 ≤ x) then decide (x ≤ 57) else false)
noncomputable def zd8 (x : Str) : Option Bool :=
 za (strings_TrimPrefix (x, [45])) fun y1 =>
 za (zz (!(y1 == [])) (geti y1 0) 0) fun y2 =>
 za (zz (!(y1 == [])) (zbu (y2.toNat : Int)) (default : Bool)) fun y3 =>
 some (bif !(y1 == []) then y3 else false)
noncomputable def zfk (x : Int) : Option Bool :=
 some (bif bif decide (97 ≤ ibOr IntKind.u8 x 32) then decide (ibOr IntKind.u8 x 32 ≤ 122) else false then decide (x < 128) else false)
noncomputable def ze0 (x : Int) : Option Bool :=
 za (zfk x) fun y1 =>
 za (zz (!y1) (zbu x) (default : Bool)) fun y2 =>
 some (bif bif bif bif y1 then true else y2 then true else x == 95 then true else x == 45 then true else decide (x ≥ 128))
noncomputable def strings_Index (x : Str × Str) : Option Int :=
 za (zss (x.1, x.2)) fun y1 =>
 some y1
noncomputable def strings_Contains (x : Str × Str) : Option Bool :=
 za (strings_Index (x.1, x.2)) fun y1 =>
 some (decide (y1 ≥ 0))
noncomputable def ziw (x : zm) : Option Bool :=
 need (decide (((x.text.length + x.unit.length : Nat) : Int) ≤ 9223372036854775807)) <|
 za (strings_IndexByte (x.text ++ x.unit, 0)) fun y1 =>
 zZ (X := Bool × Bool × Bool × Bool × Bool) (
   zZ (X := Bool × Bool × Bool × Bool × Bool × Bool) (
     bif x.kind == 1 then
      some (LX.out (false, false, false, false, decide (y1 < 0), x.kind == 1))
     else
      bif x.kind == 2 then
       some (LX.out (false, false, false, false, decide (y1 < 0), x.kind == 2))
      else
       some (LX.out (false, false, false, false, decide (y1 < 0), x.kind == 3))) fun j2 =>
   bif j2.2.2.2.2.2 then
    some (LX.out (true, j2.2.1, j2.2.2.1, j2.2.2.2.1, bif j2.2.2.2.2.1 then !(x.text == []) else false))
   else
    bif x.kind == 4 then
     za (zz (!x.flag && (bif j2.2.2.2.2.1 then !(x.text == []) else false)) (zd8 x.text) (default : Bool)) fun y3 =>
     za (zz (y3 && (!x.flag && (bif j2.2.2.2.2.1 then !(x.text == []) else false))) (strings_HasPrefix (x.text, [45, 45])) (default : Bool)) fun y4 =>
     some (LX.out (true, j2.2.1, j2.2.2.1, true, bif bif j2.2.2.2.2.1 then !(x.text == []) else false then bif bif x.flag then true else bif y3 then !y4 else false then true else x.text == [45] else false))
    else
     zZ (X := Bool × Bool × Bool × Bool × Bool × Bool) (
       bif x.kind == 5 then
        some (LX.out (j2.1, j2.2.1, j2.2.2.1, j2.2.2.2.1, j2.2.2.2.2.1, x.kind == 5))
       else
        some (LX.out (j2.1, j2.2.1, j2.2.2.1, j2.2.2.2.1, j2.2.2.2.2.1, x.kind == 7))) fun j5 =>
     bif j5.2.2.2.2.2 then
      some (LX.out (true, j5.2.1, j5.2.2.1, j5.2.2.2.1, j5.2.2.2.2.1))
     else
      bif x.kind == 9 then
       za (zz (bif j5.2.2.2.2.1 then (x.text.length : Int) == 1 else false) (geti x.text 0) 0) fun y6 =>
       za (zz (bif j5.2.2.2.2.1 then (x.text.length : Int) == 1 else false) (ze0 (y6.toNat : Int)) (default : Bool)) fun y7 =>
       za (zz (bif bif bif j5.2.2.2.2.1 then (x.text.length : Int) == 1 else false then !y7 else false then true else x.text == [45]) (strings_Contains ([32, 9, 10, 12, 13, 34, 39, 58, 59, 44, 91, 93, 40, 41, 123, 125], x.text)) (default : Bool)) fun y8 =>
       some (LX.out (true, j5.2.1, j5.2.2.1, j5.2.2.2.1, bif bif bif bif j5.2.2.2.2.1 then (x.text.length : Int) == 1 else false then !y7 else false then true else x.text == [45] then !y8 else false))
      else
       zZ (X := Bool × Bool × Bool × Bool × Bool) (
         bif x.kind == 10 then
          some (LX.out (j5.2.1, j5.2.2.1, j5.2.2.2.1, j5.2.2.2.2.1, x.kind == 10))
         else
          bif x.kind == 11 then
           some (LX.out (j5.2.1, j5.2.2.1, j5.2.2.2.1, j5.2.2.2.2.1, x.kind == 11))
          else
           some (LX.out (j5.2.1, j5.2.2.1, j5.2.2.2.1, j5.2.2.2.2.1, x.kind == 12))) fun j9 =>
       bif j9.2.2.2.2 then
        some (LX.out (j5.1, x.kind == 12, true, x.kind != 11, bif bif bif bif j9.2.2.2.1 then decide (x.num ≥ (-1000000000000)) else false then decide (x.num ≤ 1000000000000) else false then bif !x.flag then true else Int.tmod x.num 1000 == 0 else false then bif !(x.kind == 12) then true else !(x.unit == []) else false))
       else
        some (LX.out (j5.1, j9.1, j9.2.1, j9.2.2.1, bif decide (x.kind ≥ 13) then decide (x.kind ≤ 24) else false))) fun j10 =>
 some (bif bif bif bif j10.2.2.2.2 then bif j10.1 then true else x.text == [] else false then bif j10.2.1 then true else x.unit == [] else false then bif j10.2.2.1 then true else x.num == 0 else false then bif j10.2.2.2.1 then true else !x.flag else false)
noncomputable def QC (x : (Int × Int) × List zm) : Option Bool :=
 za (zz (decide (x.1.1 < (x.2.length : Int))) (geti x.2 x.1.1) (default : zm)) fun y1 =>
 some (bif decide (x.1.1 < (x.2.length : Int)) then y1.kind == x.1.2 else false)
noncomputable def zfm (x : Str × Str) : Option Bool :=
 za (qK x.1) fun y1 =>
 za (qK x.2) fun y2 =>
 some (y1 == y2)
noncomputable def zgT (x : List zm) : Option Int :=
 za (geti x 0) fun y1 =>
 bif bif y1.kind == 9 then y1.text == [92] else false then
  za (QC ((1, 13), x)) fun y2 =>
  bif !y2 then
   some 0
  else
   some 2
 else
  za (zz (y1.kind == 2) (zfm (y1.text, [117, 114, 108])) (default : Bool)) fun y3 =>
  bif bif y1.kind == 2 then y3 else false then
   zZ (X := Int) (
     za (QC ((1, 13), x)) fun y4 =>
     bif y4 then
      some (LX.out 2)
     else
      some (LX.out 1)) fun j5 =>
   za (QC ((j5, 5), x)) fun y6 =>
   bif !y6 then
    some 0
   else
    some (w64 (j5 + 1))
  else
   some 1
noncomputable def zeZ (x : List zm) : Option Int :=
 bif decide ((x.length : Int) > 1500) then
  some 4
 else
  zN (fun (s1 : Int) =>
    bif decide (s1 < (x.length : Int)) then
     za (geti x s1) fun y2 =>
     za (ziw y2) fun y3 =>
     need (decide (0 ≤ s1) && decide (s1 ≤ (x.length : Int)) || !(!(!y3))) <|
     za (zz (!(!y3)) (zgT (List.drop s1.toNat x)) (default : Int)) fun y4 =>
     bif bif !y3 then true else y4 == 0 then
      some (LO.ret 8)
     else
      some (LO.again (w64 (s1 + 1)))
    else
     some (LO.out ()) : Int → Option (LO (Int) (Unit) _)) 0 fun o5 =>
  some 0
noncomputable def zbg (x : zf × Int) : Option Bool :=
 some (x.1.token.kind == x.2)
noncomputable def zaW (zP : List zf → Option Bool) (x : zf) : Option Bool :=
 za (zbg ((⟨x.token, x.list⟩ : zf), 20)) fun y1 =>
 za (zz (!y1) (zbg ((⟨x.token, x.list⟩ : zf), 22)) (default : Bool)) fun y2 =>
 za (zz (!(bif y1 then true else y2)) (zbg ((⟨x.token, x.list⟩ : zf), 24)) (default : Bool)) fun y3 =>
 za (zz (!(bif bif y1 then true else y2 then true else y3)) (zP x.list) (default : Bool)) fun y4 =>
 some (bif bif bif y1 then true else y2 then true else y3 then true else y4)
noncomputable def Qq (zP : List zf → Option Bool) (x : List zf) : Option Int :=
 zN (fun (s1 : Int) =>
   bif decide (s1 < (x.length : Int)) then
    za (geti x s1) fun y2 =>
    za (zaW zP (⟨y2.token, y2.list⟩ : zf)) fun y3 =>
    bif y3 then
     some (LO.ret s1)
    else
     some (LO.again (w64 (s1 + 1)))
   else
    some (LO.out ()) : Int → Option (LO (Int) (Unit) _)) 0 fun o4 =>
 some (-1)
noncomputable def qB (zP : List zf → Option Bool) (x : List zf) : Option Bool :=
 za (Qq zP x) fun y1 =>
 some (decide (y1 ≥ 0))
noncomputable def zdE (zP : List zf → Option Bool) (x : List zf) : Option Bool :=
 za (qB zP x) fun y1 =>
 some y1
noncomputable def zP : List zf → Option Bool := recE (zdE)
noncomputable def zle (x : zf) : Option Bool :=
 za (zbg ((⟨x.token, x.list⟩ : zf), 9)) fun y1 =>
 some (bif y1 then x.token.text == [33] else false)
noncomputable def zd6 (x : zf) : Option Bool :=
 za (zbg ((⟨x.token, x.list⟩ : zf), 17)) fun y1 =>
 za (zz (!y1) (zle (⟨x.token, x.list⟩ : zf)) (default : Bool)) fun y2 =>
 some (bif y1 then true else y2)
noncomputable def qH (x : List zf) : Option Int :=
 zN (fun (s1 : Int) =>
   bif decide (s1 < (x.length : Int)) then
    za (geti x s1) fun y2 =>
    za (zd6 (⟨y2.token, y2.list⟩ : zf)) fun y3 =>
    bif y3 then
     some (LO.ret s1)
    else
     some (LO.again (w64 (s1 + 1)))
   else
    some (LO.out ()) : Int → Option (LO (Int) (Unit) _)) 0 fun o4 =>
 some (-1)
noncomputable def ZH (x : List zf) : Option Bool :=
 za (qH x) fun y1 =>
 some (decide (y1 ≥ 0))
noncomputable def zbt (x : Zh) : Option Int :=
 za (ziE x.value) fun y1 =>
 za (zgN x.name) fun y2 =>
 za (zz (!(bif !y2 then true else y1.2 != 0)) (zeZ y1.1) (default : Int)) fun y3 =>
 za (zz (!(bif bif !y2 then true else y1.2 != 0 then true else y3 != 0)) (zP x.value) (default : Bool)) fun y4 =>
 bif bif bif bif !y2 then true else y1.2 != 0 then true else y3 != 0 then true else y4 then
  some 8
 else
  za (ZH x.value) fun y5 =>
  bif y5 then
   some 8
  else
   za (zz ((x.value.length : Int) == 0) (strings_HasPrefix (x.name, [45, 45])) (default : Bool)) fun y6 =>
   za (zz (decide ((x.value.length : Int) > 0) && !(bif (x.value.length : Int) == 0 then !y6 else false)) (geti x.value 0) (default : zf)) fun y7 =>
   za (zz (decide ((x.value.length : Int) > 0) && !(bif (x.value.length : Int) == 0 then !y6 else false)) (zbg ((⟨y7.token, y7.list⟩ : zf), 13)) (default : Bool)) fun y8 =>
   za (zz (!y8 && (decide ((x.value.length : Int) > 0) && !(bif (x.value.length : Int) == 0 then !y6 else false))) (geti x.value (w64 ((x.value.length : Int) - 1))) (default : zf)) fun y9 =>
   za (zz (!y8 && (decide ((x.value.length : Int) > 0) && !(bif (x.value.length : Int) == 0 then !y6 else false))) (zbg ((⟨y9.token, y9.list⟩ : zf), 13)) (default : Bool)) fun y10 =>
   bif bif bif (x.value.length : Int) == 0 then !y6 else false then true else bif decide ((x.value.length : Int) > 0) then bif y8 then true else y10 else false then
    some 8
   else
    some 0
noncomputable def zeV (QT : zk → Option Int) (x : zk) : Option Int :=
 zZ (X := Int) (
   bif bif x.kind == 5 then true else x.kind == 6 then
    some (LX.out 1)
   else
    some (LX.out 0)) fun j1 =>
 zN (fun (s2 : Int × Int) =>
   bif decide (s2.2 < (x.list.length : Int)) then
    za (geti x.list s2.2) fun y3 =>
    za (QT (⟨y3.kind, y3.name, y3.num, y3.decl, y3.list⟩ : zk)) fun y4 =>
    some (LO.again (if y4 > s2.1 then y4 else s2.1, w64 (s2.2 + 1)))
   else
    some (LO.out s2.1) : Int × Int → Option (LO (Int × Int) (Int) _)) (j1, 0) fun o5 =>
 some o5
noncomputable def QT : zk → Option Int := recE (zeV)
noncomputable def QB (x : zk) : Option Bool :=
 some (bif bif bif bif x.name == [] then x.num == 0 else false then x.decl.name == [] else false then (x.decl.value.length : Int) == 0 else false then !x.decl.important else false)
noncomputable def slices_Index_string (x : List Str × Str) : Option Int :=
 zN (fun (s1 : Int) =>
   bif decide (s1 < (x.1.length : Int)) then
    za (geti x.1 s1) fun y2 =>
    bif x.2 == y2 then
     some (LO.ret s1)
    else
     some (LO.again (w64 (s1 + 1)))
   else
    some (LO.out ()) : Int → Option (LO (Int) (Unit) _)) 0 fun o3 =>
 some (-1)
noncomputable def slices_Contains_string (x : List Str × Str) : Option Bool :=
 za (slices_Index_string (x.1, x.2)) fun y1 =>
 some (decide (y1 ≥ 0))
noncomputable def zdk (x : Str) : Option Bool :=
 za (slices_Contains_string ([[], [97, 110, 100], [111, 114], [110, 111, 116], [111, 110, 108, 121]], x)) fun y1 =>
 za (zz (bif !y1 then decide ((x.length : Int) ≤ 64) else false) (qK x) (default : Str)) fun y2 =>
 za (zz (bif bif !y1 then decide ((x.length : Int) ≤ 64) else false then y2 == x else false) (strings_IndexByte (x, 0)) (default : Int)) fun y3 =>
 some (bif bif bif !y1 then decide ((x.length : Int) ≤ 64) else false then y2 == x else false then decide (y3 < 0) else false)
noncomputable def zhv (x : List Int) : Option Int :=
 zN (fun (s1 : Int) =>
   bif decide (s1 < (x.length : Int)) then
    za (geti x s1) fun y2 =>
    bif bif decide (y2 < (-1000000000000)) then true else decide (y2 > 1000000000000) then
     some (LO.ret 8)
    else
     some (LO.again (w64 (s1 + 1)))
   else
    some (LO.out ()) : Int → Option (LO (Int) (Unit) _)) 0 fun o3 =>
 some 0
noncomputable def zdm (x : Int) : Option Int :=
 za (zhv [x]) fun y1 =>
 some y1
noncomputable def zeY (x : zk) : Option Bool :=
 za (zz (!(x.kind != 1)) (QB (⟨x.kind, x.name, x.num, x.decl, x.list⟩ : zk)) (default : Bool)) fun y1 =>
 bif bif bif x.kind != 1 then true else !y1 then true else (x.list.length : Int) == 0 then
  some false
 else
  zN (fun (s2 : Int) =>
    bif decide (s2 < (x.list.length : Int)) then
     zZ (X := Int) (
       za (geti x.list s2) fun y3 =>
       za (zz (!(decide ((y3.list.length : Int) > 0))) (QB (⟨y3.kind, [], 0, y3.decl, y3.list⟩ : zk)) (default : Bool)) fun y4 =>
       bif bif decide ((y3.list.length : Int) > 0) then true else !y4 then
        some (LX.ret (LO.ret false))
       else
        bif y3.kind == 4 then
         za (zz (!(bif decide (s2 > 0) then true else y3.num != 0)) (zdk y3.name) (default : Bool)) fun y5 =>
         bif bif bif decide (s2 > 0) then true else y3.num != 0 then true else !y5 then
          some (LX.ret (LO.ret false))
         else
          some (LX.out s2)
        else
         zZ (X := Bool) (
           bif y3.kind == 5 then
            some (LX.out (y3.kind == 5))
           else
            some (LX.out (y3.kind == 6))) fun j6 =>
         bif j6 then
          za (zz (!(bif !(y3.name == []) then true else decide (y3.num < 0))) (zdm y3.num) (default : Int)) fun y7 =>
          bif bif bif !(y3.name == []) then true else decide (y3.num < 0) then true else y7 != 0 then
           some (LX.ret (LO.ret false))
          else
           some (LX.out s2)
         else
          some (LX.ret (LO.ret false))) fun j8 =>
     some (LO.again (w64 (j8 + 1)))
    else
     some (LO.out ()) : Int → Option (LO (Int) (Unit) _)) 0 fun o9 =>
  some true
noncomputable def zgM (x : zk) : Option Bool :=
 za (zz (decide ((x.list.length : Int) > 0)) (geti x.list 0) (default : zk)) fun y1 =>
 some (bif decide ((x.list.length : Int) > 0) then y1.kind == 4 else false)
noncomputable def ziq (x : zk) : Option Bool :=
 bif x.kind == 3 then
  za (QB (⟨x.kind, x.name, x.num, x.decl, x.list⟩ : zk)) fun y1 =>
  za (zz (bif y1 then (x.list.length : Int) == 1 else false) (geti x.list 0) (default : zk)) fun y2 =>
  za (zz (bif y1 then (x.list.length : Int) == 1 else false) (zeY (⟨y2.kind, y2.name, y2.num, y2.decl, y2.list⟩ : zk)) (default : Bool)) fun y3 =>
  za (zz (bif bif y1 then (x.list.length : Int) == 1 else false then y3 else false) (geti x.list 0) (default : zk)) fun y4 =>
  za (zz (bif bif y1 then (x.list.length : Int) == 1 else false then y3 else false) (zgM (⟨y4.kind, y4.name, y4.num, y4.decl, y4.list⟩ : zk)) (default : Bool)) fun y5 =>
  some (bif bif bif y1 then (x.list.length : Int) == 1 else false then y3 else false then y5 else false)
 else
  za (zeY (⟨x.kind, x.name, x.num, x.decl, x.list⟩ : zk)) fun y6 =>
  some y6
noncomputable def Q4 (x : zk) : Option Bool :=
 za (ziq (⟨x.kind, x.name, x.num, x.decl, x.list⟩ : zk)) fun y1 =>
 some (!y1)
noncomputable def QK (x : List zk) : Option Int :=
 zN (fun (s1 : Int) =>
   bif decide (s1 < (x.length : Int)) then
    za (geti x s1) fun y2 =>
    za (Q4 (⟨y2.kind, y2.name, y2.num, y2.decl, y2.list⟩ : zk)) fun y3 =>
    bif y3 then
     some (LO.ret s1)
    else
     some (LO.again (w64 (s1 + 1)))
   else
    some (LO.out ()) : Int → Option (LO (Int) (Unit) _)) 0 fun o4 =>
 some (-1)
noncomputable def Z5 (x : List zk) : Option Bool :=
 za (QK x) fun y1 =>
 some (decide (y1 ≥ 0))
noncomputable def zbf (x : zk) : Option Int :=
 za (zz (bif bif x.kind == 2 then decide ((x.list.length : Int) > 0) else false then decide ((x.list.length : Int) ≤ 64) else false) (Z5 x.list) (default : Bool)) fun y1 =>
 za (QB (⟨x.kind, x.name, x.num, x.decl, x.list⟩ : zk)) fun y2 =>
 bif bif !y2 then true else bif !(bif x.kind == 1 then (x.list.length : Int) == 0 else false) then !(bif bif bif x.kind == 2 then decide ((x.list.length : Int) > 0) else false then decide ((x.list.length : Int) ≤ 64) else false then !y1 else false) else false then
  some 8
 else
  some 0
noncomputable def zcB (zam : zk → Option Int) (x : zk) : Option Int :=
 bif x.kind == 7 then
  za (Q9 x.decl.value) fun y1 =>
  some (w64 (y1.1 + 1))
 else
  bif x.kind == 8 then
   some 1
  else
   zN (fun (s2 : Int × Int) =>
     bif decide (s2.2 < (x.list.length : Int)) then
      za (geti x.list s2.2) fun y3 =>
      za (zam (⟨y3.kind, y3.name, y3.num, y3.decl, y3.list⟩ : zk)) fun y4 =>
      zZ (X := Int × Int) (
        bif bif y3.kind != 7 then y3.kind != 8 else false then
         some (LX.out (s2.1, w64 (y4 + 1)))
        else
         some (LX.out (s2.1, y4))) fun j5 =>
      some (LO.again (if j5.2 > j5.1 then j5.2 else j5.1, w64 (s2.2 + 1)))
     else
      some (LO.out s2.1) : Int × Int → Option (LO (Int × Int) (Int) _)) (0, 0) fun o6 =>
   some o6
noncomputable def zam : zk → Option Int := recE (zcB)
noncomputable def zir (x : zk) : Option Bool :=
 some (bif x.kind == 7 then true else x.kind == 8)
noncomputable def zdj (Q5 : zk × Int → Option ((Int × Bool) × Int)) (x : zk × Int) : Option ((Int × Bool) × Int) :=
 bif decide (w64 (x.2 + 1) > 1500) then
  some ((0, false), w64 (x.2 + 1))
 else
  bif x.1.kind == 7 then
   za (Q9 x.1.decl.value) fun y1 =>
   za (zz (bif bif bif (x.1.list.length : Int) == 0 then x.1.name == [] else false then x.1.num == 0 else false then y1.2 == 0 else false) (zbt x.1.decl) (default : Int)) fun y2 =>
   some ((w64 (y1.1 + 1), bif bif bif bif (x.1.list.length : Int) == 0 then x.1.name == [] else false then x.1.num == 0 else false then y1.2 == 0 else false then y2 == 0 else false), w64 (x.2 + 1))
  else
   bif x.1.kind == 8 then
    za (zz ((x.1.list.length : Int) == 0) (QB (⟨x.1.kind, x.1.name, x.1.num, x.1.decl, x.1.list⟩ : zk)) (default : Bool)) fun y3 =>
    some ((1, bif (x.1.list.length : Int) == 0 then y3 else false), w64 (x.2 + 1))
   else
    zZ (X := Bool) (
      bif x.1.kind == 3 then
       some (LX.out (x.1.kind == 3))
      else
       bif x.1.kind == 1 then
        some (LX.out (x.1.kind == 1))
       else
        some (LX.out (x.1.kind == 2))) fun j4 =>
    bif j4 then
     za (QB (⟨x.1.kind, x.1.name, x.1.num, x.1.decl, x.1.list⟩ : zk)) fun y5 =>
     bif bif bif !y5 then true else bif x.1.kind == 3 then (x.1.list.length : Int) != 1 else false then true else bif x.1.kind != 3 then decide ((x.1.list.length : Int) < 2) else false then
      some ((0, false), w64 (x.2 + 1))
     else
      zN (fun (s6 : (Int × Int) × Int) =>
        bif decide (s6.1.2 < (x.1.list.length : Int)) then
         za (geti x.1.list s6.1.2) fun y7 =>
         za (Q5 ((⟨y7.kind, y7.name, y7.num, y7.decl, y7.list⟩ : zk), s6.2)) fun y8 =>
         bif !y8.1.2 then
          some (LO.ret ((0, false), y8.2))
         else
          zZ (X := Int × Int) (
            za (zir (⟨y7.kind, y7.name, y7.num, y7.decl, y7.list⟩ : zk)) fun y9 =>
            bif !y9 then
             some (LX.out (s6.1.1, w64 (y8.1.1 + 1)))
            else
             some (LX.out (s6.1.1, y8.1.1))) fun j10 =>
          some (LO.again ((if j10.2 > j10.1 then j10.2 else j10.1, w64 (s6.1.2 + 1)), y8.2))
        else
         some (LO.out (s6.1.1, s6.2)) : (Int × Int) × Int → Option (LO ((Int × Int) × Int) (Int × Int) _)) ((0, 0), w64 (x.2 + 1)) fun o11 =>
      some ((o11.1, true), o11.2)
    else
     some ((0, false), w64 (x.2 + 1))
noncomputable def Q5 : zk × Int → Option ((Int × Bool) × Int) := recE (zdj)
noncomputable def QA (x : zk) : Option Int :=
 za (Q5 ((⟨x.kind, x.name, x.num, x.decl, x.list⟩ : zk), 0)) fun y1 =>
 bif bif !y1.1.2 then true else decide (y1.1.1 > 16) then
  some 8
 else
  some 0
noncomputable def zcA (zal : List zu → Option zo) (x : List zu) : Option zo :=
 zN (fun (s1 : Int × zo) =>
   bif decide (s1.1 < (x.length : Int)) then
    za (geti x s1.1) fun y2 =>
    za (zal y2.rules) fun y3 =>
    za (ZK y2.names) fun y4 =>
    zZ (X := (Int × Bool) × zo × zo) (
      bif y2.kind == 1 then
       za (qa y2.selectors) fun y5 =>
       za (zz (!(bif y3.bad then true else y4)) (zc4 y2.selectors) (default : Int)) fun y6 =>
       za (zz (!(bif bif bif y3.bad then true else y4 then true else y6 != 0 then true else decide ((y2.decls.length : Int) > 32))) (zch (⟨y2.cond.kind, y2.cond.name, y2.cond.num, y2.cond.decl, y2.cond.list⟩ : zk)) (default : Bool)) fun y7 =>
       zN (fun (s8 : (Bool × Int) × zo) =>
         bif decide (s8.1.2 < (y2.decls.length : Int)) then
          za (geti y2.decls s8.1.2) fun y9 =>
          za (Q9 y9.value) fun y10 =>
          za (zz (!(bif s8.1.1 then true else y10.2 != 0)) (zbt y9) (default : Int)) fun y11 =>
          some (LO.again ((bif bif s8.1.1 then true else y10.2 != 0 then true else y11 != 0, w64 (s8.1.2 + 1)), (⟨s8.2.rules, if y10.1 > s8.2.depth then y10.1 else s8.2.depth, s8.2.bad⟩ : zo)))
         else
          some (LO.out (s8.1.1, s8.2)) : (Bool × Int) × zo → Option (LO ((Bool × Int) × zo) (Bool × zo) _)) ((bif bif bif bif bif y3.bad then true else y4 then true else y6 != 0 then true else decide ((y2.decls.length : Int) > 32) then true else !y7 then true else decide (w64 ((y2.names.length : Int) + (y2.rules.length : Int)) > 0), 0), y3) fun o12 =>
       some (LX.out ((y5, o12.1), (⟨w64 (s1.2.rules + w64 (y3.rules + 1)), s1.2.depth, s1.2.bad⟩ : zo), o12.2))
      else
       bif y2.kind == 2 then
        za (QT (⟨y2.cond.kind, y2.cond.name, y2.cond.num, y2.cond.decl, y2.cond.list⟩ : zk)) fun y13 =>
        za (zz (!(bif bif bif y3.bad then true else y4 then true else decide (w64 ((y2.selectors.length : Int) + (y2.decls.length : Int)) > 0) then true else decide ((y2.names.length : Int) > 0))) (zbf (⟨y2.cond.kind, y2.cond.name, y2.cond.num, y2.cond.decl, y2.cond.list⟩ : zk)) (default : Int)) fun y14 =>
        some (LX.out ((y13, bif bif bif bif y3.bad then true else y4 then true else decide (w64 ((y2.selectors.length : Int) + (y2.decls.length : Int)) > 0) then true else decide ((y2.names.length : Int) > 0) then true else y14 != 0), (⟨w64 (s1.2.rules + w64 (y3.rules + 1)), s1.2.depth, s1.2.bad⟩ : zo), y3))
       else
        bif y2.kind == 3 then
         za (zam (⟨y2.cond.kind, y2.cond.name, y2.cond.num, y2.cond.decl, y2.cond.list⟩ : zk)) fun y15 =>
         za (zz (!(bif bif bif y3.bad then true else y4 then true else decide (w64 ((y2.selectors.length : Int) + (y2.decls.length : Int)) > 0) then true else decide ((y2.names.length : Int) > 0))) (QA (⟨y2.cond.kind, y2.cond.name, y2.cond.num, y2.cond.decl, y2.cond.list⟩ : zk)) (default : Int)) fun y16 =>
         some (LX.out ((y15, bif bif bif bif y3.bad then true else y4 then true else decide (w64 ((y2.selectors.length : Int) + (y2.decls.length : Int)) > 0) then true else decide ((y2.names.length : Int) > 0) then true else y16 != 0), (⟨w64 (s1.2.rules + w64 (y3.rules + 1)), s1.2.depth, s1.2.bad⟩ : zo), y3))
        else
         bif y2.kind == 4 then
          za (zz (!(bif bif bif y3.bad then true else y4 then true else decide (w64 ((y2.selectors.length : Int) + (y2.decls.length : Int)) > 0) then true else decide ((y2.names.length : Int) > 1))) (zch (⟨y2.cond.kind, y2.cond.name, y2.cond.num, y2.cond.decl, y2.cond.list⟩ : zk)) (default : Bool)) fun y17 =>
          some (LX.out ((0, bif bif bif bif y3.bad then true else y4 then true else decide (w64 ((y2.selectors.length : Int) + (y2.decls.length : Int)) > 0) then true else decide ((y2.names.length : Int) > 1) then true else !y17), (⟨w64 (s1.2.rules + w64 (y3.rules + 1)), s1.2.depth, s1.2.bad⟩ : zo), y3))
         else
          bif y2.kind == 5 then
           za (zz (!(bif bif bif bif bif y3.bad then true else y4 then true else decide (w64 ((y2.selectors.length : Int) + (y2.decls.length : Int)) > 0) then true else decide ((y2.names.length : Int) < 1) then true else decide ((y2.names.length : Int) > 64) then true else decide ((y2.rules.length : Int) > 0))) (zch (⟨y2.cond.kind, y2.cond.name, y2.cond.num, y2.cond.decl, y2.cond.list⟩ : zk)) (default : Bool)) fun y18 =>
           some (LX.out ((0, bif bif bif bif bif bif y3.bad then true else y4 then true else decide (w64 ((y2.selectors.length : Int) + (y2.decls.length : Int)) > 0) then true else decide ((y2.names.length : Int) < 1) then true else decide ((y2.names.length : Int) > 64) then true else decide ((y2.rules.length : Int) > 0) then true else !y18), (⟨w64 (s1.2.rules + w64 (y3.rules + 1)), s1.2.depth, s1.2.bad⟩ : zo), (⟨y3.rules, (-1), y3.bad⟩ : zo)))
          else
           some (LX.out ((0, true), (⟨w64 (s1.2.rules + w64 (y3.rules + 1)), s1.2.depth, s1.2.bad⟩ : zo), y3))) fun j19 =>
    some (LO.again (w64 (s1.1 + 1), (⟨j19.2.1.rules, if j19.1.1 > (if w64 (j19.2.2.depth + 1) > j19.2.1.depth then w64 (j19.2.2.depth + 1) else j19.2.1.depth) then j19.1.1 else if w64 (j19.2.2.depth + 1) > j19.2.1.depth then w64 (j19.2.2.depth + 1) else j19.2.1.depth, bif j19.2.1.bad then true else j19.1.2⟩ : zo)))
   else
    some (LO.out s1.2) : Int × zo → Option (LO (Int × zo) (zo) _)) (0, (⟨0, 0, false⟩ : zo)) fun o20 =>
 some o20
noncomputable def zal : List zu → Option zo := recE (zcA)
noncomputable def zcg (x : List zu) : Option Int :=
 za (zal x) fun y1 =>
 bif bif bif y1.bad then true else decide (y1.rules > 64) then true else decide (y1.depth > 16) then
  some 8
 else
  some 0
noncomputable def zaF (x : Zo) : Option Int :=
 za (zcg x.rules) fun y1 =>
 some y1
noncomputable def zbs (x : zu) : Option Int :=
 za (zcg [(⟨x.kind, x.selectors, x.decls, (⟨x.cond.kind, x.cond.name, x.cond.num, x.cond.decl, x.cond.list⟩ : zk), x.names, x.rules⟩ : zu)]) fun y1 =>
 some y1
noncomputable def zbG (x : List zu) : Option (List zu) :=
 bif x.isEmpty then
  both (
    some []) (
    need (qw 0 x.length 208) <|
    some x)
 else
  need (qw 0 x.length 208) <|
  some x
noncomputable def QW (x : List zb) : Option (List zb) :=
 bif x.isEmpty then
  both (
    some []) (
    need (qw 0 x.length 56) <|
    some x)
 else
  need (qw 0 x.length 56) <|
  some x
noncomputable def QJ (x : List zA) : Option (List zA) :=
 bif x.isEmpty then
  both (
    some []) (
    need (qw 0 x.length 40) <|
    some x)
 else
  need (qw 0 x.length 40) <|
  some x
noncomputable def za5 (x : List UInt8) : Option (List UInt8) :=
 bif x.isEmpty then
  both (
    some []) (
    need (qw 0 x.length 1) <|
    some x)
 else
  need (qw 0 x.length 1) <|
  some x
noncomputable def Qo (x : List zy) : Option (List zy) :=
 bif x.isEmpty then
  both (
    some []) (
    need (qw 0 x.length 104) <|
    some x)
 else
  need (qw 0 x.length 104) <|
  some x
noncomputable def zbC (ZF : List zb → Option (List zb)) (x : List zb) : Option (List zb) :=
 za (QW x) fun y1 =>
 zN (fun (s2 : Int × List zb) =>
   bif decide (s2.1 < (y1.length : Int)) then
    need (decide (0 ≤ s2.1) && decide (s2.1 < (s2.2.length : Int))) <|
    za s2.2[s2.1.toNat]? fun y3 =>
    za (QJ y3.parts) fun y4 =>
    za s2.2[s2.1.toNat]? fun y5 =>
    za (za5 y5.combs) fun y6 =>
    za s2.2[s2.1.toNat]? fun y7 =>
    need (Nat.beq s2.1.toNat (List.take s2.1.toNat s2.2).length) <|
    need (Nat.beq s2.1.toNat (List.take s2.1.toNat s2.2).length) <|
    zN (fun (s8 : Int × List zA) =>
      bif decide (s8.1 < (y4.length : Int)) then
       need (Nat.beq s2.1.toNat (List.take s2.1.toNat s2.2).length) <|
       need (decide (0 ≤ s8.1) && decide (s8.1 < (s8.2.length : Int))) <|
       za s8.2[s8.1.toNat]? fun y9 =>
       za (Qo y9.simples) fun y10 =>
       zN (fun (s11 : Int × List zy) =>
         bif decide (s11.1 < (y10.length : Int)) then
          need (decide (0 ≤ s11.1) && decide (s11.1 < (s11.2.length : Int))) <|
          za s11.2[s11.1.toNat]? fun y12 =>
          za (ZF y12.list) fun y13 =>
          need (decide (0 ≤ s11.1) && decide (s11.1 < (s11.2.length : Int))) <|
          za s11.2[s11.1.toNat]? fun y14 =>
          some (LO.again (w64 (s11.1 + 1), List.set s11.2 s11.1.toNat (⟨y14.kind, y14.name, y14.op, y14.value, y14.fold, y14.anb, y14.of_, y13⟩ : zy)))
         else
          some (LO.out s11.2) : Int × List zy → Option (LO (Int × List zy) (List zy) _)) (0, y10) fun o15 =>
       need (Nat.beq s2.1.toNat (List.take s2.1.toNat s2.2).length) <|
       need (decide (0 ≤ s8.1) && decide (s8.1 < (s8.2.length : Int))) <|
       za s8.2[s8.1.toNat]? fun y16 =>
       some (LO.again (w64 (s8.1 + 1), List.take s8.1.toNat s8.2 ++ List.cons (⟨y16.tag, o15⟩ : zA) (List.drop (s8.1.toNat + 1) s8.2)))
      else
       some (LO.out s8.2) : Int × List zA → Option (LO (Int × List zA) (List zA) _)) (0, y4) fun o17 =>
    some (LO.again (w64 (s2.1 + 1), List.take s2.1.toNat s2.2 ++ List.cons (⟨y7.lead, o17, y6⟩ : zb) (List.drop (s2.1.toNat + 1) s2.2)))
   else
    some (LO.out s2.2) : Int × List zb → Option (LO (Int × List zb) (List zb) _)) (0, y1) fun o18 =>
 some o18
noncomputable def ZF : List zb → Option (List zb) := recE (zbC)
noncomputable def zbF (x : List Zh) : Option (List Zh) :=
 bif x.isEmpty then
  both (
    some []) (
    need (qw 0 x.length 48) <|
    some x)
 else
  need (qw 0 x.length 48) <|
  some x
noncomputable def za4 (x : List zf) : Option (List zf) :=
 bif x.isEmpty then
  both (
    some []) (
    need (qw 0 x.length 80) <|
    some x)
 else
  need (qw 0 x.length 80) <|
  some x
noncomputable def zdT (ZO : List zf → Option (List zf)) (x : List zf) : Option (List zf) :=
 za (za4 x) fun y1 =>
 zN (fun (s2 : Int × List zf) =>
   bif decide (s2.1 < (y1.length : Int)) then
    need (decide (0 ≤ s2.1) && decide (s2.1 < (s2.2.length : Int))) <|
    za s2.2[s2.1.toNat]? fun y3 =>
    za (ZO y3.list) fun y4 =>
    need (decide (0 ≤ s2.1) && decide (s2.1 < (s2.2.length : Int))) <|
    za s2.2[s2.1.toNat]? fun y5 =>
    some (LO.again (w64 (s2.1 + 1), List.set s2.2 s2.1.toNat (⟨y5.token, y4⟩ : zf)))
   else
    some (LO.out s2.2) : Int × List zf → Option (LO (Int × List zf) (List zf) _)) (0, y1) fun o6 =>
 some o6
noncomputable def ZO : List zf → Option (List zf) := recE (zdT)
noncomputable def zdz (x : List Zh) : Option (List Zh) :=
 za (zbF x) fun y1 =>
 zN (fun (s2 : Int × List Zh) =>
   bif decide (s2.1 < (y1.length : Int)) then
    need (decide (0 ≤ s2.1) && decide (s2.1 < (s2.2.length : Int))) <|
    za s2.2[s2.1.toNat]? fun y3 =>
    za (ZO y3.value) fun y4 =>
    need (decide (0 ≤ s2.1) && decide (s2.1 < (s2.2.length : Int))) <|
    za s2.2[s2.1.toNat]? fun y5 =>
    some (LO.again (w64 (s2.1 + 1), List.set s2.2 s2.1.toNat (⟨y5.name, y4, y5.important⟩ : Zh)))
   else
    some (LO.out s2.2) : Int × List Zh → Option (LO (Int × List Zh) (List Zh) _)) (0, y1) fun o6 =>
 some o6
noncomputable def zbE (x : List zk) : Option (List zk) :=
 bif x.isEmpty then
  both (
    some []) (
    need (qw 0 x.length 104) <|
    some x)
 else
  need (qw 0 x.length 104) <|
  some x
noncomputable def zbB (ZE : zk → Option zk) (x : zk) : Option zk :=
 za (ZO x.decl.value) fun y1 =>
 za (zbE x.list) fun y2 =>
 zN (fun (s3 : Int × List zk) =>
   bif decide (s3.1 < (y2.length : Int)) then
    need (decide (0 ≤ s3.1) && decide (s3.1 < (s3.2.length : Int))) <|
    za s3.2[s3.1.toNat]? fun y4 =>
    za (ZE (⟨y4.kind, y4.name, y4.num, y4.decl, y4.list⟩ : zk)) fun y5 =>
    need (decide (0 ≤ s3.1) && decide (s3.1 < (s3.2.length : Int))) <|
    za s3.2[s3.1.toNat]? fun y6 =>
    some (LO.again (w64 (s3.1 + 1), List.set s3.2 s3.1.toNat (⟨y5.kind, y5.name, y5.num, y5.decl, y5.list⟩ : zk)))
   else
    some (LO.out s3.2) : Int × List zk → Option (LO (Int × List zk) (List zk) _)) (0, y2) fun o7 =>
 some (⟨x.kind, x.name, x.num, (⟨x.decl.name, y1, x.decl.important⟩ : Zh), o7⟩ : zk)
noncomputable def ZE : zk → Option zk := recE (zbB)
noncomputable def slices_Clone_string (x : List (List Str)) : Option (List (List Str)) :=
 bif x.isEmpty then
  both (
    some []) (
    need (qw 0 x.length 24) <|
    some x)
 else
  need (qw 0 x.length 24) <|
  some x
noncomputable def qD (x : List Str) : Option (List Str) :=
 bif x.isEmpty then
  both (
    some []) (
    need (qw 0 x.length 16) <|
    some x)
 else
  need (qw 0 x.length 16) <|
  some x
noncomputable def zgb (Qh : List zu → Option (List zu)) (x : List zu) : Option (List zu) :=
 za (zbG x) fun y1 =>
 zN (fun (s2 : Int × List zu) =>
   bif decide (s2.1 < (y1.length : Int)) then
    need (decide (0 ≤ s2.1) && decide (s2.1 < (s2.2.length : Int))) <|
    za s2.2[s2.1.toNat]? fun y3 =>
    za (ZF y3.selectors) fun y4 =>
    za s2.2[s2.1.toNat]? fun y5 =>
    za (zdz y5.decls) fun y6 =>
    za s2.2[s2.1.toNat]? fun y7 =>
    za (ZE (⟨y7.cond.kind, y7.cond.name, y7.cond.num, y7.cond.decl, y7.cond.list⟩ : zk)) fun y8 =>
    za s2.2[s2.1.toNat]? fun y9 =>
    za (Qh y9.rules) fun y10 =>
    za s2.2[s2.1.toNat]? fun y11 =>
    za (List.set s2.2 s2.1.toNat (⟨y11.kind, y4, y11.decls, (⟨y11.cond.kind, y11.cond.name, y11.cond.num, y11.cond.decl, y11.cond.list⟩ : zk), y11.names, y11.rules⟩ : zu))[s2.1.toNat]? fun y12 =>
    za (List.set (List.set s2.2 s2.1.toNat (⟨y11.kind, y4, y11.decls, (⟨y11.cond.kind, y11.cond.name, y11.cond.num, y11.cond.decl, y11.cond.list⟩ : zk), y11.names, y11.rules⟩ : zu)) s2.1.toNat (⟨y12.kind, y12.selectors, y6, (⟨y12.cond.kind, y12.cond.name, y12.cond.num, y12.cond.decl, y12.cond.list⟩ : zk), y12.names, y12.rules⟩ : zu))[s2.1.toNat]? fun y13 =>
    za (List.set (List.set (List.set s2.2 s2.1.toNat (⟨y11.kind, y4, y11.decls, (⟨y11.cond.kind, y11.cond.name, y11.cond.num, y11.cond.decl, y11.cond.list⟩ : zk), y11.names, y11.rules⟩ : zu)) s2.1.toNat (⟨y12.kind, y12.selectors, y6, (⟨y12.cond.kind, y12.cond.name, y12.cond.num, y12.cond.decl, y12.cond.list⟩ : zk), y12.names, y12.rules⟩ : zu)) s2.1.toNat (⟨y13.kind, y13.selectors, y13.decls, (⟨y8.kind, y8.name, y8.num, y8.decl, y8.list⟩ : zk), y13.names, y13.rules⟩ : zu))[s2.1.toNat]? fun y14 =>
    za (List.set (List.set (List.set (List.set s2.2 s2.1.toNat (⟨y11.kind, y4, y11.decls, (⟨y11.cond.kind, y11.cond.name, y11.cond.num, y11.cond.decl, y11.cond.list⟩ : zk), y11.names, y11.rules⟩ : zu)) s2.1.toNat (⟨y12.kind, y12.selectors, y6, (⟨y12.cond.kind, y12.cond.name, y12.cond.num, y12.cond.decl, y12.cond.list⟩ : zk), y12.names, y12.rules⟩ : zu)) s2.1.toNat (⟨y13.kind, y13.selectors, y13.decls, (⟨y8.kind, y8.name, y8.num, y8.decl, y8.list⟩ : zk), y13.names, y13.rules⟩ : zu)) s2.1.toNat (⟨y14.kind, y14.selectors, y14.decls, (⟨y14.cond.kind, y14.cond.name, y14.cond.num, y14.cond.decl, y14.cond.list⟩ : zk), y14.names, y10⟩ : zu))[s2.1.toNat]? fun y15 =>
    za (slices_Clone_string y15.names) fun y16 =>
    za (List.set (List.set (List.set (List.set s2.2 s2.1.toNat (⟨y11.kind, y4, y11.decls, (⟨y11.cond.kind, y11.cond.name, y11.cond.num, y11.cond.decl, y11.cond.list⟩ : zk), y11.names, y11.rules⟩ : zu)) s2.1.toNat (⟨y12.kind, y12.selectors, y6, (⟨y12.cond.kind, y12.cond.name, y12.cond.num, y12.cond.decl, y12.cond.list⟩ : zk), y12.names, y12.rules⟩ : zu)) s2.1.toNat (⟨y13.kind, y13.selectors, y13.decls, (⟨y8.kind, y8.name, y8.num, y8.decl, y8.list⟩ : zk), y13.names, y13.rules⟩ : zu)) s2.1.toNat (⟨y14.kind, y14.selectors, y14.decls, (⟨y14.cond.kind, y14.cond.name, y14.cond.num, y14.cond.decl, y14.cond.list⟩ : zk), y14.names, y10⟩ : zu))[s2.1.toNat]? fun y17 =>
    need (Nat.beq s2.1.toNat (List.take s2.1.toNat (List.set (List.set (List.set (List.set s2.2 s2.1.toNat (⟨y11.kind, y4, y11.decls, (⟨y11.cond.kind, y11.cond.name, y11.cond.num, y11.cond.decl, y11.cond.list⟩ : zk), y11.names, y11.rules⟩ : zu)) s2.1.toNat (⟨y12.kind, y12.selectors, y6, (⟨y12.cond.kind, y12.cond.name, y12.cond.num, y12.cond.decl, y12.cond.list⟩ : zk), y12.names, y12.rules⟩ : zu)) s2.1.toNat (⟨y13.kind, y13.selectors, y13.decls, (⟨y8.kind, y8.name, y8.num, y8.decl, y8.list⟩ : zk), y13.names, y13.rules⟩ : zu)) s2.1.toNat (⟨y14.kind, y14.selectors, y14.decls, (⟨y14.cond.kind, y14.cond.name, y14.cond.num, y14.cond.decl, y14.cond.list⟩ : zk), y14.names, y10⟩ : zu))).length) <|
    zN (fun (s18 : Int × List (List Str)) =>
      bif decide (s18.1 < (y16.length : Int)) then
       need (Nat.beq s2.1.toNat (List.take s2.1.toNat (List.set (List.set (List.set (List.set s2.2 s2.1.toNat (⟨y11.kind, y4, y11.decls, (⟨y11.cond.kind, y11.cond.name, y11.cond.num, y11.cond.decl, y11.cond.list⟩ : zk), y11.names, y11.rules⟩ : zu)) s2.1.toNat (⟨y12.kind, y12.selectors, y6, (⟨y12.cond.kind, y12.cond.name, y12.cond.num, y12.cond.decl, y12.cond.list⟩ : zk), y12.names, y12.rules⟩ : zu)) s2.1.toNat (⟨y13.kind, y13.selectors, y13.decls, (⟨y8.kind, y8.name, y8.num, y8.decl, y8.list⟩ : zk), y13.names, y13.rules⟩ : zu)) s2.1.toNat (⟨y14.kind, y14.selectors, y14.decls, (⟨y14.cond.kind, y14.cond.name, y14.cond.num, y14.cond.decl, y14.cond.list⟩ : zk), y14.names, y10⟩ : zu))).length) <|
       need (Nat.beq s2.1.toNat (List.take s2.1.toNat (List.set (List.set (List.set (List.set s2.2 s2.1.toNat (⟨y11.kind, y4, y11.decls, (⟨y11.cond.kind, y11.cond.name, y11.cond.num, y11.cond.decl, y11.cond.list⟩ : zk), y11.names, y11.rules⟩ : zu)) s2.1.toNat (⟨y12.kind, y12.selectors, y6, (⟨y12.cond.kind, y12.cond.name, y12.cond.num, y12.cond.decl, y12.cond.list⟩ : zk), y12.names, y12.rules⟩ : zu)) s2.1.toNat (⟨y13.kind, y13.selectors, y13.decls, (⟨y8.kind, y8.name, y8.num, y8.decl, y8.list⟩ : zk), y13.names, y13.rules⟩ : zu)) s2.1.toNat (⟨y14.kind, y14.selectors, y14.decls, (⟨y14.cond.kind, y14.cond.name, y14.cond.num, y14.cond.decl, y14.cond.list⟩ : zk), y14.names, y10⟩ : zu))).length) <|
       need (decide (0 ≤ s18.1) && decide (s18.1 < (s18.2.length : Int))) <|
       za s18.2[s18.1.toNat]? fun y19 =>
       za (qD y19) fun y20 =>
       need (decide (0 ≤ s18.1) && decide (s18.1 < (s18.2.length : Int))) <|
       za s18.2[s18.1.toNat]? fun y21 =>
       some (LO.again (w64 (s18.1 + 1), List.take s18.1.toNat s18.2 ++ List.cons y20 (List.drop (s18.1.toNat + 1) s18.2)))
      else
       some (LO.out s18.2) : Int × List (List Str) → Option (LO (Int × List (List Str)) (List (List Str)) _)) (0, y16) fun o22 =>
    some (LO.again (w64 (s2.1 + 1), List.take s2.1.toNat (List.set (List.set (List.set (List.set s2.2 s2.1.toNat (⟨y11.kind, y4, y11.decls, (⟨y11.cond.kind, y11.cond.name, y11.cond.num, y11.cond.decl, y11.cond.list⟩ : zk), y11.names, y11.rules⟩ : zu)) s2.1.toNat (⟨y12.kind, y12.selectors, y6, (⟨y12.cond.kind, y12.cond.name, y12.cond.num, y12.cond.decl, y12.cond.list⟩ : zk), y12.names, y12.rules⟩ : zu)) s2.1.toNat (⟨y13.kind, y13.selectors, y13.decls, (⟨y8.kind, y8.name, y8.num, y8.decl, y8.list⟩ : zk), y13.names, y13.rules⟩ : zu)) s2.1.toNat (⟨y14.kind, y14.selectors, y14.decls, (⟨y14.cond.kind, y14.cond.name, y14.cond.num, y14.cond.decl, y14.cond.list⟩ : zk), y14.names, y10⟩ : zu)) ++ List.cons (⟨y17.kind, y17.selectors, y17.decls, (⟨y17.cond.kind, y17.cond.name, y17.cond.num, y17.cond.decl, y17.cond.list⟩ : zk), o22, y17.rules⟩ : zu) (List.drop (s2.1.toNat + 1) (List.set (List.set (List.set (List.set s2.2 s2.1.toNat (⟨y11.kind, y4, y11.decls, (⟨y11.cond.kind, y11.cond.name, y11.cond.num, y11.cond.decl, y11.cond.list⟩ : zk), y11.names, y11.rules⟩ : zu)) s2.1.toNat (⟨y12.kind, y12.selectors, y6, (⟨y12.cond.kind, y12.cond.name, y12.cond.num, y12.cond.decl, y12.cond.list⟩ : zk), y12.names, y12.rules⟩ : zu)) s2.1.toNat (⟨y13.kind, y13.selectors, y13.decls, (⟨y8.kind, y8.name, y8.num, y8.decl, y8.list⟩ : zk), y13.names, y13.rules⟩ : zu)) s2.1.toNat (⟨y14.kind, y14.selectors, y14.decls, (⟨y14.cond.kind, y14.cond.name, y14.cond.num, y14.cond.decl, y14.cond.list⟩ : zk), y14.names, y10⟩ : zu)))))
   else
    some (LO.out s2.2) : Int × List zu → Option (LO (Int × List zu) (List zu) _)) (0, y1) fun o23 =>
 some o23
noncomputable def Qh : List zu → Option (List zu) := recE (zgb)
noncomputable def zem (x : Zo × zu × Int) : Option (Zo × Int) :=
 za (zaF x.1) fun y1 =>
 za (zz (!(y1 != 0)) (zbs (⟨x.2.1.kind, x.2.1.selectors, x.2.1.decls, (⟨x.2.1.cond.kind, x.2.1.cond.name, x.2.1.cond.num, x.2.1.cond.decl, x.2.1.cond.list⟩ : zk), x.2.1.names, x.2.1.rules⟩ : zu)) (default : Int)) fun y2 =>
 bif bif y1 != 0 then true else y2 != 0 then
  some ((⟨[]⟩ : Zo), 8)
 else
  bif bif decide (x.2.2 < 0) then true else decide (x.2.2 > (x.1.rules.length : Int)) then
   some ((⟨[]⟩ : Zo), 2)
  else
   need (decide (0 ≤ w64 ((x.1.rules.length : Int) + 1)) && decide (w64 ((x.1.rules.length : Int) + 1) ≤ w64 ((x.1.rules.length : Int) + 1)) && decide (w64 ((x.1.rules.length : Int) + 1) * 208 ≤ 140737488355328) && decide (w64 ((x.1.rules.length : Int) + 1) ≤ 9223372036854775807)) <|
   need (decide (0 ≤ x.2.2) && (decide (x.2.2 ≤ x.2.2) && decide (x.2.2 ≤ (x.1.rules.length : Int))) && decide (x.2.2 = x.2.2)) <|
   need (decide ((List.take x.2.2.toNat x.1.rules).length ≤ (List.replicate (Int.toNat (w64 ((x.1.rules.length : Int) + 1))) (⟨0, [], [], (⟨0, [], 0, (⟨[], [], false⟩ : Zh), []⟩ : zk), [], []⟩ : zu)).length)) <|
   need (decide (0 ≤ x.2.2) && decide (x.2.2 < ((List.take x.2.2.toNat x.1.rules ++ List.drop (List.take x.2.2.toNat x.1.rules).length (List.replicate (Int.toNat (w64 ((x.1.rules.length : Int) + 1))) (⟨0, [], [], (⟨0, [], 0, (⟨[], [], false⟩ : Zh), []⟩ : zk), [], []⟩ : zu))).length : Int))) <|
   za (List.take x.2.2.toNat x.1.rules ++ List.drop (List.take x.2.2.toNat x.1.rules).length (List.replicate (Int.toNat (w64 ((x.1.rules.length : Int) + 1))) (⟨0, [], [], (⟨0, [], 0, (⟨[], [], false⟩ : Zh), []⟩ : zk), [], []⟩ : zu)))[x.2.2.toNat]? fun y3 =>
   need (decide (0 ≤ w64 (x.2.2 + 1)) && decide (w64 (x.2.2 + 1) ≤ ((List.set (List.take x.2.2.toNat x.1.rules ++ List.drop (List.take x.2.2.toNat x.1.rules).length (List.replicate (Int.toNat (w64 ((x.1.rules.length : Int) + 1))) (⟨0, [], [], (⟨0, [], 0, (⟨[], [], false⟩ : Zh), []⟩ : zk), [], []⟩ : zu))) x.2.2.toNat (⟨x.2.1.kind, x.2.1.selectors, x.2.1.decls, (⟨x.2.1.cond.kind, x.2.1.cond.name, x.2.1.cond.num, x.2.1.cond.decl, x.2.1.cond.list⟩ : zk), x.2.1.names, x.2.1.rules⟩ : zu)).length : Int))) <|
   need (decide (0 ≤ x.2.2) && decide (x.2.2 ≤ (x.1.rules.length : Int))) <|
   need (decide ((List.drop x.2.2.toNat x.1.rules).length ≤ (List.set (List.take x.2.2.toNat x.1.rules ++ List.drop (List.take x.2.2.toNat x.1.rules).length (List.replicate (Int.toNat (w64 ((x.1.rules.length : Int) + 1))) (⟨0, [], [], (⟨0, [], 0, (⟨[], [], false⟩ : Zh), []⟩ : zk), [], []⟩ : zu))) x.2.2.toNat (⟨x.2.1.kind, x.2.1.selectors, x.2.1.decls, (⟨x.2.1.cond.kind, x.2.1.cond.name, x.2.1.cond.num, x.2.1.cond.decl, x.2.1.cond.list⟩ : zk), x.2.1.names, x.2.1.rules⟩ : zu)).length - (w64 (x.2.2 + 1)).toNat) && decide ((w64 (x.2.2 + 1)).toNat + ((List.set (List.take x.2.2.toNat x.1.rules ++ List.drop (List.take x.2.2.toNat x.1.rules).length (List.replicate (Int.toNat (w64 ((x.1.rules.length : Int) + 1))) (⟨0, [], [], (⟨0, [], 0, (⟨[], [], false⟩ : Zh), []⟩ : zk), [], []⟩ : zu))) x.2.2.toNat (⟨x.2.1.kind, x.2.1.selectors, x.2.1.decls, (⟨x.2.1.cond.kind, x.2.1.cond.name, x.2.1.cond.num, x.2.1.cond.decl, x.2.1.cond.list⟩ : zk), x.2.1.names, x.2.1.rules⟩ : zu)).length - (w64 (x.2.2 + 1)).toNat) ≤ (List.set (List.take x.2.2.toNat x.1.rules ++ List.drop (List.take x.2.2.toNat x.1.rules).length (List.replicate (Int.toNat (w64 ((x.1.rules.length : Int) + 1))) (⟨0, [], [], (⟨0, [], 0, (⟨[], [], false⟩ : Zh), []⟩ : zk), [], []⟩ : zu))) x.2.2.toNat (⟨x.2.1.kind, x.2.1.selectors, x.2.1.decls, (⟨x.2.1.cond.kind, x.2.1.cond.name, x.2.1.cond.num, x.2.1.cond.decl, x.2.1.cond.list⟩ : zk), x.2.1.names, x.2.1.rules⟩ : zu)).length)) <|
   za (zaF (⟨List.take (w64 (x.2.2 + 1)).toNat (List.set (List.take x.2.2.toNat x.1.rules ++ List.drop (List.take x.2.2.toNat x.1.rules).length (List.replicate (Int.toNat (w64 ((x.1.rules.length : Int) + 1))) (⟨0, [], [], (⟨0, [], 0, (⟨[], [], false⟩ : Zh), []⟩ : zk), [], []⟩ : zu))) x.2.2.toNat (⟨x.2.1.kind, x.2.1.selectors, x.2.1.decls, (⟨x.2.1.cond.kind, x.2.1.cond.name, x.2.1.cond.num, x.2.1.cond.decl, x.2.1.cond.list⟩ : zk), x.2.1.names, x.2.1.rules⟩ : zu)) ++ List.drop x.2.2.toNat x.1.rules ++ List.drop ((w64 (x.2.2 + 1)).toNat + (List.drop x.2.2.toNat x.1.rules).length) (List.set (List.take x.2.2.toNat x.1.rules ++ List.drop (List.take x.2.2.toNat x.1.rules).length (List.replicate (Int.toNat (w64 ((x.1.rules.length : Int) + 1))) (⟨0, [], [], (⟨0, [], 0, (⟨[], [], false⟩ : Zh), []⟩ : zk), [], []⟩ : zu))) x.2.2.toNat (⟨x.2.1.kind, x.2.1.selectors, x.2.1.decls, (⟨x.2.1.cond.kind, x.2.1.cond.name, x.2.1.cond.num, x.2.1.cond.decl, x.2.1.cond.list⟩ : zk), x.2.1.names, x.2.1.rules⟩ : zu))⟩ : Zo)) fun y4 =>
   bif y4 != 0 then
    some ((⟨[]⟩ : Zo), 18)
   else
    za (Qh (List.take (w64 (x.2.2 + 1)).toNat (List.set (List.take x.2.2.toNat x.1.rules ++ List.drop (List.take x.2.2.toNat x.1.rules).length (List.replicate (Int.toNat (w64 ((x.1.rules.length : Int) + 1))) (⟨0, [], [], (⟨0, [], 0, (⟨[], [], false⟩ : Zh), []⟩ : zk), [], []⟩ : zu))) x.2.2.toNat (⟨x.2.1.kind, x.2.1.selectors, x.2.1.decls, (⟨x.2.1.cond.kind, x.2.1.cond.name, x.2.1.cond.num, x.2.1.cond.decl, x.2.1.cond.list⟩ : zk), x.2.1.names, x.2.1.rules⟩ : zu)) ++ List.drop x.2.2.toNat x.1.rules ++ List.drop ((w64 (x.2.2 + 1)).toNat + (List.drop x.2.2.toNat x.1.rules).length) (List.set (List.take x.2.2.toNat x.1.rules ++ List.drop (List.take x.2.2.toNat x.1.rules).length (List.replicate (Int.toNat (w64 ((x.1.rules.length : Int) + 1))) (⟨0, [], [], (⟨0, [], 0, (⟨[], [], false⟩ : Zh), []⟩ : zk), [], []⟩ : zu))) x.2.2.toNat (⟨x.2.1.kind, x.2.1.selectors, x.2.1.decls, (⟨x.2.1.cond.kind, x.2.1.cond.name, x.2.1.cond.num, x.2.1.cond.decl, x.2.1.cond.list⟩ : zk), x.2.1.names, x.2.1.rules⟩ : zu)))) fun y5 =>
    some ((⟨y5⟩ : Zo), 0)
noncomputable def zce (x : Str × Int) : Option Bool :=
 zN (fun (s1 : Int) =>
   bif decide (s1 < (x.1.length : Int)) then
    za (geti x.1 s1) fun y2 =>
    bif (y2.toNat : Int) == 0 then
     some (LO.ret false)
    else
     some (LO.again (w64 (s1 + 1)))
   else
    some (LO.out ()) : Int → Option (LO (Int) (Unit) _)) 0 fun o3 =>
 some (decide ((x.1.length : Int) ≤ x.2))
noncomputable def QS (x : Str) : Option Bool :=
 za (zz (!(x == [])) (zce (x, 64)) (default : Bool)) fun y1 =>
 some (bif !(x == []) then y1 else false)
noncomputable def Qk (x : Int) : Option Int :=
 bif bif decide (x ≥ 65) then decide (x ≤ 90) else false then
  some (wu8 (wu8 (x - 65) + 97))
 else
  some x
noncomputable def ZZ (x : Str) : Option Str :=
 need (decide (x.length ≤ maxLen)) <|
 zN (fun (s1 : Int × List UInt8) =>
   bif decide (s1.1 < (s1.2.length : Int)) then
    need (decide (0 ≤ s1.1) && decide (s1.1 < (s1.2.length : Int))) <|
    za s1.2[s1.1.toNat]? fun y2 =>
    za (Qk (y2.toNat : Int)) fun y3 =>
    need (decide (0 ≤ s1.1) && decide (s1.1 < (s1.2.length : Int))) <|
    za s1.2[s1.1.toNat]? fun y4 =>
    za (zbM y3) fun y5 =>
    some (LO.again (w64 (s1.1 + 1), List.set s1.2 s1.1.toNat y5))
   else
    some (LO.out s1.2) : Int × List UInt8 → Option (LO (Int × List UInt8) (List UInt8) _)) (0, x) fun o6 =>
 some o6
noncomputable def zcd (x : Str) : Option Bool :=
 za (QS x) fun y1 =>
 za (zz y1 (ZZ x) (default : Str)) fun y2 =>
 some (bif y1 then x == y2 else false)
noncomputable def zav (x : zy) : Option Qi :=
 some (⟨x.kind, x.name, x.op, x.value, x.fold, x.anb, x.of_⟩ : Qi)
noncomputable def zfD (x : VAnb) : Option Bool :=
 some (bif bif bif decide (x.a ≥ (-1000000000)) then decide (x.a ≤ 1000000000) else false then decide (x.b ≥ (-1000000000)) else false then decide (x.b ≤ 1000000000) else false)
noncomputable def zfH (x : zK × Int) : Option (zK × Bool) :=
 bif bif x.1.deep == 3 then true else bif x.2 == 14 then x.1.has else false then
  some (x.1, false)
 else
  some ((⟨w64 (x.1.deep + 1), bif x.1.has then true else x.2 == 14⟩ : zK), true)
noncomputable def zbo (zQ : zb × zK × Bool → Option Bool) (x : List zb × zK × Int) : Option Bool :=
 za (zfH (x.2.1, x.2.2)) fun y1 =>
 bif !y1.2 then
  some false
 else
  zN (fun (s2 : Int) =>
    bif decide (s2 < (x.1.length : Int)) then
     za (geti x.1 s2) fun y3 =>
     za (zQ ((⟨y3.lead, y3.parts, y3.combs⟩ : zb), y1.1, x.2.2 == 14)) fun y4 =>
     bif !y4 then
      some (LO.ret false)
     else
      some (LO.again (w64 (s2 + 1)))
    else
     some (LO.out ()) : Int → Option (LO (Int) (Unit) _)) 0 fun o5 =>
  some true
noncomputable def zcv (zQ : zb × zK × Bool → Option Bool) (x : zy × zK) : Option Bool :=
 za (zav (⟨x.1.kind, x.1.name, x.1.op, x.1.value, x.1.fold, x.1.anb, x.1.of_, x.1.list⟩ : zy)) fun y1 =>
 zZ (X := Bool) (
   bif x.1.kind == 1 then
    some (LX.out (x.1.kind == 1))
   else
    some (LX.out (x.1.kind == 2))) fun j2 =>
 bif j2 then
  za (QS x.1.name) fun y3 =>
  some (bif bif y3 then y1.kind == x.1.kind && (y1.name == x.1.name && (y1.op == 0 && (y1.value == [] && (y1.fold == false && (y1.anb.a == 0 && (y1.anb.b == 0 && (y1.of_ == false && true))))))) else false then (x.1.list.length : Int) == 0 else false)
 else
  bif x.1.kind == 3 then
   za (zcd x.1.name) fun y4 =>
   za (zz (bif y4 then decide (x.1.op ≤ 6) else false) (zce (x.1.value, 400)) (default : Bool)) fun y5 =>
   some (bif bif bif bif bif y4 then decide (x.1.op ≤ 6) else false then y5 else false then bif x.1.op != 0 then true else bif x.1.value == [] then !x.1.fold else false else false then y1.kind == x.1.kind && (y1.name == x.1.name && (y1.op == x.1.op && (y1.value == x.1.value && (y1.fold == x.1.fold && (y1.anb.a == 0 && (y1.anb.b == 0 && (y1.of_ == false && true))))))) else false then (x.1.list.length : Int) == 0 else false)
  else
   zZ (X := Bool) (
     bif x.1.kind == 4 then
      some (LX.out (x.1.kind == 4))
     else
      bif x.1.kind == 5 then
       some (LX.out (x.1.kind == 5))
      else
       bif x.1.kind == 6 then
        some (LX.out (x.1.kind == 6))
       else
        bif x.1.kind == 7 then
         some (LX.out (x.1.kind == 7))
        else
         some (LX.out (x.1.kind == 8))) fun j6 =>
   bif j6 then
    some (bif y1.kind == x.1.kind && (y1.name == [] && (y1.op == 0 && (y1.value == [] && (y1.fold == false && (y1.anb.a == 0 && (y1.anb.b == 0 && (y1.of_ == false && true))))))) then (x.1.list.length : Int) == 0 else false)
   else
    zZ (X := Bool) (
      bif x.1.kind == 9 then
       some (LX.out (x.1.kind == 9))
      else
       some (LX.out (x.1.kind == 10))) fun j7 =>
    bif j7 then
     za (zfD x.1.anb) fun y8 =>
     bif bif !y8 then true else !(y1.kind == x.1.kind && (y1.name == [] && (y1.op == 0 && (y1.value == [] && (y1.fold == false && (y1.anb.a == x.1.anb.a && (y1.anb.b == x.1.anb.b && (y1.of_ == x.1.of_ && true)))))))) then
      some false
     else
      bif !x.1.of_ then
       some ((x.1.list.length : Int) == 0)
      else
       za (zz (decide ((x.1.list.length : Int) > 0)) (zbo zQ (x.1.list, x.2, x.1.kind)) (default : Bool)) fun y9 =>
       some (bif decide ((x.1.list.length : Int) > 0) then y9 else false)
    else
     zZ (X := Bool) (
       bif x.1.kind == 11 then
        some (LX.out (x.1.kind == 11))
       else
        some (LX.out (x.1.kind == 12))) fun j10 =>
     bif j10 then
      za (zz (y1.kind == x.1.kind && (y1.name == [] && (y1.op == 0 && (y1.value == [] && (y1.fold == false && (y1.anb.a == 0 && (y1.anb.b == 0 && (y1.of_ == false && true)))))))) (zbo zQ (x.1.list, x.2, x.1.kind)) (default : Bool)) fun y11 =>
      some (bif y1.kind == x.1.kind && (y1.name == [] && (y1.op == 0 && (y1.value == [] && (y1.fold == false && (y1.anb.a == 0 && (y1.anb.b == 0 && (y1.of_ == false && true))))))) then y11 else false)
     else
      zZ (X := Bool) (
        bif x.1.kind == 13 then
         some (LX.out (x.1.kind == 13))
        else
         some (LX.out (x.1.kind == 14))) fun j12 =>
      bif j12 then
       za (zz (bif y1.kind == x.1.kind && (y1.name == [] && (y1.op == 0 && (y1.value == [] && (y1.fold == false && (y1.anb.a == 0 && (y1.anb.b == 0 && (y1.of_ == false && true))))))) then decide ((x.1.list.length : Int) > 0) else false) (zbo zQ (x.1.list, x.2, x.1.kind)) (default : Bool)) fun y13 =>
       some (bif bif y1.kind == x.1.kind && (y1.name == [] && (y1.op == 0 && (y1.value == [] && (y1.fold == false && (y1.anb.a == 0 && (y1.anb.b == 0 && (y1.of_ == false && true))))))) then decide ((x.1.list.length : Int) > 0) else false then y13 else false)
      else
       some false
noncomputable def zaZ (zQ : zb × zK × Bool → Option Bool) (x : zA × zK) : Option Bool :=
 za (zz (bif !(x.1.tag == []) then !(x.1.tag == [42]) else false) (zcd x.1.tag) (default : Bool)) fun y1 =>
 bif bif bif bif bif !(x.1.tag == []) then !(x.1.tag == [42]) else false then !y1 else false then true else bif x.1.tag == [] then (x.1.simples.length : Int) == 0 else false then true else decide ((x.1.simples.length : Int) > 64) then
  some false
 else
  zN (fun (s2 : Int) =>
    bif decide (s2 < (x.1.simples.length : Int)) then
     za (geti x.1.simples s2) fun y3 =>
     za (zcv zQ ((⟨y3.kind, y3.name, y3.op, y3.value, y3.fold, y3.anb, y3.of_, y3.list⟩ : zy), x.2)) fun y4 =>
     bif !y4 then
      some (LO.ret false)
     else
      some (LO.again (w64 (s2 + 1)))
    else
     some (LO.out ()) : Int → Option (LO (Int) (Unit) _)) 0 fun o5 =>
  some true
noncomputable def zeT (zQ : zb × zK × Bool → Option Bool) (x : zb × zK × Bool) : Option Bool :=
 bif bif bif bif bif !((x.1.lead != 0) == x.2.2) then true else decide (x.1.lead > 4) then true else (x.1.parts.length : Int) == 0 then true else decide ((x.1.parts.length : Int) > 64) then true else (x.1.combs.length : Int) != w64 ((x.1.parts.length : Int) - 1) then
  some false
 else
  zN (fun (s1 : Int) =>
    bif decide (s1 < (x.1.parts.length : Int)) then
     za (geti x.1.parts s1) fun y2 =>
     za (zaZ zQ ((⟨y2.tag, y2.simples⟩ : zA), x.2.1)) fun y3 =>
     za (zz (decide (s1 > 0) && !(!y3)) (geti x.1.combs (w64 (s1 - 1))) (default : UInt8)) fun y4 =>
     za (zz (!(decide ((y4.toNat : Int) < 1)) && (decide (s1 > 0) && !(!y3))) (geti x.1.combs (w64 (s1 - 1))) (default : UInt8)) fun y5 =>
     bif bif !y3 then true else bif decide (s1 > 0) then bif decide ((y4.toNat : Int) < 1) then true else decide ((y5.toNat : Int) > 4) else false then
      some (LO.ret false)
     else
      some (LO.again (w64 (s1 + 1)))
    else
     some (LO.out ()) : Int → Option (LO (Int) (Unit) _)) 0 fun o6 =>
  some true
noncomputable def zQ : zb × zK × Bool → Option Bool := recE (zeT)
noncomputable def zha (x : List zb) : Option Bool :=
 zN (fun (s1 : Int) =>
   bif decide (s1 < (x.length : Int)) then
    za (geti x s1) fun y2 =>
    za (zQ ((⟨y2.lead, y2.parts, y2.combs⟩ : zb), (⟨0, false⟩ : zK), false)) fun y3 =>
    bif !y3 then
     some (LO.ret false)
    else
     some (LO.again (w64 (s1 + 1)))
   else
    some (LO.out ()) : Int → Option (LO (Int) (Unit) _)) 0 fun o4 =>
 some (decide ((x.length : Int) > 0))
noncomputable def zdP (Qc : List zb → Option Int) (x : List zb) : Option Int :=
 zN (fun (s1 : Int × Int) =>
   bif decide (s1.2 < (x.length : Int)) then
    zN (fun (s2 : Int × Int) =>
      za (geti x s1.2) fun y3 =>
      bif decide (s2.2 < (y3.parts.length : Int)) then
       za (geti x s1.2) fun y4 =>
       za (geti y4.parts s2.2) fun y5 =>
       zN (fun (s6 : Int × Int) =>
         bif decide (s6.2 < (y5.simples.length : Int)) then
          za (geti y5.simples s6.2) fun y7 =>
          za (Qc y7.list) fun y8 =>
          some (LO.again (w64 (s6.1 + y8), w64 (s6.2 + 1)))
         else
          some (LO.out s6.1) : Int × Int → Option (LO (Int × Int) (Int) _)) (s2.1, 0) fun o9 =>
       some (LO.again (o9, w64 (s2.2 + 1)))
      else
       some (LO.out s2.1) : Int × Int → Option (LO (Int × Int) (Int) _)) (s1.1, 0) fun o10 =>
    some (LO.again (o10, w64 (s1.2 + 1)))
   else
    some (LO.out s1.1) : Int × Int → Option (LO (Int × Int) (Int) _)) ((x.length : Int), 0) fun o11 =>
 some o11
noncomputable def Qc : List zb → Option Int := recE (zdP)
noncomputable def zfE (x : List zb) : Option Int :=
 za (zha x) fun y1 =>
 bif !y1 then
  some 8
 else
  za (Qc x) fun y2 =>
  bif decide (y2 > 64) then
   some 4
  else
   some 0
noncomputable def zee (zad : List zf × List zf → Option Bool) (x : List zf × List zf) : Option Bool :=
 bif (x.1.length : Int) != (x.2.length : Int) then
  some false
 else
  zN (fun (s1 : Int) =>
    bif decide (s1 < (x.1.length : Int)) then
     za (geti x.1 s1) fun y2 =>
     za (geti x.2 s1) fun y3 =>
     za (zz (!(!(y2.token.kind == y3.token.kind && (y2.token.text == y3.token.text && (y2.token.num == y3.token.num && (y2.token.unit == y3.token.unit && (y2.token.flag == y3.token.flag && true))))))) (geti x.1 s1) (default : zf)) fun y4 =>
     za (zz (!(!(y2.token.kind == y3.token.kind && (y2.token.text == y3.token.text && (y2.token.num == y3.token.num && (y2.token.unit == y3.token.unit && (y2.token.flag == y3.token.flag && true))))))) (geti x.2 s1) (default : zf)) fun y5 =>
     za (zz (!(!(y2.token.kind == y3.token.kind && (y2.token.text == y3.token.text && (y2.token.num == y3.token.num && (y2.token.unit == y3.token.unit && (y2.token.flag == y3.token.flag && true))))))) (zad (y4.list, y5.list)) (default : Bool)) fun y6 =>
     bif bif !(y2.token.kind == y3.token.kind && (y2.token.text == y3.token.text && (y2.token.num == y3.token.num && (y2.token.unit == y3.token.unit && (y2.token.flag == y3.token.flag && true))))) then true else !y6 then
      some (LO.ret false)
     else
      some (LO.again (w64 (s1 + 1)))
    else
     some (LO.out ()) : Int → Option (LO (Int) (Unit) _)) 0 fun o7 =>
  some true
noncomputable def zad : List zf × List zf → Option Bool := recE (zee)
noncomputable def QR (x : Zh × Zh) : Option Bool :=
 za (zz (bif x.1.name == x.2.name then x.1.important == x.2.important else false) (zad (x.1.value, x.2.value)) (default : Bool)) fun y1 =>
 some (bif bif x.1.name == x.2.name then x.1.important == x.2.important else false then y1 else false)
noncomputable def zei (qF : zk × zk → Option Bool) (x : zk × zk) : Option Bool :=
 za (zz (!(bif bif x.1.kind != x.2.kind then true else !(x.1.name == x.2.name) then true else x.1.num != x.2.num)) (QR (x.1.decl, x.2.decl)) (default : Bool)) fun y1 =>
 bif bif bif bif bif x.1.kind != x.2.kind then true else !(x.1.name == x.2.name) then true else x.1.num != x.2.num then true else !y1 then true else (x.1.list.length : Int) != (x.2.list.length : Int) then
  some false
 else
  zN (fun (s2 : Int) =>
    bif decide (s2 < (x.1.list.length : Int)) then
     za (geti x.1.list s2) fun y3 =>
     za (geti x.2.list s2) fun y4 =>
     za (qF ((⟨y3.kind, y3.name, y3.num, y3.decl, y3.list⟩ : zk), (⟨y4.kind, y4.name, y4.num, y4.decl, y4.list⟩ : zk))) fun y5 =>
     bif !y5 then
      some (LO.ret false)
     else
      some (LO.again (w64 (s2 + 1)))
    else
     some (LO.out ()) : Int → Option (LO (Int) (Unit) _)) 0 fun o6 =>
  some true
noncomputable def qF : zk × zk → Option Bool := recE (zei)
noncomputable def zdy (x : zk) : Option Bool :=
 za (qF ((⟨x.kind, x.name, x.num, x.decl, x.list⟩ : zk), (⟨0, [], 0, (⟨[], [], false⟩ : Zh), []⟩ : zk))) fun y1 =>
 some y1
noncomputable def zfC (x : Str) : Option Bool :=
 bif bif decide ((x.length : Int) < 1) then true else decide ((x.length : Int) > 64) then
  some false
 else
  zN (fun (s1 : Int) =>
    bif decide (s1 < (x.length : Int)) then
     za (geti x s1) fun y2 =>
     bif (y2.toNat : Int) == 0 then
      some (LO.ret false)
     else
      some (LO.again (w64 (s1 + 1)))
    else
     some (LO.out ()) : Int → Option (LO (Int) (Unit) _)) 0 fun o3 =>
  need (decide (2 ≤ (x.length : Int)) || !(decide ((x.length : Int) ≥ 2))) <|
  bif bif decide ((x.length : Int) ≥ 2) then List.take 2 x == [45, 45] else false then
   some (decide ((x.length : Int) > 2))
  else
   za (ZZ x) fun y4 =>
   some (x == y4)
noncomputable def zdN (qi : List zf → Option (List zm)) (x : List zf) : Option (List zm) :=
 zN (fun (s1 : Int × List zm) =>
   bif decide (s1.1 < (x.length : Int)) then
    zZ (X := Int × List zm) (
      za (geti x s1.1) fun y2 =>
      need (qw s1.2.length 1 56) <|
      za (geti x s1.1) fun y3 =>
      za (QG y3.token.kind) fun y4 =>
      bif y4 != 0 then
       za (geti x s1.1) fun y5 =>
       za (qi y5.list) fun y6 =>
       need (qw (s1.2 ++ [y2.token]).length y6.length 56) <|
       need (qw (s1.2 ++ [y2.token] ++ y6).length 1 56) <|
       some (LX.out (s1.1, s1.2 ++ [y2.token] ++ y6 ++ [(⟨y4, [], 0, [], false⟩ : zm)]))
      else
       some (LX.out (s1.1, s1.2 ++ [y2.token]))) fun j7 =>
    some (LO.again (w64 (j7.1 + 1), j7.2))
   else
    some (LO.out s1.2) : Int × List zm → Option (LO (Int × List zm) (List zm) _)) (0, []) fun o8 =>
 some o8
noncomputable def qi : List zf → Option (List zm) := recE (zdN)
noncomputable def zdO (Qb : List zf × Int → Option Bool) (x : List zf × Int) : Option Bool :=
 zN (fun (s1 : Int) =>
   bif decide (s1 < (x.1.length : Int)) then
    za (geti x.1 s1) fun y2 =>
    za (QG y2.token.kind) fun y3 =>
    za (zz (y3 == 0) (geti x.1 s1) (default : zf)) fun y4 =>
    za (zz (x.2 != 0 && !(bif y3 == 0 then decide ((y4.list.length : Int) > 0) else false)) (geti x.1 s1) (default : zf)) fun y5 =>
    za (zz (y3 != 0 && !(bif bif y3 == 0 then decide ((y4.list.length : Int) > 0) else false then true else bif x.2 != 0 then y5.token.kind == x.2 else false)) (geti x.1 s1) (default : zf)) fun y6 =>
    za (zz (y3 != 0 && !(bif bif y3 == 0 then decide ((y4.list.length : Int) > 0) else false then true else bif x.2 != 0 then y5.token.kind == x.2 else false)) (Qb (y6.list, y3)) (default : Bool)) fun y7 =>
    bif bif bif bif y3 == 0 then decide ((y4.list.length : Int) > 0) else false then true else bif x.2 != 0 then y5.token.kind == x.2 else false then true else bif y3 != 0 then !y7 else false then
     some (LO.ret false)
    else
     some (LO.again (w64 (s1 + 1)))
   else
    some (LO.out ()) : Int → Option (LO (Int) (Unit) _)) 0 fun o8 =>
 some true
noncomputable def Qb : List zf × Int → Option Bool := recE (zdO)
noncomputable def zfB (x : List zf) : Option Int :=
 za (ZP x) fun y1 =>
 bif decide (y1 > 16) then
  some 20
 else
  za (qi x) fun y2 =>
  bif decide ((y2.length : Int) > 1500) then
   some 4
  else
   za (Qb (x, 0)) fun y3 =>
   bif !y3 then
    some 8
   else
    some 0
noncomputable def zbl (x : Str) : Option Bool :=
 zN (fun (s1 : Int) =>
   bif decide (s1 < (x.length : Int)) then
    za (geti x s1) fun y2 =>
    bif (y2.toNat : Int) == 0 then
     some (LO.ret false)
    else
     some (LO.again (w64 (s1 + 1)))
   else
    some (LO.out ()) : Int → Option (LO (Int) (Unit) _)) 0 fun o3 =>
 some true
noncomputable def Zi (x : Int) : Option Bool :=
 some (bif decide (x ≥ 48) then decide (x ≤ 57) else false)
noncomputable def zg8 (x : Str) : Option Bool :=
 bif x == [] then
  some false
 else
  za (geti x 0) fun y1 =>
  za (Zi (y1.toNat : Int)) fun y2 =>
  za (zz (!(bif y2 then true else x == [45])) (geti x 0) 0) fun y3 =>
  za (zz ((y3.toNat : Int) == 45 && !(bif y2 then true else x == [45])) (geti x 1) 0) fun y4 =>
  za (zz ((y3.toNat : Int) == 45 && !(bif y2 then true else x == [45])) (Zi (y4.toNat : Int)) (default : Bool)) fun y5 =>
  some (bif bif y2 then true else x == [45] then true else bif (y3.toNat : Int) == 45 then y5 else false)
noncomputable def Ql (x : Int) : Option Bool :=
 some (bif bif x == 10 then true else x == 9 then true else x == 32)
noncomputable def Za (x : Str × Int) : Option Int :=
 bif decide (x.2 < (x.1.length : Int)) then
  za (geti x.1 x.2) fun y1 =>
  some (y1.toNat : Int)
 else
  some 0
noncomputable def Qa (x : Str × Int) : Option Int :=
 zN (fun (s1 : Int) =>
   za (Za (x.1, s1)) fun y2 =>
   za (Ql y2) fun y3 =>
   bif y3 then
    some (LO.again (w64 (s1 + 1)))
   else
    some (LO.out s1) : Int → Option (LO (Int) (Int) _)) x.2 fun o4 =>
 some o4
noncomputable def zdu (x : Unit) : Option Str :=
 some [(239 : UInt8), (191 : UInt8), (189 : UInt8)]
noncomputable def zfy (x : Int) : Option Int :=
 za (Zi x) fun y1 =>
 bif y1 then
  some (w64 (wu8 (x - 48)))
 else
  za (Qk x) fun y2 =>
  bif bif decide (y2 ≥ 97) then decide (y2 ≤ 102) else false then
   some (w64 (w64 (wu8 (y2 - 97)) + 10))
  else
   some (-1)
noncomputable def zg4 (x : Int) : Option Str :=
 bif bif bif x == 0 then true else bif decide (x ≥ 55296) then decide (x ≤ 57343) else false then true else decide (x > 1114111) then
  za (zdu ()) fun y1 =>
  some y1
 else
  bif decide (x < 128) then
   za (zbM (wu8 x)) fun y2 =>
   some [y2]
  else
   bif decide (x < 2048) then
    za (zbM (wu8 (w64 (192 + w64 (Int.tdiv x 64))))) fun y3 =>
    za (zbM (wu8 (w64 (128 + Int.tmod x 64)))) fun y4 =>
    some [y3, y4]
   else
    bif decide (x < 65536) then
     za (zbM (wu8 (w64 (224 + w64 (Int.tdiv x 4096))))) fun y5 =>
     za (zbM (wu8 (w64 (128 + Int.tmod (w64 (Int.tdiv x 64)) 64)))) fun y6 =>
     za (zbM (wu8 (w64 (128 + Int.tmod x 64)))) fun y7 =>
     some [y5, y6, y7]
    else
     za (zbM (wu8 (w64 (240 + w64 (Int.tdiv x 262144))))) fun y8 =>
     za (zbM (wu8 (w64 (128 + Int.tmod (w64 (Int.tdiv x 4096)) 64)))) fun y9 =>
     za (zbM (wu8 (w64 (128 + Int.tmod (w64 (Int.tdiv x 64)) 64)))) fun y10 =>
     za (zbM (wu8 (w64 (128 + Int.tmod x 64)))) fun y11 =>
     some [y8, y9, y10, y11]
noncomputable def qd (x : Str × Int) : Option (Str × Int) :=
 bif decide (w64 (x.2 + 1) ≥ (x.1.length : Int)) then
  za (zdu ()) fun y1 =>
  some (y1, w64 (x.2 + 1))
 else
  za (geti x.1 (w64 (x.2 + 1))) fun y2 =>
  za (zfy (y2.toNat : Int)) fun y3 =>
  bif decide (y3 < 0) then
   need (decide (0 ≤ w64 (x.2 + 1)) && (decide (w64 (x.2 + 1) ≤ w64 (w64 (x.2 + 1) + 1)) && decide (w64 (w64 (x.2 + 1) + 1) ≤ (x.1.length : Int)))) <|
   some (List.drop (w64 (x.2 + 1)).toNat (List.take (w64 (w64 (x.2 + 1) + 1)).toNat x.1), w64 (w64 (x.2 + 1) + 1))
  else
   zN (fun (s4 : Int × Int) =>
     za (zz (bif decide (s4.2 < (x.1.length : Int)) then decide (s4.2 < w64 (w64 (x.2 + 1) + 6)) else false) (geti x.1 s4.2) 0) fun y5 =>
     za (zz (bif decide (s4.2 < (x.1.length : Int)) then decide (s4.2 < w64 (w64 (x.2 + 1) + 6)) else false) (zfy (y5.toNat : Int)) (default : Int)) fun y6 =>
     bif bif bif decide (s4.2 < (x.1.length : Int)) then decide (s4.2 < w64 (w64 (x.2 + 1) + 6)) else false then decide (y6 ≥ 0) else false then
      za (geti x.1 s4.2) fun y7 =>
      za (zfy (y7.toNat : Int)) fun y8 =>
      some (LO.again (w64 (w64 (16 * s4.1) + y8), w64 (s4.2 + 1)))
     else
      some (LO.out (s4.1, s4.2)) : Int × Int → Option (LO (Int × Int) (Int × Int) _)) (0, w64 (x.2 + 1)) fun o9 =>
   zZ (X := Int) (
     za (Za (x.1, o9.2)) fun y10 =>
     za (Ql y10) fun y11 =>
     bif y11 then
      some (LX.out (w64 (o9.2 + 1)))
     else
      some (LX.out o9.2)) fun j12 =>
   za (zg4 o9.1) fun y13 =>
   some (y13, j12)
noncomputable def zed (x : Str × Int) : Option (zm × Int) :=
 za (geti x.1 x.2) fun y1 =>
 zN (fun (s2 : Int × zm × zm) =>
   bif decide (s2.1 < (x.1.length : Int)) then
    za (geti x.1 s2.1) fun y3 =>
    bif (y3.toNat : Int) == (y1.toNat : Int) then
     some (LO.ret (s2.2.2, w64 (s2.1 + 1)))
    else
     za (geti x.1 s2.1) fun y4 =>
     bif (y4.toNat : Int) == 10 then
      some (LO.ret ((⟨6, [], 0, [], false⟩ : zm), s2.1))
     else
      za (geti x.1 s2.1) fun y5 =>
      bif bif (y5.toNat : Int) == 92 then w64 (s2.1 + 1) == (x.1.length : Int) else false then
       some (LO.again (w64 (s2.1 + 1), s2.2.1, s2.2.2))
      else
       za (geti x.1 s2.1) fun y6 =>
       za (zz ((y6.toNat : Int) == 92) (geti x.1 (w64 (s2.1 + 1))) 0) fun y7 =>
       bif bif (y6.toNat : Int) == 92 then (y7.toNat : Int) == 10 else false then
        some (LO.again (w64 (s2.1 + 2), s2.2.1, s2.2.2))
       else
        za (geti x.1 s2.1) fun y8 =>
        bif (y8.toNat : Int) == 92 then
         za (qd (x.1, s2.1)) fun y9 =>
         need (decide (((s2.2.2.text.length + y9.1.length : Nat) : Int) ≤ 9223372036854775807)) <|
         some (LO.again (y9.2, s2.2.1, (⟨s2.2.2.kind, s2.2.2.text ++ y9.1, s2.2.2.num, s2.2.2.unit, s2.2.2.flag⟩ : zm)))
        else
         need (decide (0 ≤ s2.1) && (decide (s2.1 ≤ w64 (s2.1 + 1)) && decide (w64 (s2.1 + 1) ≤ (x.1.length : Int)))) <|
         need (decide (((s2.2.2.text.length + (List.drop s2.1.toNat (List.take (w64 (s2.1 + 1)).toNat x.1)).length : Nat) : Int) ≤ 9223372036854775807)) <|
         some (LO.again (w64 (s2.1 + 1), s2.2.1, (⟨s2.2.2.kind, s2.2.2.text ++ List.drop s2.1.toNat (List.take (w64 (s2.1 + 1)).toNat x.1), s2.2.2.num, s2.2.2.unit, s2.2.2.flag⟩ : zm)))
   else
    some (LO.out (s2.1, s2.2.1, s2.2.2)) : Int × zm × zm → Option (LO (Int × zm × zm) (Int × zm × zm) _)) (w64 (x.2 + 1), (⟨0, [], 0, [], false⟩ : zm), (⟨5, [], 0, [], false⟩ : zm)) fun o10 =>
 some (o10.2.2, o10.1)
noncomputable def zau (x : Int) : Option Bool :=
 za (Qk x) fun y1 =>
 some (bif bif bif decide (y1 ≥ 97) then decide (y1 ≤ 122) else false then true else x == 95 then true else decide (x ≥ 128))
noncomputable def zbi (x : Int) : Option Bool :=
 za (zau x) fun y1 =>
 za (zz (!y1) (Zi x) (default : Bool)) fun y2 =>
 some (bif bif y1 then true else y2 then true else x == 45)
noncomputable def ZN (x : Str × Int) : Option Bool :=
 za (Za (x.1, x.2)) fun y1 =>
 za (zz (y1 == 92) (Za (x.1, w64 (x.2 + 1))) (default : Int)) fun y2 =>
 some (bif y1 == 92 then y2 != 10 else false)
noncomputable def QQ (x : Str × Int) : Option (Str × Int) :=
 zN (fun (s1 : Int × Str) =>
   za (zz (decide (s1.1 < (x.1.length : Int))) (geti x.1 s1.1) 0) fun y2 =>
   za (zz (decide (s1.1 < (x.1.length : Int))) (zbi (y2.toNat : Int)) (default : Bool)) fun y3 =>
   bif bif decide (s1.1 < (x.1.length : Int)) then y3 else false then
    need (decide (0 ≤ s1.1) && (decide (s1.1 ≤ w64 (s1.1 + 1)) && decide (w64 (s1.1 + 1) ≤ (x.1.length : Int)))) <|
    need (decide (((s1.2.length + (List.drop s1.1.toNat (List.take (w64 (s1.1 + 1)).toNat x.1)).length : Nat) : Int) ≤ 9223372036854775807)) <|
    some (LO.again (w64 (s1.1 + 1), s1.2 ++ List.drop s1.1.toNat (List.take (w64 (s1.1 + 1)).toNat x.1)))
   else
    za (zz (decide (s1.1 < (x.1.length : Int))) (ZN (x.1, s1.1)) (default : Bool)) fun y4 =>
    bif bif decide (s1.1 < (x.1.length : Int)) then y4 else false then
     za (qd (x.1, s1.1)) fun y5 =>
     need (decide (((s1.2.length + y5.1.length : Nat) : Int) ≤ 9223372036854775807)) <|
     some (LO.again (y5.2, s1.2 ++ y5.1))
    else
     some (LO.ret (s1.2, s1.1)) : Int × Str → Option (LO (Int × Str) (Unit) _)) (x.2, []) fun o6 =>
 none
noncomputable def QF (x : Str × Int) : Option Bool :=
 za (Za (x.1, x.2)) fun y1 =>
 bif y1 == 45 then
  za (Za (x.1, w64 (x.2 + 1))) fun y2 =>
  za (zau y2) fun y3 =>
  za (zz (!y3) (Za (x.1, w64 (x.2 + 1))) (default : Int)) fun y4 =>
  za (zz (!(bif y3 then true else y4 == 45)) (ZN (x.1, w64 (x.2 + 1))) (default : Bool)) fun y5 =>
  some (bif bif y3 then true else y4 == 45 then true else y5)
 else
  za (Za (x.1, x.2)) fun y6 =>
  za (zau y6) fun y7 =>
  za (zz (!y7) (ZN (x.1, x.2)) (default : Bool)) fun y8 =>
  some (bif y7 then true else y8)
noncomputable def zbY (x : Str × Int) : Option Bool :=
 zZ (X := Int) (
   za (Za (x.1, x.2)) fun y1 =>
   bif bif y1 == 43 then true else y1 == 45 then
    some (LX.out (w64 (x.2 + 1)))
   else
    some (LX.out x.2)) fun j2 =>
 zZ (X := Int) (
   za (Za (x.1, j2)) fun y3 =>
   bif y3 == 46 then
    some (LX.out (w64 (j2 + 1)))
   else
    some (LX.out j2)) fun j4 =>
 za (Za (x.1, j4)) fun y5 =>
 za (Zi y5) fun y6 =>
 some y6
noncomputable def zbk (x : Str × Int) : Option Int :=
 zN (fun (s1 : Int) =>
   za (Za (x.1, s1)) fun y2 =>
   za (Zi y2) fun y3 =>
   bif y3 then
    some (LO.again (w64 (s1 + 1)))
   else
    some (LO.out s1) : Int → Option (LO (Int) (Int) _)) x.2 fun o4 =>
 some o4
noncomputable def zbj (x : Str × Int) : Option (Int × Bool) :=
 zZ (X := Int) (
   za (Za (x.1, x.2)) fun y1 =>
   bif bif y1 == 43 then true else y1 == 45 then
    some (LX.out (w64 (x.2 + 1)))
   else
    some (LX.out x.2)) fun j2 =>
 za (zbk (x.1, j2)) fun y3 =>
 zZ (X := Int × Bool) (
   za (Za (x.1, y3)) fun y4 =>
   za (zz (y4 == 46) (Za (x.1, w64 (y3 + 1))) (default : Int)) fun y5 =>
   za (zz (y4 == 46) (Zi y5) (default : Bool)) fun y6 =>
   bif bif y4 == 46 then y6 else false then
    za (zbk (x.1, w64 (y3 + 1))) fun y7 =>
    some (LX.out (y7, false))
   else
    some (LX.out (y3, true))) fun j8 =>
 zZ (X := Int × Bool) (
   za (Za (x.1, j8.1)) fun y9 =>
   bif bif y9 == 101 then true else y9 == 69 then
    zZ (X := Int × Bool × Int) (
      za (Za (x.1, w64 (j8.1 + 1))) fun y10 =>
      bif bif y10 == 43 then true else y10 == 45 then
       some (LX.out (j8.1, j8.2, w64 (w64 (j8.1 + 1) + 1)))
      else
       some (LX.out (j8.1, j8.2, w64 (j8.1 + 1)))) fun j11 =>
    za (Za (x.1, j11.2.2)) fun y12 =>
    za (Zi y12) fun y13 =>
    bif y13 then
     za (zbk (x.1, j11.2.2)) fun y14 =>
     some (LX.out (y14, false))
    else
     some (LX.out (j11.1, j11.2.1))
   else
    some (LX.out (j8.1, j8.2))) fun j15 =>
 some (j15.1, j15.2)
noncomputable def zab (x : Str) : Option Int :=
 za (geti x 0) fun y1 =>
 zZ (X := Str × Int × Int) (
   za (geti x 0) fun y2 =>
   bif bif (y2.toNat : Int) == 43 then true else (y1.toNat : Int) == 45 then
    some (LX.out ([], 3, 1))
   else
    some (LX.out ([], 3, 0))) fun j3 =>
 zN (fun (s4 : Str × Int) =>
   za (Za (x, s4.2)) fun y5 =>
   za (Zi y5) fun y6 =>
   bif y6 then
    need (decide (0 ≤ s4.2) && (decide (s4.2 ≤ w64 (s4.2 + 1)) && decide (w64 (s4.2 + 1) ≤ (x.length : Int)))) <|
    need (decide (((s4.1.length + (List.drop s4.2.toNat (List.take (w64 (s4.2 + 1)).toNat x)).length : Nat) : Int) ≤ 9223372036854775807)) <|
    some (LO.again (s4.1 ++ List.drop s4.2.toNat (List.take (w64 (s4.2 + 1)).toNat x), w64 (s4.2 + 1)))
   else
    some (LO.out (s4.1, s4.2)) : Str × Int → Option (LO (Str × Int) (Str × Int) _)) (j3.1, j3.2.2) fun o7 =>
 zZ (X := Str × Int × Int) (
   za (Za (x, o7.2)) fun y8 =>
   bif y8 == 46 then
    zN (fun (s9 : Str × Int × Int) =>
      za (Za (x, s9.2.2)) fun y10 =>
      za (Zi y10) fun y11 =>
      bif y11 then
       need (decide (0 ≤ s9.2.2) && (decide (s9.2.2 ≤ w64 (s9.2.2 + 1)) && decide (w64 (s9.2.2 + 1) ≤ (x.length : Int)))) <|
       need (decide (((s9.1.length + (List.drop s9.2.2.toNat (List.take (w64 (s9.2.2 + 1)).toNat x)).length : Nat) : Int) ≤ 9223372036854775807)) <|
       some (LO.again (s9.1 ++ List.drop s9.2.2.toNat (List.take (w64 (s9.2.2 + 1)).toNat x), w64 (s9.2.1 - 1), w64 (s9.2.2 + 1)))
      else
       some (LO.out (s9.1, s9.2.1, s9.2.2)) : Str × Int × Int → Option (LO (Str × Int × Int) (Str × Int × Int) _)) (o7.1, j3.2.1, w64 (o7.2 + 1)) fun o12 =>
    some (LX.out (o12.1, o12.2.1, o12.2.2))
   else
    some (LX.out (o7.1, j3.2.1, o7.2))) fun j13 =>
 zZ (X := Int) (
   bif decide (j13.2.2 < (x.length : Int)) then
    za (geti x (w64 (j13.2.2 + 1))) fun y14 =>
    zZ (X := Int × Int) (
      za (geti x (w64 (j13.2.2 + 1))) fun y15 =>
      bif bif (y15.toNat : Int) == 43 then true else (y14.toNat : Int) == 45 then
       some (LX.out (j13.2.1, w64 (w64 (j13.2.2 + 1) + 1)))
      else
       some (LX.out (j13.2.1, w64 (j13.2.2 + 1)))) fun j16 =>
    zN (fun (s17 : Int × Int) =>
      bif decide (s17.1 < (x.length : Int)) then
       za (geti x s17.1) fun y18 =>
       some (LO.again (w64 (s17.1 + 1), if w64 (w64 (10 * s17.2) + w64 (wu8 ((y18.toNat : Int) - 48))) < 10000 then w64 (w64 (10 * s17.2) + w64 (wu8 ((y18.toNat : Int) - 48))) else 10000))
      else
       some (LO.out s17.2) : Int × Int → Option (LO (Int × Int) (Int) _)) (j16.2, 0) fun o19 =>
    zZ (X := Int × Int) (
      bif (y14.toNat : Int) == 45 then
       some (LX.out (j16.1, w64 (0 - o19)))
      else
       some (LX.out (j16.1, o19))) fun j20 =>
    some (LX.out (w64 (j20.1 + j20.2)))
   else
    some (LX.out j13.2.1)) fun j21 =>
 zN (fun (s22 : Int × Int) =>
   bif bif decide (s22.2 < w64 ((j13.1.length : Int) + j21)) then decide (s22.2 < (j13.1.length : Int)) else false then
    za (geti j13.1 s22.2) fun y23 =>
    some (LO.again (if w64 (w64 (10 * s22.1) + w64 (wu8 ((y23.toNat : Int) - 48))) < 1000000000000 then w64 (w64 (10 * s22.1) + w64 (wu8 ((y23.toNat : Int) - 48))) else 1000000000000, w64 (s22.2 + 1)))
   else
    some (LO.out s22.1) : Int × Int → Option (LO (Int × Int) (Int) _)) (0, 0) fun o24 =>
 zN (fun (s25 : Int × Int) =>
   bif bif bif decide (s25.1 > 0) then decide (s25.2 > 0) else false then decide (s25.2 < 1000000000000) else false then
    some (LO.again (w64 (s25.1 - 1), if w64 (10 * s25.2) < 1000000000000 then w64 (10 * s25.2) else 1000000000000))
   else
    some (LO.out s25.2) : Int × Int → Option (LO (Int × Int) (Int) _)) (j21, o24) fun o26 =>
 bif (y1.toNat : Int) == 45 then
  some (w64 (0 - o26))
 else
  some o26
noncomputable def zc0 (x : Str × Int) : Option (zm × Int) :=
 za (zbj (x.1, x.2)) fun y1 =>
 need (decide (0 ≤ x.2) && (decide (x.2 ≤ y1.1) && decide (y1.1 ≤ (x.1.length : Int)))) <|
 za (zab (List.drop x.2.toNat (List.take y1.1.toNat x.1))) fun y2 =>
 zZ (X := Int × zm × zm) (
   za (QF (x.1, y1.1)) fun y3 =>
   bif y3 then
    za (QQ (x.1, y1.1)) fun y4 =>
    some (LX.out (y4.2, (⟨0, [], 0, [], false⟩ : zm), (⟨12, [], y2, y4.1, y1.2⟩ : zm)))
   else
    za (Za (x.1, y1.1)) fun y5 =>
    bif y5 == 37 then
     some (LX.out (w64 (y1.1 + 1), (⟨0, [], 0, [], false⟩ : zm), (⟨11, [], y2, [], false⟩ : zm)))
    else
     some (LX.out (y1.1, (⟨0, [], 0, [], false⟩ : zm), (⟨10, [], y2, [], y1.2⟩ : zm)))) fun j6 =>
 some (j6.2.2, j6.1)
noncomputable def zg6 (x : Str × Int × Str) : Option Bool :=
 need (decide (0 ≤ x.2.1) && (decide (x.2.1 ≤ w64 (x.2.1 + (x.2.2.length : Int))) && decide (w64 (x.2.1 + (x.2.2.length : Int)) ≤ (x.1.length : Int))) || !(decide (w64 ((x.1.length : Int) - x.2.1) ≥ (x.2.2.length : Int)))) <|
 some (bif decide (w64 ((x.1.length : Int) - x.2.1) ≥ (x.2.2.length : Int)) then List.drop x.2.1.toNat (List.take (w64 (x.2.1 + (x.2.2.length : Int))).toNat x.1) == x.2.2 else false)
noncomputable def Qj (x : Str × Str) : Option Bool :=
 za (ZZ x.1) fun y1 =>
 za (ZZ x.2) fun y2 =>
 some (y1 == y2)
noncomputable def zg5 (x : Str × Int) : Option (zm × Int) :=
 zN (fun (s1 : Int) =>
   za (zz (decide (s1 < (x.1.length : Int))) (geti x.1 s1) 0) fun y2 =>
   bif bif decide (s1 < (x.1.length : Int)) then (y2.toNat : Int) != 41 else false then
    za (ZN (x.1, s1)) fun y3 =>
    bif y3 then
     za (qd (x.1, s1)) fun y4 =>
     some (LO.again y4.2)
    else
     some (LO.again (w64 (s1 + 1)))
   else
    some (LO.out s1) : Int → Option (LO (Int) (Int) _)) x.2 fun o5 =>
 some ((⟨8, [], 0, [], false⟩ : zm), if w64 (o5 + 1) < (x.1.length : Int) then w64 (o5 + 1) else (x.1.length : Int))
noncomputable def zac (x : Int) : Option Bool :=
 some (bif bif bif decide (x ≤ 8) then true else x == 11 then true else bif decide (x ≥ 14) then decide (x ≤ 31) else false then true else x == 127)
noncomputable def ziW (x : Str × Int) : Option (zm × Int) :=
 za (Qa (x.1, x.2)) fun y1 =>
 zN (fun (s2 : Int × zm × zm) =>
   za (zz (decide (s2.1 < (x.1.length : Int))) (geti x.1 s2.1) 0) fun y3 =>
   bif bif decide (s2.1 < (x.1.length : Int)) then (y3.toNat : Int) != 41 else false then
    za (geti x.1 s2.1) fun y4 =>
    za (Ql (y4.toNat : Int)) fun y5 =>
    bif y5 then
     za (Qa (x.1, s2.1)) fun y6 =>
     za (zz (decide (y6 < (x.1.length : Int))) (geti x.1 y6) 0) fun y7 =>
     bif bif decide (y6 < (x.1.length : Int)) then (y7.toNat : Int) != 41 else false then
      za (zg5 (x.1, y6)) fun y8 =>
      some (LO.ret (y8.1, y8.2))
     else
      some (LO.again (y6, s2.2.1, s2.2.2))
    else
     za (zz (!(bif bif (y4.toNat : Int) == 34 then true else (y4.toNat : Int) == 39 then true else (y4.toNat : Int) == 40)) (zac (y4.toNat : Int)) (default : Bool)) fun y9 =>
     za (zz ((y4.toNat : Int) == 92 && !(bif bif bif (y4.toNat : Int) == 34 then true else (y4.toNat : Int) == 39 then true else (y4.toNat : Int) == 40 then true else y9)) (ZN (x.1, s2.1)) (default : Bool)) fun y10 =>
     bif bif bif bif bif (y4.toNat : Int) == 34 then true else (y4.toNat : Int) == 39 then true else (y4.toNat : Int) == 40 then true else y9 then true else bif (y4.toNat : Int) == 92 then !y10 else false then
      za (zg5 (x.1, s2.1)) fun y11 =>
      some (LO.ret (y11.1, y11.2))
     else
      bif (y4.toNat : Int) == 92 then
       za (qd (x.1, s2.1)) fun y12 =>
       need (decide (((s2.2.2.text.length + y12.1.length : Nat) : Int) ≤ 9223372036854775807)) <|
       some (LO.again (y12.2, s2.2.1, (⟨s2.2.2.kind, s2.2.2.text ++ y12.1, s2.2.2.num, s2.2.2.unit, s2.2.2.flag⟩ : zm)))
      else
       need (decide (0 ≤ s2.1) && (decide (s2.1 ≤ w64 (s2.1 + 1)) && decide (w64 (s2.1 + 1) ≤ (x.1.length : Int)))) <|
       need (decide (((s2.2.2.text.length + (List.drop s2.1.toNat (List.take (w64 (s2.1 + 1)).toNat x.1)).length : Nat) : Int) ≤ 9223372036854775807)) <|
       some (LO.again (w64 (s2.1 + 1), s2.2.1, (⟨s2.2.2.kind, s2.2.2.text ++ List.drop s2.1.toNat (List.take (w64 (s2.1 + 1)).toNat x.1), s2.2.2.num, s2.2.2.unit, s2.2.2.flag⟩ : zm)))
   else
    some (LO.out (s2.1, s2.2.1, s2.2.2)) : Int × zm × zm → Option (LO (Int × zm × zm) (Int × zm × zm) _)) (y1, (⟨0, [], 0, [], false⟩ : zm), (⟨7, [], 0, [], false⟩ : zm)) fun o13 =>
 some (o13.2.2, if w64 (o13.1 + 1) < (x.1.length : Int) then w64 (o13.1 + 1) else (x.1.length : Int))
noncomputable def zg7 (x : Str × Int) : Option (zm × Int) :=
 za (QQ (x.1, x.2)) fun y1 =>
 za (Za (x.1, y1.2)) fun y2 =>
 bif y2 != 40 then
  some ((⟨1, y1.1, 0, [], false⟩ : zm), y1.2)
 else
  zZ (X := zm) (
    za (Qj (y1.1, [117, 114, 108])) fun y3 =>
    bif y3 then
     za (Qa (x.1, w64 (y1.2 + 1))) fun y4 =>
     za (Za (x.1, y4)) fun y5 =>
     bif bif y5 != 34 then y5 != 39 else false then
      za (ziW (x.1, w64 (y1.2 + 1))) fun y6 =>
      some (LX.ret (y6.1, y6.2))
     else
      some (LX.out (⟨0, [], 0, [], false⟩ : zm))
    else
     some (LX.out (⟨0, [], 0, [], false⟩ : zm))) fun j7 =>
  some ((⟨2, y1.1, 0, [], false⟩ : zm), w64 (y1.2 + 1))
noncomputable def ze2 (x : Int) : Option Int :=
 bif x == 58 then
  some 16
 else
  bif x == 59 then
   some 17
  else
   bif x == 44 then
    some 18
   else
    bif x == 91 then
     some 19
    else
     bif x == 93 then
      some 20
     else
      bif x == 40 then
       some 21
      else
       bif x == 41 then
        some 22
       else
        bif x == 123 then
         some 23
        else
         bif x == 125 then
          some 24
         else
          some 0
noncomputable def ziU (x : Str × Int) : Option (zm × Int) :=
 za (geti x.1 x.2) fun y1 =>
 za (Ql (y1.toNat : Int)) fun y2 =>
 bif y2 then
  za (Qa (x.1, x.2)) fun y3 =>
  some ((⟨13, [], 0, [], false⟩ : zm), y3)
 else
  bif bif (y1.toNat : Int) == 34 then true else (y1.toNat : Int) == 39 then
   za (zed (x.1, x.2)) fun y4 =>
   some (y4.1, y4.2)
  else
   za (zz (decide (w64 (x.2 + 1) < (x.1.length : Int)) && (y1.toNat : Int) == 35) (geti x.1 (w64 (x.2 + 1))) 0) fun y5 =>
   za (zz (decide (w64 (x.2 + 1) < (x.1.length : Int)) && (y1.toNat : Int) == 35) (zbi (y5.toNat : Int)) (default : Bool)) fun y6 =>
   za (zz (!(bif decide (w64 (x.2 + 1) < (x.1.length : Int)) then y6 else false) && (y1.toNat : Int) == 35) (ZN (x.1, w64 (x.2 + 1))) (default : Bool)) fun y7 =>
   bif bif (y1.toNat : Int) == 35 then bif bif decide (w64 (x.2 + 1) < (x.1.length : Int)) then y6 else false then true else y7 else false then
    za (QQ (x.1, w64 (x.2 + 1))) fun y8 =>
    za (QF (x.1, w64 (x.2 + 1))) fun y9 =>
    some ((⟨4, y8.1, 0, [], y9⟩ : zm), y8.2)
   else
    za (zbY (x.1, x.2)) fun y10 =>
    bif y10 then
     za (zc0 (x.1, x.2)) fun y11 =>
     some (y11.1, y11.2)
    else
     za (zg6 (x.1, x.2, [45, 45, 62])) fun y12 =>
     bif y12 then
      some ((⟨15, [], 0, [], false⟩ : zm), w64 (x.2 + 3))
     else
      za (zg6 (x.1, x.2, [60, 33, 45, 45])) fun y13 =>
      bif y13 then
       some ((⟨14, [], 0, [], false⟩ : zm), w64 (x.2 + 4))
      else
       za (zz ((y1.toNat : Int) == 64) (QF (x.1, w64 (x.2 + 1))) (default : Bool)) fun y14 =>
       bif bif (y1.toNat : Int) == 64 then y14 else false then
        za (QQ (x.1, w64 (x.2 + 1))) fun y15 =>
        some ((⟨3, y15.1, 0, [], false⟩ : zm), y15.2)
       else
        za (QF (x.1, x.2)) fun y16 =>
        bif y16 then
         za (zg7 (x.1, x.2)) fun y17 =>
         some (y17.1, y17.2)
        else
         za (ze2 (y1.toNat : Int)) fun y18 =>
         bif y18 != 0 then
          za (ze2 (y1.toNat : Int)) fun y19 =>
          some ((⟨y19, [], 0, [], false⟩ : zm), w64 (x.2 + 1))
         else
          need (decide (0 ≤ x.2) && (decide (x.2 ≤ w64 (x.2 + 1)) && decide (w64 (x.2 + 1) ≤ (x.1.length : Int)))) <|
          some ((⟨9, List.drop x.2.toNat (List.take (w64 (x.2 + 1)).toNat x.1), 0, [], false⟩ : zm), w64 (x.2 + 1))
noncomputable def Qm (x : Int) : Option Bool :=
 za (zbM x) fun y1 =>
 za (ziU ([y1, (10 : UInt8)], 0)) fun y2 =>
 some (bif bif bif bif decide (x ≥ 1) then decide (x ≤ 127) else false then x != 12 else false then x != 13 else false then y2.1.kind == 9 else false)
noncomputable def zg9 (x : zm) : Option Bool :=
 zZ (X := Bool × zm) (
   bif x.kind == 1 then
    some (LX.out (x.kind == 1, x))
   else
    bif x.kind == 2 then
     some (LX.out (x.kind == 2, x))
    else
     some (LX.out (x.kind == 3, x))) fun j1 =>
 bif j1.1 then
  za (zz (!(x.text == [])) (zbl x.text) (default : Bool)) fun y2 =>
  some (bif bif !(x.text == []) then y2 else false then j1.2.kind == x.kind && (([] : Str) == [] && (j1.2.num == 0 && (j1.2.unit == [] && (j1.2.flag == false && true)))) else false)
 else
  bif x.kind == 4 then
   za (zz (!(x.text == [])) (zbl x.text) (default : Bool)) fun y3 =>
   za (zz (!x.flag && (bif !(x.text == []) then y3 else false)) (zg8 x.text) (default : Bool)) fun y4 =>
   some (bif bif bif !(x.text == []) then y3 else false then bif x.flag then true else y4 else false then j1.2.kind == x.kind && (([] : Str) == [] && (j1.2.num == 0 && (j1.2.unit == [] && (false == false && true)))) else false)
  else
   zZ (X := Bool × zm) (
     bif x.kind == 5 then
      some (LX.out (x.kind == 5, j1.2))
     else
      some (LX.out (x.kind == 7, j1.2))) fun j5 =>
   bif j5.1 then
    za (zbl x.text) fun y6 =>
    some (bif y6 then j5.2.kind == x.kind && (([] : Str) == [] && (j5.2.num == 0 && (j5.2.unit == [] && (j5.2.flag == false && true)))) else false)
   else
    bif x.kind == 9 then
     za (zz ((x.text.length : Int) == 1) (geti x.text 0) 0) fun y7 =>
     za (zz ((x.text.length : Int) == 1) (Qm (y7.toNat : Int)) (default : Bool)) fun y8 =>
     some (bif bif (x.text.length : Int) == 1 then y8 else false then j5.2.kind == x.kind && (([] : Str) == [] && (j5.2.num == 0 && (j5.2.unit == [] && (j5.2.flag == false && true)))) else false)
    else
     zZ (X := Bool × zm) (
       bif x.kind == 10 then
        some (LX.out (x.kind == 10, j5.2))
       else
        bif x.kind == 11 then
         some (LX.out (x.kind == 11, j5.2))
        else
         some (LX.out (x.kind == 12, j5.2))) fun j9 =>
     bif j9.1 then
      za (zz ((!(x.unit == [])) == (x.kind == 12)) (zbl x.unit) (default : Bool)) fun y10 =>
      some (bif bif bif bif bif decide (x.num ≥ (-1000000000000)) then decide (x.num ≤ 1000000000000) else false then bif !x.flag then true else Int.tmod x.num 1000 == 0 else false then bif (!(x.unit == [])) == (x.kind == 12) then y10 else false else false then bif x.kind != 11 then true else !x.flag else false then j9.2.kind == x.kind && (j9.2.text == [] && (0 == 0 && (([] : Str) == [] && (false == false && true)))) else false)
     else
      zZ (X := Bool) (
        bif x.kind == 6 then
         some (LX.out (x.kind == 6))
        else
         some (LX.out (x.kind == 8))) fun j11 =>
      bif j11 then
       some false
      else
       some (bif bif decide (x.kind ≥ 1) then decide (x.kind ≤ 24) else false then x.kind == x.kind && (x.text == [] && (x.num == 0 && (x.unit == [] && (x.flag == false && true)))) else false)
noncomputable def zdv (x : List zm) : Option Int :=
 bif decide ((x.length : Int) > 1500) then
  some 4
 else
  zN (fun (s1 : Int) =>
    bif decide (s1 < (x.length : Int)) then
     za (geti x s1) fun y2 =>
     za (zg9 y2) fun y3 =>
     bif !y3 then
      some (LO.ret 8)
     else
      zZ (X := Unit) (
        za (geti x s1) fun y4 =>
        za (zz (y4.kind == 2) (geti x s1) (default : zm)) fun y5 =>
        za (zz (y4.kind == 2) (Qj (y5.text, [117, 114, 108])) (default : Bool)) fun y6 =>
        bif bif y4.kind == 2 then y6 else false then
         zZ (X := Int) (
           za (zz (decide (w64 (s1 + 1) < (x.length : Int))) (geti x (w64 (s1 + 1))) (default : zm)) fun y7 =>
           bif bif decide (w64 (s1 + 1) < (x.length : Int)) then y7.kind == 13 else false then
            some (LX.out (w64 (w64 (s1 + 1) + 1)))
           else
            some (LX.out (w64 (s1 + 1)))) fun j8 =>
         za (zz (!(decide (j8 ≥ (x.length : Int)))) (geti x j8) (default : zm)) fun y9 =>
         bif bif decide (j8 ≥ (x.length : Int)) then true else y9.kind != 5 then
          some (LX.ret (LO.ret 8))
         else
          some (LX.out ())
        else
         some (LX.out ())) fun j10 =>
      za (geti x s1) fun y11 =>
      za (zz (y11.kind == 9) (geti x s1) (default : zm)) fun y12 =>
      za (zz (!(w64 (s1 + 1) == (x.length : Int)) && (bif y11.kind == 9 then y12.text == [92] else false)) (geti x (w64 (s1 + 1))) (default : zm)) fun y13 =>
      bif bif bif y11.kind == 9 then y12.text == [92] else false then bif w64 (s1 + 1) == (x.length : Int) then true else y13.kind != 13 else false then
       some (LO.ret 8)
      else
       some (LO.again (w64 (s1 + 1)))
    else
     some (LO.out ()) : Int → Option (LO (Int) (Unit) _)) 0 fun o14 =>
  some 0
noncomputable def zc2 (qz : List zf → Option Bool) (x : List zf) : Option Bool :=
 zN (fun (s1 : Int) =>
   bif decide (s1 < (x.length : Int)) then
    za (geti x s1) fun y2 =>
    za (zz (!(bif bif y2.token.kind == 20 then true else y2.token.kind == 22 then true else y2.token.kind == 24)) (geti x s1) (default : zf)) fun y3 =>
    za (zz (!(bif bif y2.token.kind == 20 then true else y2.token.kind == 22 then true else y2.token.kind == 24)) (qz y3.list) (default : Bool)) fun y4 =>
    bif bif bif bif y2.token.kind == 20 then true else y2.token.kind == 22 then true else y2.token.kind == 24 then true else y4 then
     some (LO.ret true)
    else
     some (LO.again (w64 (s1 + 1)))
   else
    some (LO.out ()) : Int → Option (LO (Int) (Unit) _)) 0 fun o5 =>
 some false
noncomputable def qz : List zf → Option Bool := recE (zc2)
noncomputable def zc1 (x : List zf) : Option (List zf) :=
 zN (fun (s1 : List zf) =>
   za (zz (decide ((s1.length : Int) > 0)) (geti s1 0) (default : zf)) fun y2 =>
   bif bif decide ((s1.length : Int) > 0) then y2.token.kind == 13 else false then
    need (decide (1 ≤ (s1.length : Int))) <|
    some (LO.again (List.drop 1 s1))
   else
    some (LO.out s1) : List zf → Option (LO (List zf) (List zf) _)) x fun o3 =>
 zN (fun (s4 : List zf) =>
   za (zz (decide ((s4.length : Int) > 0)) (geti s4 (w64 ((s4.length : Int) - 1))) (default : zf)) fun y5 =>
   bif bif decide ((s4.length : Int) > 0) then y5.token.kind == 13 else false then
    need (decide (0 ≤ w64 ((s4.length : Int) - 1)) && decide (w64 ((s4.length : Int) - 1) ≤ (s4.length : Int))) <|
    some (LO.again (List.take (w64 ((s4.length : Int) - 1)).toNat s4))
   else
    some (LO.out s4) : List zf → Option (LO (List zf) (List zf) _)) o3 fun o6 =>
 some o6
noncomputable def zef (x : Str) : Option Bool :=
 need (decide (2 ≤ (x.length : Int)) || !(decide ((x.length : Int) > 2))) <|
 some (bif decide ((x.length : Int) > 2) then List.take 2 x == [45, 45] else false)
noncomputable def zeg (x : Str × List zf) : Option Bool :=
 za (zfB x.2) fun y1 =>
 za (zz (!(y1 != 0)) (qi x.2) (default : List zm)) fun y2 =>
 za (zz (!(y1 != 0)) (zdv y2) (default : Int)) fun y3 =>
 za (zz (!(bif y1 != 0 then true else y3 != 0)) (qz x.2) (default : Bool)) fun y4 =>
 bif bif bif y1 != 0 then true else y3 != 0 then true else y4 then
  some false
 else
  za (zc1 x.2) fun y5 =>
  za (zz ((x.2.length : Int) == 0 && !((y5.length : Int) != (x.2.length : Int))) (zef x.1) (default : Bool)) fun y6 =>
  bif bif (y5.length : Int) != (x.2.length : Int) then true else bif (x.2.length : Int) == 0 then !y6 else false then
   some false
  else
   zN (fun (s7 : Int) =>
     bif decide (s7 < (x.2.length : Int)) then
      za (geti x.2 s7) fun y8 =>
      bif bif y8.token.kind == 17 then true else bif y8.token.kind == 9 then y8.token.text == [33] else false then
       some (LO.ret false)
      else
       some (LO.again (w64 (s7 + 1)))
     else
      some (LO.out ()) : Int → Option (LO (Int) (Unit) _)) 0 fun o9 =>
   some true
noncomputable def zbm (x : Zh) : Option Int :=
 za (zfC x.name) fun y1 =>
 za (zz (!(!y1)) (zeg (x.name, x.value)) (default : Bool)) fun y2 =>
 bif bif !y1 then true else !y2 then
  some 8
 else
  some 0
noncomputable def zbp (x : Zh) : Option Bool :=
 some (bif bif x.name == [] then (x.value.length : Int) == 0 else false then !x.important else false)
noncomputable def Z4 (x : zk) : Option Bool :=
 za (zz (bif x.name == [] then x.num == 0 else false) (zbp x.decl) (default : Bool)) fun y1 =>
 some (bif bif x.name == [] then x.num == 0 else false then y1 else false)
noncomputable def zcz (x : Str) : Option Bool :=
 za (zz (!(bif x == [] then true else decide ((x.length : Int) > 64))) (ZZ x) (default : Str)) fun y1 =>
 bif bif bif bif bif bif bif x == [] then true else decide ((x.length : Int) > 64) then true else !(x == y1) then true else x == [97, 110, 100] then true else x == [111, 114] then true else x == [110, 111, 116] then true else x == [111, 110, 108, 121] then
  some false
 else
  zN (fun (s2 : Int) =>
    bif decide (s2 < (x.length : Int)) then
     za (geti x s2) fun y3 =>
     bif (y3.toNat : Int) == 0 then
      some (LO.ret false)
     else
      some (LO.again (w64 (s2 + 1)))
    else
     some (LO.out ()) : Int → Option (LO (Int) (Unit) _)) 0 fun o4 =>
  some true
noncomputable def zjj (x : Int) : Option Bool :=
 some (bif decide (x ≥ (-1000000000000)) then decide (x ≤ 1000000000000) else false)
noncomputable def zhb (x : zk) : Option (Bool × Bool) :=
 za (zz (!(x.kind != 1)) (Z4 (⟨x.kind, x.name, x.num, x.decl, x.list⟩ : zk)) (default : Bool)) fun y1 =>
 bif bif bif x.kind != 1 then true else !y1 then true else (x.list.length : Int) == 0 then
  some (false, false)
 else
  zN (fun (s2 : Int) =>
    bif decide (s2 < (x.list.length : Int)) then
     zZ (X := Int) (
       za (geti x.list s2) fun y3 =>
       za (zz (!(decide ((y3.list.length : Int) > 0))) (zbp y3.decl) (default : Bool)) fun y4 =>
       bif bif decide ((y3.list.length : Int) > 0) then true else !y4 then
        some (LX.ret (LO.ret (false, false)))
       else
        za (zz (bif bif s2 == 0 then y3.kind == 4 else false then y3.num == 0 else false) (zcz y3.name) (default : Bool)) fun y5 =>
        bif bif bif bif s2 == 0 then y3.kind == 4 else false then y3.num == 0 else false then y5 else false then
         some (LX.out s2)
        else
         za (zz (!(bif bif bif y3.kind != 5 then y3.kind != 6 else false then true else !(y3.name == []) then true else decide (y3.num < 0))) (zjj y3.num) (default : Bool)) fun y6 =>
         bif bif bif bif bif y3.kind != 5 then y3.kind != 6 else false then true else !(y3.name == []) then true else decide (y3.num < 0) then true else !y6 then
          some (LX.ret (LO.ret (false, false)))
         else
          some (LX.out s2)) fun j7 =>
     some (LO.again (w64 (j7 + 1)))
    else
     some (LO.out ()) : Int → Option (LO (Int) (Unit) _)) 0 fun o8 =>
  za (geti x.list 0) fun y9 =>
  some (true, y9.kind == 4)
noncomputable def zdw (x : zk) : Option Bool :=
 bif x.kind == 3 then
  za (Z4 (⟨x.kind, x.name, x.num, x.decl, x.list⟩ : zk)) fun y1 =>
  bif bif !y1 then true else (x.list.length : Int) != 1 then
   some false
  else
   za (geti x.list 0) fun y2 =>
   za (zhb (⟨y2.kind, y2.name, y2.num, y2.decl, y2.list⟩ : zk)) fun y3 =>
   some (bif y3.1 then y3.2 else false)
 else
  za (zhb (⟨x.kind, x.name, x.num, x.decl, x.list⟩ : zk)) fun y4 =>
  some y4.1
noncomputable def zeh (x : zk) : Option Bool :=
 za (Z4 (⟨x.kind, x.name, x.num, x.decl, x.list⟩ : zk)) fun y1 =>
 bif !y1 then
  some false
 else
  bif x.kind == 1 then
   some ((x.list.length : Int) == 0)
  else
   bif bif bif x.kind != 2 then true else decide ((x.list.length : Int) < 1) then true else decide ((x.list.length : Int) > 64) then
    some false
   else
    zN (fun (s2 : Int) =>
      bif decide (s2 < (x.list.length : Int)) then
       za (geti x.list s2) fun y3 =>
       za (zdw (⟨y3.kind, y3.name, y3.num, y3.decl, y3.list⟩ : zk)) fun y4 =>
       bif !y4 then
        some (LO.ret false)
       else
        some (LO.again (w64 (s2 + 1)))
      else
       some (LO.out ()) : Int → Option (LO (Int) (Unit) _)) 0 fun o5 =>
    some true
noncomputable def zf7 (Qw : zk → Option Int) (x : zk) : Option Int :=
 bif x.kind == 7 then
  za (ZP x.decl.value) fun y1 =>
  some (w64 (1 + y1))
 else
  bif x.kind == 8 then
   some 1
  else
   zN (fun (s2 : Int × Int) =>
     bif decide (s2.2 < (x.list.length : Int)) then
      za (geti x.list s2.2) fun y3 =>
      zZ (X := Int × Int) (
        bif bif y3.kind == 7 then true else y3.kind == 8 then
         some (LX.out (s2.1, 0))
        else
         some (LX.out (s2.1, 1))) fun j4 =>
      za (geti x.list s2.2) fun y5 =>
      za (Qw (⟨y5.kind, y5.name, y5.num, y5.decl, y5.list⟩ : zk)) fun y6 =>
      some (LO.again (if w64 (j4.2 + y6) > j4.1 then w64 (j4.2 + y6) else j4.1, w64 (s2.2 + 1)))
     else
      some (LO.out s2.1) : Int × Int → Option (LO (Int × Int) (Int) _)) (0, 0) fun o7 =>
   some o7
noncomputable def Qw : zk → Option Int := recE (zf7)
noncomputable def zbz (ZB : zk → Option Bool) (x : zk) : Option Bool :=
 bif x.kind == 7 then
  za (zz (bif bif x.name == [] then x.num == 0 else false then (x.list.length : Int) == 0 else false) (zbm x.decl) (default : Int)) fun y1 =>
  some (bif bif bif x.name == [] then x.num == 0 else false then (x.list.length : Int) == 0 else false then y1 == 0 else false)
 else
  bif x.kind == 8 then
   za (Z4 (⟨x.kind, x.name, x.num, x.decl, x.list⟩ : zk)) fun y2 =>
   some (bif y2 then (x.list.length : Int) == 0 else false)
  else
   bif x.kind == 3 then
    za (Z4 (⟨x.kind, x.name, x.num, x.decl, x.list⟩ : zk)) fun y3 =>
    za (zz (bif y3 then (x.list.length : Int) == 1 else false) (geti x.list 0) (default : zk)) fun y4 =>
    za (zz (bif y3 then (x.list.length : Int) == 1 else false) (ZB (⟨y4.kind, y4.name, y4.num, y4.decl, y4.list⟩ : zk)) (default : Bool)) fun y5 =>
    some (bif bif y3 then (x.list.length : Int) == 1 else false then y5 else false)
   else
    zZ (X := Bool) (
      bif x.kind == 1 then
       some (LX.out (x.kind == 1))
      else
       some (LX.out (x.kind == 2))) fun j6 =>
    bif j6 then
     za (Z4 (⟨x.kind, x.name, x.num, x.decl, x.list⟩ : zk)) fun y7 =>
     bif bif !y7 then true else decide ((x.list.length : Int) < 2) then
      some false
     else
      zN (fun (s8 : Int) =>
        bif decide (s8 < (x.list.length : Int)) then
         za (geti x.list s8) fun y9 =>
         za (ZB (⟨y9.kind, y9.name, y9.num, y9.decl, y9.list⟩ : zk)) fun y10 =>
         bif !y10 then
          some (LO.ret false)
         else
          some (LO.again (w64 (s8 + 1)))
        else
         some (LO.out ()) : Int → Option (LO (Int) (Unit) _)) 0 fun o11 =>
      some true
    else
     some false
noncomputable def ZB : zk → Option Bool := recE (zbz)
noncomputable def zaO (x : zk) : Option Bool :=
 za (qg ((⟨x.kind, x.name, x.num, x.decl, x.list⟩ : zk), 1500)) fun y1 =>
 za (zz (decide (y1 ≤ 1500)) (Qw (⟨x.kind, x.name, x.num, x.decl, x.list⟩ : zk)) (default : Int)) fun y2 =>
 za (zz (bif decide (y1 ≤ 1500) then decide (y2 ≤ 16) else false) (ZB (⟨x.kind, x.name, x.num, x.decl, x.list⟩ : zk)) (default : Bool)) fun y3 =>
 some (bif bif decide (y1 ≤ 1500) then decide (y2 ≤ 16) else false then y3 else false)
noncomputable def zbr (x : List Str) : Option Bool :=
 bif bif decide ((x.length : Int) < 1) then true else decide ((x.length : Int) > 16) then
  some false
 else
  zN (fun (s1 : Int) =>
    bif decide (s1 < (x.length : Int)) then
     za (geti x s1) fun y2 =>
     za (QS y2) fun y3 =>
     bif !y3 then
      some (LO.ret false)
     else
      some (LO.again (w64 (s1 + 1)))
    else
     some (LO.out ()) : Int → Option (LO (Int) (Unit) _)) 0 fun o4 =>
  some true
noncomputable def zdR (Qd : zu → Option Bool) (x : zu) : Option Bool :=
 zZ (X := Unit) (
   bif x.kind == 1 then
    za (zfE x.selectors) fun y1 =>
    za (zz (!(bif y1 != 0 then true else decide ((x.decls.length : Int) > 32))) (zdy (⟨x.cond.kind, x.cond.name, x.cond.num, x.cond.decl, x.cond.list⟩ : zk)) (default : Bool)) fun y2 =>
    bif bif bif bif bif y1 != 0 then true else decide ((x.decls.length : Int) > 32) then true else !y2 then true else decide ((x.names.length : Int) > 0) then true else decide ((x.rules.length : Int) > 0) then
     some (LX.ret false)
    else
     zN (fun (s3 : Int) =>
       bif decide (s3 < (x.decls.length : Int)) then
        za (geti x.decls s3) fun y4 =>
        za (zbm y4) fun y5 =>
        bif y5 != 0 then
         some (LO.ret (LX.ret false))
        else
         some (LO.again (w64 (s3 + 1)))
       else
        some (LO.out ()) : Int → Option (LO (Int) (Unit) _)) 0 fun o6 =>
     some (LX.ret true)
   else
    bif x.kind == 2 then
     za (zz (!(bif !(bif (x.selectors.length : Int) == 0 then (x.decls.length : Int) == 0 else false) then true else decide ((x.names.length : Int) > 0))) (zeh (⟨x.cond.kind, x.cond.name, x.cond.num, x.cond.decl, x.cond.list⟩ : zk)) (default : Bool)) fun y7 =>
     bif bif bif !(bif (x.selectors.length : Int) == 0 then (x.decls.length : Int) == 0 else false) then true else decide ((x.names.length : Int) > 0) then true else !y7 then
      some (LX.ret false)
     else
      some (LX.out ())
    else
     bif x.kind == 3 then
      za (zz (!(bif !(bif (x.selectors.length : Int) == 0 then (x.decls.length : Int) == 0 else false) then true else decide ((x.names.length : Int) > 0))) (zaO (⟨x.cond.kind, x.cond.name, x.cond.num, x.cond.decl, x.cond.list⟩ : zk)) (default : Bool)) fun y8 =>
      bif bif bif !(bif (x.selectors.length : Int) == 0 then (x.decls.length : Int) == 0 else false) then true else decide ((x.names.length : Int) > 0) then true else !y8 then
       some (LX.ret false)
      else
       some (LX.out ())
     else
      bif x.kind == 4 then
       za (zz (!(!(bif (x.selectors.length : Int) == 0 then (x.decls.length : Int) == 0 else false))) (zdy (⟨x.cond.kind, x.cond.name, x.cond.num, x.cond.decl, x.cond.list⟩ : zk)) (default : Bool)) fun y9 =>
       bif bif bif !(bif (x.selectors.length : Int) == 0 then (x.decls.length : Int) == 0 else false) then true else !y9 then true else decide ((x.names.length : Int) > 1) then
        some (LX.ret false)
       else
        some (LX.out ())
      else
       bif x.kind == 5 then
        za (zz (!(!(bif (x.selectors.length : Int) == 0 then (x.decls.length : Int) == 0 else false))) (zdy (⟨x.cond.kind, x.cond.name, x.cond.num, x.cond.decl, x.cond.list⟩ : zk)) (default : Bool)) fun y10 =>
        bif bif bif bif bif !(bif (x.selectors.length : Int) == 0 then (x.decls.length : Int) == 0 else false) then true else !y10 then true else decide ((x.names.length : Int) < 1) then true else decide ((x.names.length : Int) > 64) then true else decide ((x.rules.length : Int) > 0) then
         some (LX.ret false)
        else
         some (LX.out ())
       else
        some (LX.ret false)) fun j11 =>
 zN (fun (s12 : Int) =>
   bif decide (s12 < (x.names.length : Int)) then
    za (geti x.names s12) fun y13 =>
    za (zbr y13) fun y14 =>
    bif !y14 then
     some (LO.ret false)
    else
     some (LO.again (w64 (s12 + 1)))
   else
    some (LO.out ()) : Int → Option (LO (Int) (Unit) _)) 0 fun o15 =>
 zN (fun (s16 : Int) =>
   bif decide (s16 < (x.rules.length : Int)) then
    za (geti x.rules s16) fun y17 =>
    za (Qd (⟨y17.kind, y17.selectors, y17.decls, (⟨y17.cond.kind, y17.cond.name, y17.cond.num, y17.cond.decl, y17.cond.list⟩ : zk), y17.names, y17.rules⟩ : zu)) fun y18 =>
    bif !y18 then
     some (LO.ret false)
    else
     some (LO.again (w64 (s16 + 1)))
   else
    some (LO.out ()) : Int → Option (LO (Int) (Unit) _)) 0 fun o19 =>
 some true
noncomputable def Qd : zu → Option Bool := recE (zdR)
noncomputable def zhN (x : zy) : Option Bool :=
 some (bif bif bif x.kind == 9 then true else x.kind == 10 then !x.of_ else false then x.anb.a == 0 && (x.anb.b == 1 && true) else false)
noncomputable def zb5 (Z9 : List zb → Option Int) (x : List zb) : Option Int :=
 zN (fun (s1 : Int × Int) =>
   bif decide (s1.2 < (x.length : Int)) then
    zN (fun (s2 : Int × Int) =>
      za (geti x s1.2) fun y3 =>
      bif decide (s2.2 < (y3.parts.length : Int)) then
       za (geti x s1.2) fun y4 =>
       za (geti y4.parts s2.2) fun y5 =>
       zN (fun (s6 : Int × Int) =>
         bif decide (s6.2 < (y5.simples.length : Int)) then
          zZ (X := Int × Int) (
            za (geti y5.simples s6.2) fun y7 =>
            za (zz (!(y7.kind == 3)) (geti y5.simples s6.2) (default : zy)) fun y8 =>
            za (zz (decide (y8.kind ≥ 9) && !(y7.kind == 3)) (geti y5.simples s6.2) (default : zy)) fun y9 =>
            za (zz (decide (y8.kind ≥ 9) && !(y7.kind == 3)) (zhN (⟨y9.kind, y9.name, y9.op, y9.value, y9.fold, y9.anb, y9.of_, y9.list⟩ : zy)) (default : Bool)) fun y10 =>
            bif bif y7.kind == 3 then true else bif decide (y8.kind ≥ 9) then !y10 else false then
             za (geti y5.simples s6.2) fun y11 =>
             za (Z9 y11.list) fun y12 =>
             some (LX.out (if w64 (1 + y12) > s6.1 then w64 (1 + y12) else s6.1, s6.2))
            else
             some (LX.out (s6.1, s6.2))) fun j13 =>
          some (LO.again (j13.1, w64 (j13.2 + 1)))
         else
          some (LO.out s6.1) : Int × Int → Option (LO (Int × Int) (Int) _)) (s2.1, 0) fun o14 =>
       some (LO.again (o14, w64 (s2.2 + 1)))
      else
       some (LO.out s2.1) : Int × Int → Option (LO (Int × Int) (Int) _)) (s1.1, 0) fun o15 =>
    some (LO.again (o15, w64 (s1.2 + 1)))
   else
    some (LO.out s1.1) : Int × Int → Option (LO (Int × Int) (Int) _)) (0, 0) fun o16 =>
 some o16
noncomputable def Z9 : List zb → Option Int := recE (zb5)
noncomputable def zah (x : zu) : Option Int :=
 bif x.kind == 3 then
  za (Qw (⟨x.cond.kind, x.cond.name, x.cond.num, x.cond.decl, x.cond.list⟩ : zk)) fun y1 =>
  some y1
 else
  zN (fun (s2 : Int × Int) =>
    bif decide (s2.2 < (x.cond.list.length : Int)) then
     za (geti x.cond.list s2.2) fun y3 =>
     zZ (X := Int × zk) (
       bif bif y3.kind == 3 then (y3.list.length : Int) == 1 else false then
        za (geti y3.list 0) fun y4 =>
        some (LX.out (s2.1, (⟨y4.kind, y4.name, y4.num, y4.decl, y4.list⟩ : zk)))
       else
        some (LX.out (s2.1, (⟨y3.kind, y3.name, y3.num, y3.decl, y3.list⟩ : zk)))) fun j5 =>
     zN (fun (s6 : Int × Int) =>
       bif decide (s6.2 < (j5.2.list.length : Int)) then
        zZ (X := Int × Int) (
          za (geti j5.2.list s6.2) fun y7 =>
          bif y7.kind != 4 then
           some (LX.out (1, s6.2))
          else
           some (LX.out (s6.1, s6.2))) fun j8 =>
        some (LO.again (j8.1, w64 (j8.2 + 1)))
       else
        some (LO.out s6.1) : Int × Int → Option (LO (Int × Int) (Int) _)) (j5.1, 0) fun o9 =>
     some (LO.again (o9, w64 (s2.2 + 1)))
    else
     some (LO.out s2.1) : Int × Int → Option (LO (Int × Int) (Int) _)) (0, 0) fun o10 =>
  some o10
noncomputable def zf8 (za0 : List zu → Option Int) (x : List zu) : Option Int :=
 zN (fun (s1 : Int × Int) =>
   bif decide (s1.2 < (x.length : Int)) then
    zZ (X := Int × Int) (
      za (geti x s1.2) fun y2 =>
      bif y2.kind == 5 then
       some (LX.out (s1.1, s1.2))
      else
       za (geti x s1.2) fun y3 =>
       za (za0 y3.rules) fun y4 =>
       zN (fun (s5 : Int × Int) =>
         za (geti x s1.2) fun y6 =>
         bif decide (s5.2 < (y6.decls.length : Int)) then
          za (geti x s1.2) fun y7 =>
          za (geti y7.decls s5.2) fun y8 =>
          za (ZP y8.value) fun y9 =>
          some (LO.again (if y9 > s5.1 then y9 else s5.1, w64 (s5.2 + 1)))
         else
          some (LO.out s5.1) : Int × Int → Option (LO (Int × Int) (Int) _)) (y4, 0) fun o10 =>
       za (geti x s1.2) fun y11 =>
       za (Z9 y11.selectors) fun y12 =>
       za (geti x s1.2) fun y13 =>
       za (zah (⟨y13.kind, y13.selectors, y13.decls, (⟨y13.cond.kind, y13.cond.name, y13.cond.num, y13.cond.decl, y13.cond.list⟩ : zk), y13.names, y13.rules⟩ : zu)) fun y14 =>
       some (LX.out (if y14 > (if y12 > (if w64 (1 + o10) > s1.1 then w64 (1 + o10) else s1.1) then y12 else if w64 (1 + o10) > s1.1 then w64 (1 + o10) else s1.1) then y14 else if y12 > (if w64 (1 + o10) > s1.1 then w64 (1 + o10) else s1.1) then y12 else if w64 (1 + o10) > s1.1 then w64 (1 + o10) else s1.1, s1.2))) fun j15 =>
    some (LO.again (j15.1, w64 (j15.2 + 1)))
   else
    some (LO.out s1.1) : Int × Int → Option (LO (Int × Int) (Int) _)) (0, 0) fun o16 =>
 some o16
noncomputable def za0 : List zu → Option Int := recE (zf8)
noncomputable def zfK (x : List zu) : Option Bool :=
 za (ZC x) fun y1 =>
 bif decide (y1 > 64) then
  some false
 else
  zN (fun (s2 : Int) =>
    bif decide (s2 < (x.length : Int)) then
     za (geti x s2) fun y3 =>
     za (Qd (⟨y3.kind, y3.selectors, y3.decls, (⟨y3.cond.kind, y3.cond.name, y3.cond.num, y3.cond.decl, y3.cond.list⟩ : zk), y3.names, y3.rules⟩ : zu)) fun y4 =>
     bif !y4 then
      some (LO.ret false)
     else
      some (LO.again (w64 (s2 + 1)))
    else
     some (LO.out ()) : Int → Option (LO (Int) (Unit) _)) 0 fun o5 =>
  za (za0 x) fun y6 =>
  some (decide (y6 ≤ 16))
noncomputable def zaD (x : Zo) : Option Int :=
 za (zfK x.rules) fun y1 =>
 bif !y1 then
  some 8
 else
  some 0
noncomputable def zbq (x : zu) : Option Int :=
 za (zaD (⟨[(⟨x.kind, x.selectors, x.decls, (⟨x.cond.kind, x.cond.name, x.cond.num, x.cond.decl, x.cond.list⟩ : zk), x.names, x.rules⟩ : zu)]⟩ : Zo)) fun y1 =>
 some y1
noncomputable def zek (x : Zo × zu × Int) : Option (Zo × Int) :=
 za (zaD x.1) fun y1 =>
 za (zz (!(y1 != 0)) (zbq (⟨x.2.1.kind, x.2.1.selectors, x.2.1.decls, (⟨x.2.1.cond.kind, x.2.1.cond.name, x.2.1.cond.num, x.2.1.cond.decl, x.2.1.cond.list⟩ : zk), x.2.1.names, x.2.1.rules⟩ : zu)) (default : Int)) fun y2 =>
 bif bif y1 != 0 then true else y2 != 0 then
  some ((⟨[]⟩ : Zo), 8)
 else
  bif bif decide (x.2.2 < 0) then true else decide (x.2.2 > (x.1.rules.length : Int)) then
   some ((⟨[]⟩ : Zo), 2)
  else
   za (ZC x.1.rules) fun y3 =>
   za (ZC [(⟨x.2.1.kind, x.2.1.selectors, x.2.1.decls, (⟨x.2.1.cond.kind, x.2.1.cond.name, x.2.1.cond.num, x.2.1.cond.decl, x.2.1.cond.list⟩ : zk), x.2.1.names, x.2.1.rules⟩ : zu)]) fun y4 =>
   bif decide (w64 (y3 + y4) > 64) then
    some ((⟨[]⟩ : Zo), 18)
   else
    need (decide (0 ≤ x.2.2) && decide (x.2.2 ≤ (x.1.rules.length : Int))) <|
    need (qw 0 (List.take x.2.2.toNat x.1.rules).length 208) <|
    need (qw (List.take x.2.2.toNat x.1.rules).length 1 208) <|
    need (decide (0 ≤ x.2.2) && decide (x.2.2 ≤ (x.1.rules.length : Int))) <|
    need (qw (List.take x.2.2.toNat x.1.rules ++ [(⟨x.2.1.kind, x.2.1.selectors, x.2.1.decls, (⟨x.2.1.cond.kind, x.2.1.cond.name, x.2.1.cond.num, x.2.1.cond.decl, x.2.1.cond.list⟩ : zk), x.2.1.names, x.2.1.rules⟩ : zu)]).length (List.drop x.2.2.toNat x.1.rules).length 208) <|
    some ((⟨List.take x.2.2.toNat x.1.rules ++ [(⟨x.2.1.kind, x.2.1.selectors, x.2.1.decls, (⟨x.2.1.cond.kind, x.2.1.cond.name, x.2.1.cond.num, x.2.1.cond.decl, x.2.1.cond.list⟩ : zk), x.2.1.names, x.2.1.rules⟩ : zu)] ++ List.drop x.2.2.toNat x.1.rules⟩ : Zo), 0)
noncomputable def zel (x : Zo × Int) : Option (Zo × Int) :=
 za (zaF x.1) fun y1 =>
 bif y1 != 0 then
  some ((⟨[]⟩ : Zo), y1)
 else
  bif bif decide (x.2 < 0) then true else decide (x.2 ≥ (x.1.rules.length : Int)) then
   some ((⟨[]⟩ : Zo), 2)
  else
   need (decide (0 ≤ x.2) && (decide (x.2 ≤ x.2) && decide (x.2 ≤ (x.1.rules.length : Int))) && decide (x.2 = x.2)) <|
   need (decide (0 ≤ w64 (x.2 + 1)) && decide (w64 (x.2 + 1) ≤ (x.1.rules.length : Int))) <|
   need (qw (List.take x.2.toNat x.1.rules).length (List.drop (w64 (x.2 + 1)).toNat x.1.rules).length 208) <|
   za (Qh (List.take x.2.toNat x.1.rules ++ List.drop (w64 (x.2 + 1)).toNat x.1.rules)) fun y2 =>
   some ((⟨y2⟩ : Zo), 0)
noncomputable def zej (x : Zo × Int) : Option (Zo × Int) :=
 za (zaD x.1) fun y1 =>
 bif y1 != 0 then
  some ((⟨[]⟩ : Zo), y1)
 else
  bif bif decide (x.2 < 0) then true else decide (x.2 ≥ (x.1.rules.length : Int)) then
   some ((⟨[]⟩ : Zo), 2)
  else
   need (decide (0 ≤ x.2) && decide (x.2 ≤ (x.1.rules.length : Int))) <|
   need (qw 0 (List.take x.2.toNat x.1.rules).length 208) <|
   need (decide (0 ≤ w64 (x.2 + 1)) && decide (w64 (x.2 + 1) ≤ (x.1.rules.length : Int))) <|
   need (qw (List.take x.2.toNat x.1.rules).length (List.drop (w64 (x.2 + 1)).toNat x.1.rules).length 208) <|
   some ((⟨List.take x.2.toNat x.1.rules ++ List.drop (w64 (x.2 + 1)).toNat x.1.rules⟩ : Zo), 0)
noncomputable def zae (Ze : List zb × List zb → Option Bool) (x : List zy × List zy) : Option Bool :=
 bif (x.1.length : Int) != (x.2.length : Int) then
  some false
 else
  zN (fun (s1 : Int) =>
    bif decide (s1 < (x.1.length : Int)) then
     za (geti x.1 s1) fun y2 =>
     za (zav (⟨y2.kind, y2.name, y2.op, y2.value, y2.fold, y2.anb, y2.of_, y2.list⟩ : zy)) fun y3 =>
     za (geti x.2 s1) fun y4 =>
     za (zav (⟨y4.kind, y4.name, y4.op, y4.value, y4.fold, y4.anb, y4.of_, y4.list⟩ : zy)) fun y5 =>
     za (zz (!(!(y3.kind == y5.kind && (y3.name == y5.name && (y3.op == y5.op && (y3.value == y5.value && (y3.fold == y5.fold && (y3.anb.a == y5.anb.a && (y3.anb.b == y5.anb.b && (y3.of_ == y5.of_ && true)))))))))) (geti x.1 s1) (default : zy)) fun y6 =>
     za (zz (!(!(y3.kind == y5.kind && (y3.name == y5.name && (y3.op == y5.op && (y3.value == y5.value && (y3.fold == y5.fold && (y3.anb.a == y5.anb.a && (y3.anb.b == y5.anb.b && (y3.of_ == y5.of_ && true)))))))))) (geti x.2 s1) (default : zy)) fun y7 =>
     za (zz (!(!(y3.kind == y5.kind && (y3.name == y5.name && (y3.op == y5.op && (y3.value == y5.value && (y3.fold == y5.fold && (y3.anb.a == y5.anb.a && (y3.anb.b == y5.anb.b && (y3.of_ == y5.of_ && true)))))))))) (Ze (y6.list, y7.list)) (default : Bool)) fun y8 =>
     bif bif !(y3.kind == y5.kind && (y3.name == y5.name && (y3.op == y5.op && (y3.value == y5.value && (y3.fold == y5.fold && (y3.anb.a == y5.anb.a && (y3.anb.b == y5.anb.b && (y3.of_ == y5.of_ && true)))))))) then true else !y8 then
      some (LO.ret false)
     else
      some (LO.again (w64 (s1 + 1)))
    else
     some (LO.out ()) : Int → Option (LO (Int) (Unit) _)) 0 fun o9 =>
  some true
noncomputable def zfG (Ze : List zb × List zb → Option Bool) (x : zb × zb) : Option Bool :=
 bif bif bif x.1.lead != x.2.lead then true else (x.1.parts.length : Int) != (x.2.parts.length : Int) then true else !(x.1.combs == x.2.combs) then
  some false
 else
  zN (fun (s1 : Int) =>
    bif decide (s1 < (x.1.parts.length : Int)) then
     za (geti x.1.parts s1) fun y2 =>
     za (geti x.2.parts s1) fun y3 =>
     za (zz (!(!(y2.tag == y3.tag))) (geti x.1.parts s1) (default : zA)) fun y4 =>
     za (zz (!(!(y2.tag == y3.tag))) (geti x.2.parts s1) (default : zA)) fun y5 =>
     za (zz (!(!(y2.tag == y3.tag))) (zae Ze (y4.simples, y5.simples)) (default : Bool)) fun y6 =>
     bif bif !(y2.tag == y3.tag) then true else !y6 then
      some (LO.ret false)
     else
      some (LO.again (w64 (s1 + 1)))
    else
     some (LO.out ()) : Int → Option (LO (Int) (Unit) _)) 0 fun o7 =>
  some true
noncomputable def zf6 (Ze : List zb × List zb → Option Bool) (x : List zb × List zb) : Option Bool :=
 bif (x.1.length : Int) != (x.2.length : Int) then
  some false
 else
  zN (fun (s1 : Int) =>
    bif decide (s1 < (x.1.length : Int)) then
     za (geti x.1 s1) fun y2 =>
     za (geti x.2 s1) fun y3 =>
     za (zfG Ze ((⟨y2.lead, y2.parts, y2.combs⟩ : zb), (⟨y3.lead, y3.parts, y3.combs⟩ : zb))) fun y4 =>
     bif !y4 then
      some (LO.ret false)
     else
      some (LO.again (w64 (s1 + 1)))
    else
     some (LO.out ()) : Int → Option (LO (Int) (Unit) _)) 0 fun o5 =>
  some true
noncomputable def Ze : List zb × List zb → Option Bool := recE (zf6)
noncomputable def ze3 (x : List Zh × List Zh) : Option Bool :=
 bif (x.1.length : Int) != (x.2.length : Int) then
  some false
 else
  zN (fun (s1 : Int) =>
    bif decide (s1 < (x.1.length : Int)) then
     za (geti x.1 s1) fun y2 =>
     za (geti x.2 s1) fun y3 =>
     za (QR (y2, y3)) fun y4 =>
     bif !y4 then
      some (LO.ret false)
     else
      some (LO.again (w64 (s1 + 1)))
    else
     some (LO.out ()) : Int → Option (LO (Int) (Unit) _)) 0 fun o5 =>
  some true
noncomputable def zai (x : List (List Str) × List (List Str)) : Option Bool :=
 bif (x.1.length : Int) != (x.2.length : Int) then
  some false
 else
  zN (fun (s1 : Int) =>
    bif decide (s1 < (x.1.length : Int)) then
     za (geti x.1 s1) fun y2 =>
     za (geti x.2 s1) fun y3 =>
     bif (y2.length : Int) != (y3.length : Int) then
      some (LO.ret false)
     else
      zN (fun (s4 : Int) =>
        za (geti x.1 s1) fun y5 =>
        bif decide (s4 < (y5.length : Int)) then
         za (geti x.1 s1) fun y6 =>
         za (geti y6 s4) fun y7 =>
         za (geti x.2 s1) fun y8 =>
         za (geti y8 s4) fun y9 =>
         bif !(y7 == y9) then
          some (LO.ret (LO.ret false))
         else
          some (LO.again (w64 (s4 + 1)))
        else
         some (LO.out ()) : Int → Option (LO (Int) (Unit) _)) 0 fun o10 =>
      some (LO.again (w64 (s1 + 1)))
    else
     some (LO.out ()) : Int → Option (LO (Int) (Unit) _)) 0 fun o11 =>
  some true
noncomputable def zfJ (ZQ : List zu × List zu → Option Bool) (x : zu × zu) : Option Bool :=
 za (zz (x.1.kind == x.2.kind) (Ze (x.1.selectors, x.2.selectors)) (default : Bool)) fun y1 =>
 za (zz (bif x.1.kind == x.2.kind then y1 else false) (ze3 (x.1.decls, x.2.decls)) (default : Bool)) fun y2 =>
 za (zz (bif bif x.1.kind == x.2.kind then y1 else false then y2 else false) (qF ((⟨x.1.cond.kind, x.1.cond.name, x.1.cond.num, x.1.cond.decl, x.1.cond.list⟩ : zk), (⟨x.2.cond.kind, x.2.cond.name, x.2.cond.num, x.2.cond.decl, x.2.cond.list⟩ : zk))) (default : Bool)) fun y3 =>
 za (zz (bif bif bif x.1.kind == x.2.kind then y1 else false then y2 else false then y3 else false) (zai (x.1.names, x.2.names)) (default : Bool)) fun y4 =>
 za (zz (bif bif bif bif x.1.kind == x.2.kind then y1 else false then y2 else false then y3 else false then y4 else false) (ZQ (x.1.rules, x.2.rules)) (default : Bool)) fun y5 =>
 some (bif bif bif bif bif x.1.kind == x.2.kind then y1 else false then y2 else false then y3 else false then y4 else false then y5 else false)
noncomputable def zf9 (ZQ : List zu × List zu → Option Bool) (x : List zu × List zu) : Option Bool :=
 bif (x.1.length : Int) != (x.2.length : Int) then
  some false
 else
  zN (fun (s1 : Int) =>
    bif decide (s1 < (x.1.length : Int)) then
     za (geti x.1 s1) fun y2 =>
     za (geti x.2 s1) fun y3 =>
     za (zfJ ZQ ((⟨y2.kind, y2.selectors, y2.decls, (⟨y2.cond.kind, y2.cond.name, y2.cond.num, y2.cond.decl, y2.cond.list⟩ : zk), y2.names, y2.rules⟩ : zu), (⟨y3.kind, y3.selectors, y3.decls, (⟨y3.cond.kind, y3.cond.name, y3.cond.num, y3.cond.decl, y3.cond.list⟩ : zk), y3.names, y3.rules⟩ : zu))) fun y4 =>
     bif !y4 then
      some (LO.ret false)
     else
      some (LO.again (w64 (s1 + 1)))
    else
     some (LO.out ()) : Int → Option (LO (Int) (Unit) _)) 0 fun o5 =>
  some true
noncomputable def ZQ : List zu × List zu → Option Bool := recE (zf9)
noncomputable def zb1 (x : Zo × zu × Int) : Option Bool :=
 za (zdx [(⟨x.2.1.kind, x.2.1.selectors, x.2.1.decls, (⟨x.2.1.cond.kind, x.2.1.cond.name, x.2.1.cond.num, x.2.1.cond.decl, x.2.1.cond.list⟩ : zk), x.2.1.names, x.2.1.rules⟩ : zu)]) fun y1 =>
 za (zz (!y1) (zdx x.1.rules) (default : Bool)) fun y2 =>
 bif bif y1 then true else y2 then
  some true
 else
  za (zem (x.1, (⟨x.2.1.kind, x.2.1.selectors, x.2.1.decls, (⟨x.2.1.cond.kind, x.2.1.cond.name, x.2.1.cond.num, x.2.1.cond.decl, x.2.1.cond.list⟩ : zk), x.2.1.names, x.2.1.rules⟩ : zu), x.2.2)) fun y3 =>
  za (zek (x.1, (⟨x.2.1.kind, x.2.1.selectors, x.2.1.decls, (⟨x.2.1.cond.kind, x.2.1.cond.name, x.2.1.cond.num, x.2.1.cond.decl, x.2.1.cond.list⟩ : zk), x.2.1.names, x.2.1.rules⟩ : zu), x.2.2)) fun y4 =>
  za (zel (x.1, x.2.2)) fun y5 =>
  za (zej (x.1, x.2.2)) fun y6 =>
  za (ZQ (y3.1.rules, y4.1.rules)) fun y7 =>
  za (zz (bif y7 then y3.2 == y4.2 else false) (ZQ (y5.1.rules, y6.1.rules)) (default : Bool)) fun y8 =>
  some (bif bif bif y7 then y3.2 == y4.2 else false then y8 else false then y5.2 == y6.2 else false)
end Go.Lv.VT
