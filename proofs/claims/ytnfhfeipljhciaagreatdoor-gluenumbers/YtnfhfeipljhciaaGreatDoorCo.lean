/- Contracts. -/
import Derived.Test.YtnfhfeipljhciaaGreatDoorTx
import Derived.Test.YtnfhfeipljhciaaGreatDoorIp
import Derived.Test.YtnfhfeipljhciaaGreatDoorLf
import Derived.Test.YtnfhfeipljhciaaGreatDoorGa
namespace Go.Lv.VT
set_option maxRecDepth 100000
open Go.Proofs
theorem okC {con : Con I} {A : Env0 I} {exS : StSh} (f : Go.Func) (hS : ∀ c ∈ A.S, zw Tryz.prog c) (hf : Tryz.prog.funcs[con.f]? = some f) (h : chk con A f = true) (he : ∀ x, evF2 A T FK f.ntmps (rsl f) (body f) con exS x = con.F x) : zw Tryz.prog con :=
 okC0 mixed ipOK tok rfl rfl hS hf h he
noncomputable def zeH (F : Str → Option zh) : Con I := ⟨31, ⟨[.str], []⟩, [], ⟨[.val 51], []⟩, 0, F⟩
noncomputable def ZZ (F : Str × Int → Option Int) : Con I := ⟨59, ⟨[.str, .int .u8], []⟩, [], ⟨[.int .i64], []⟩, 0, F⟩
noncomputable def qL (F : Str × Str → Option Bool) : Con I := ⟨126, ⟨[.str, .str], []⟩, [], ⟨[.bool], []⟩, 0, F⟩
noncomputable def Q9 (F : Str × Str → Option Str) : Con I := ⟨191, ⟨[.str, .str], []⟩, [], ⟨[.str], []⟩, 0, F⟩
noncomputable def zba (F : Str × Str → Option Str) : Con I := ⟨146, ⟨[.str, .str], []⟩, [], ⟨[.str], []⟩, 0, F⟩
noncomputable def Q8 (F : Int → Option Bool) : Con I := ⟨108, ⟨[.int .u8], []⟩, [], ⟨[.bool], []⟩, 0, F⟩
noncomputable def zaU (F : Str → Option Bool) : Con I := ⟨100, ⟨[.str], []⟩, [], ⟨[.bool], []⟩, 0, F⟩
noncomputable def Zj (F : Str × Str → Option Bool) : Con I := ⟨76, ⟨[.str, .str], []⟩, [], ⟨[.bool], []⟩, 0, F⟩
noncomputable def zct (F : Int → Option Bool) : Con I := ⟨141, ⟨[.int .u8], []⟩, [], ⟨[.bool], []⟩, 0, F⟩
noncomputable def zbU (F : Int → Option Bool) : Con I := ⟨105, ⟨[.int .u8], []⟩, [], ⟨[.bool], []⟩, 0, F⟩
noncomputable def zbV (F : Str × Str → Option Bool) : Con I := ⟨106, ⟨[.str, .str], []⟩, [], ⟨[.bool], []⟩, 0, F⟩
noncomputable def zeg (F : zh → Option Bool) : Con I := ⟨58, ⟨[.val 51], []⟩, [], ⟨[.bool], []⟩, 0, F⟩
noncomputable def zdW (F : (Int × Int) × List zh → Option Bool) : Con I := ⟨97, ⟨[.int .i64, .int .u8, .optr 0], [(0, .row 41)]⟩, [0], ⟨[.bool], []⟩, 0, F⟩
noncomputable def zeF (F : Str → Option Str) : Con I := ⟨77, ⟨[.str], []⟩, [], ⟨[.str], []⟩, 0, F⟩
noncomputable def zcv (F : Str × Str → Option Bool) : Con I := ⟨78, ⟨[.str, .str], []⟩, [], ⟨[.bool], []⟩, 0, F⟩
noncomputable def zc1 (F : List zh → Option Int) : Con I := ⟨53, ⟨[.sl 51], []⟩, [], ⟨[.int .i64], []⟩, 0, F⟩
noncomputable def zfX (F : List zh → Option Int) : Con I := ⟨26, ⟨[.sl 51], []⟩, [], ⟨[.int .i64], []⟩, 0, F⟩
noncomputable def zcX (F : Str → Option Int) : Con I := ⟨61, ⟨[.str], []⟩, [], ⟨[.int .i64], []⟩, 0, F⟩
noncomputable def Qj (F : Int × List UInt8 → Option (List UInt8)) : Con I := ⟨98, ⟨[.own 0, .int .u8], [(0, .sl 5)]⟩, [], ⟨[.own 1], [(1, .sl 5)]⟩, 1, F⟩
noncomputable def zeC (F : Str × Int → Option (List UInt8)) : Con I := ⟨60, ⟨[.nilv, .str, .int .i64], []⟩, [], ⟨[.own 0], [(0, .sl 5)]⟩, 1, F⟩
noncomputable def zcu (F : (Str × Int) × List UInt8 → Option (List UInt8)) : Con I := ⟨60, ⟨[.own 0, .str, .int .i64], [(0, .sl 5)]⟩, [], ⟨[.own 1], [(1, .sl 5)]⟩, 1, F⟩
noncomputable def zcZ (F : Int × Bool → Option (List UInt8)) : Con I := ⟨99, ⟨[.nilv, .int .i64, .bool], []⟩, [], ⟨[.own 0], [(0, .sl 5)]⟩, 1, F⟩
noncomputable def zcY (F : Unit → Option qd) : Con I := ⟨101, ⟨[], []⟩, [], ⟨[.val 130], []⟩, 0, F⟩
noncomputable def zeD (F : zh → Option (List UInt8)) : Con I := ⟨54, ⟨[.nilv, .val 51], []⟩, [], ⟨[.own 0], [(0, .sl 5)]⟩, 1, F⟩
noncomputable def zc0 (F : (Int × Bool) × List UInt8 → Option (List UInt8)) : Con I := ⟨99, ⟨[.own 0, .int .i64, .bool], [(0, .sl 5)]⟩, [], ⟨[.own 1], [(1, .sl 5)]⟩, 1, F⟩
noncomputable def zeE (F : zh × List UInt8 → Option (List UInt8)) : Con I := ⟨54, ⟨[.own 0, .val 51], [(0, .sl 5)]⟩, [], ⟨[.own 1], [(1, .sl 5)]⟩, 1, F⟩
noncomputable def zaa (F : za → Option za) : Con I := ⟨103, ⟨[.optr 0], [(0, .row 100)]⟩, [], ⟨[], [(0, .row 100)]⟩, 0, F⟩
noncomputable def zm (F : Int × za → Option Int) : Con I := ⟨116, ⟨[.optr 0, .int .i64], [(0, .row 100)]⟩, [0], ⟨[.int .i64], []⟩, 0, F⟩
noncomputable def Qv (F : Int → Option Bool) : Con I := ⟨150, ⟨[.int .i64], []⟩, [], ⟨[.bool], []⟩, 0, F⟩
noncomputable def qf (F : za → Option za) : Con I := ⟨118, ⟨[.optr 0, .clo 150 []], [(0, .row 100)]⟩, [], ⟨[], [(0, .row 100)]⟩, 0, F⟩
noncomputable def Qk (F : Int → Option (List UInt8)) : Con I := ⟨202, ⟨[.nilv, .int .i32], []⟩, [], ⟨[.own 0], [(0, .sl 5)]⟩, 1, F⟩
noncomputable def zbE (F : Int → Option (List UInt8)) : Con I := ⟨167, ⟨[.nilv, .int .i32], []⟩, [], ⟨[.own 0], [(0, .sl 5)]⟩, 1, F⟩
noncomputable def QM (F : Int × Int × Int → Option Bool) : Con I := ⟨158, ⟨[.int .i64, .int .i64, .int .i64], []⟩, [], ⟨[.bool], []⟩, 0, F⟩
noncomputable def Qu (F : Int → Option Bool) : Con I := ⟨117, ⟨[.int .i64], []⟩, [], ⟨[.bool], []⟩, 0, F⟩
noncomputable def zeh (F : Int → Option Int) : Con I := ⟨168, ⟨[.int .i64], []⟩, [], ⟨[.int .i64], []⟩, 0, F⟩
noncomputable def QL (F : za → Option (za × List UInt8)) : Con I := ⟨125, ⟨[.optr 0, .nilv], [(0, .row 100)]⟩, [], ⟨[.own 1], [(0, .row 100), (1, .sl 5)]⟩, 1, F⟩
noncomputable def Ql (F : Int × List UInt8 → Option (List UInt8)) : Con I := ⟨202, ⟨[.own 0, .int .i32], [(0, .sl 5)]⟩, [], ⟨[.own 1], [(1, .sl 5)]⟩, 1, F⟩
noncomputable def zbF (F : Int × List UInt8 → Option (List UInt8)) : Con I := ⟨167, ⟨[.own 0, .int .i32], [(0, .sl 5)]⟩, [], ⟨[.own 1], [(1, .sl 5)]⟩, 1, F⟩
noncomputable def ZC (F : za × List UInt8 → Option (za × List UInt8)) : Con I := ⟨125, ⟨[.optr 0, .own 1], [(0, .row 100), (1, .sl 5)]⟩, [], ⟨[.own 2], [(0, .row 100), (2, .sl 5)]⟩, 1, F⟩
noncomputable def zaH (F : za → Option (zh × za)) : Con I := ⟨151, ⟨[.optr 0], [(0, .row 100)]⟩, [], ⟨[.val 51], [(0, .row 100)]⟩, 0, F⟩
noncomputable def zcw (F : Int → Option Bool) : Con I := ⟨122, ⟨[.int .i64], []⟩, [], ⟨[.bool], []⟩, 0, F⟩
noncomputable def zb5 (F : Int → Option Bool) : Con I := ⟨124, ⟨[.int .i64], []⟩, [], ⟨[.bool], []⟩, 0, F⟩
noncomputable def Zc (F : Int × za → Option Bool) : Con I := ⟨123, ⟨[.optr 0, .int .i64], [(0, .row 100)]⟩, [0], ⟨[.bool], []⟩, 0, F⟩
noncomputable def QF (F : Int × za → Option Bool) : Con I := ⟨69, ⟨[.optr 0, .int .i64], [(0, .row 100)]⟩, [0], ⟨[.bool], []⟩, 0, F⟩
noncomputable def qw (F : za → Option (Str × za)) : Con I := ⟨70, ⟨[.optr 0], [(0, .row 100)]⟩, [], ⟨[.str], [(0, .row 100)]⟩, 0, F⟩
noncomputable def Qe (F : za → Option Bool) : Con I := ⟨66, ⟨[.optr 0], [(0, .row 100)]⟩, [0], ⟨[.bool], []⟩, 0, F⟩
noncomputable def zan (F : za → Option za) : Con I := ⟨118, ⟨[.optr 0, .clo 117 []], [(0, .row 100)]⟩, [], ⟨[], [(0, .row 100)]⟩, 0, F⟩
noncomputable def qM (F : za → Option (Bool × za)) : Con I := ⟨67, ⟨[.optr 0], [(0, .row 100)]⟩, [], ⟨[.bool], [(0, .row 100)]⟩, 0, F⟩
noncomputable def QW (F : Str → Option Int) : Con I := ⟨68, ⟨[.str], []⟩, [], ⟨[.int .i64], []⟩, 0, F⟩
noncomputable def zam (F : za → Option (zh × za)) : Con I := ⟨152, ⟨[.optr 0], [(0, .row 100)]⟩, [], ⟨[.val 51], [(0, .row 100)]⟩, 0, F⟩
noncomputable def zbC (F : za → Option (zh × za)) : Con I := ⟨216, ⟨[.optr 0], [(0, .row 100)]⟩, [], ⟨[.val 51], [(0, .row 100)]⟩, 0, F⟩
noncomputable def zbD (F : za → Option (zh × za)) : Con I := ⟨196, ⟨[.optr 0], [(0, .row 100)]⟩, [], ⟨[.val 51], [(0, .row 100)]⟩, 0, F⟩
noncomputable def za0 (F : za → Option (zh × za)) : Con I := ⟨153, ⟨[.optr 0], [(0, .row 100)]⟩, [], ⟨[.val 51], [(0, .row 100)]⟩, 0, F⟩
noncomputable def zbb (F : za → Option (zh × za)) : Con I := ⟨104, ⟨[.optr 0], [(0, .row 100)]⟩, [], ⟨[.val 51], [(0, .row 100)]⟩, 0, F⟩
noncomputable def zbW (F : (zh × Int × Int) × List zh → Option (List zh)) : Con I := ⟨57, ⟨[.val 51, .int .i64, .int .i64, .optr 0], [(0, .cells 41 [.own 1]), (1, .sl 51)]⟩, [], ⟨[], [(0, .cells 41 [.own 2]), (2, .sl 51)]⟩, 1, F⟩
noncomputable def zdZ (F : Str → Option (Int × List zh)) : Con I := ⟨56, ⟨[.str, .clo 57 [0]], [(0, .cells 41 [.nilv])]⟩, [], ⟨[.int .i64], [(0, .cells 41 [.own 1]), (1, .sl 51)]⟩, 1, F⟩
noncomputable def zdY (F : Str → Option (List zh × Int)) : Con I := ⟨24, ⟨[.str], []⟩, [], ⟨[.sl 51, .int .i64], []⟩, 0, F⟩
noncomputable def za9 (F : List zh × List zh → Option Bool) : Con I := ⟨55, ⟨[.sl 51, .sl 51], []⟩, [], ⟨[.bool], []⟩, 0, F⟩
noncomputable def zfY (F : List zh → Option (Str × Int)) : Con I := ⟨23, ⟨[.sl 51], []⟩, [], ⟨[.str, .int .i64], []⟩, 0, F⟩
noncomputable def zdX (F : Str × List zh → Option Bool) : Con I := ⟨29, ⟨[.str, .sl 51], []⟩, [], ⟨[.bool], []⟩, 0, F⟩
noncomputable def zeG (F : Unit → Option Bool) : Con I := ⟨22, ⟨[], []⟩, [], ⟨[.bool], []⟩, 0, F⟩
noncomputable def zim (F : zh → Option (Str × Int)) : Con I := ⟨34, ⟨[.val 51], []⟩, [], ⟨[.str, .int .i64], []⟩, 0, F⟩
noncomputable def zeI (F : Str → Option (Int × Bool × Int)) : Con I := ⟨37, ⟨[.str], []⟩, [], ⟨[.int .i64, .bool, .int .i64], []⟩, 0, F⟩
noncomputable def zbB (F : Int × Bool → Option Bool) : Con I := ⟨9, ⟨[.int .i64, .bool], []⟩, [], ⟨[.bool], []⟩, 0, F⟩
noncomputable def zmD (F : Str → Option (Str × Int)) : Con I := ⟨102, ⟨[.str], []⟩, [], ⟨[.str, .int .i64], []⟩, 0, F⟩
theorem zpn : zw Tryz.prog (zmD zgO) := zoU
noncomputable def zkn (F : Str × Int → Option Int) : Con I := ⟨107, ⟨[.str, .int .u8], []⟩, [], ⟨[.int .i64], []⟩, 0, F⟩
theorem znR : zw Tryz.prog (zkn zen) := znE
noncomputable def zjb (F : Str × Str → Option Int) : Con I := ⟨149, ⟨[.str, .str], []⟩, [], ⟨[.int .i64], []⟩, 0, F⟩
theorem zlg : zw Tryz.prog (zjb zeR) := zoV
noncomputable def zmE (F : Str × Str → Option Str) : Con I := ⟨119, ⟨[.str, .str], []⟩, [], ⟨[.str], []⟩, 0, F⟩
theorem zpo : zw Tryz.prog (zmE zfe) := zoW
noncomputable def zjc (F : Str × Str → Option Str) : Con I := ⟨144, ⟨[.str, .str], []⟩, [], ⟨[.str], []⟩, 0, F⟩
theorem zlh : zw Tryz.prog (zjc zcP) := zoX
noncomputable def zgK (F : Str × Str → Option Int) : Con I := ⟨120, ⟨[.str, .str], []⟩, [], ⟨[.int .i64], []⟩, 0, F⟩
theorem zlf : zw Tryz.prog (zgK za1) := zkQ
noncomputable def zrf (F : Str × Str → Option (Str × Str × Bool)) : Con I := ⟨121, ⟨[.str, .str], []⟩, [], ⟨[.str, .str, .bool], []⟩, 0, F⟩
theorem zrW : zw Tryz.prog (zrf cutF) := zrJ
noncomputable def zgJ (F : Int × Int → Option Str) : Con I := ⟨145, ⟨[.int .i64, .int .i64], []⟩, [], ⟨[.str], []⟩, 0, F⟩
theorem ziR : zw Tryz.prog (zgJ zbH) := znD
noncomputable def zil (F : (Int × Int) × List UInt8 → Option (List UInt8)) : Con I := ⟨142, ⟨[.own 0, .int .u64, .int .i64], [(0, .sl 5)]⟩, [], ⟨[.own 1], [(1, .sl 5)]⟩, 1, F⟩
theorem zmi : zw Tryz.prog (zil zdz) := zl5
noncomputable def zfl (F : (Int × Int) × List UInt8 → Option (List UInt8)) : Con I := ⟨143, ⟨[.own 0, .int .i64, .int .i64], [(0, .sl 5)]⟩, [], ⟨[.own 1], [(1, .sl 5)]⟩, 1, F⟩
theorem zho : zw Tryz.prog (zfl zal) := zl4
theorem zh9 : zw Tryz.prog (zeH Qp) :=
 okC (A := ⟨[], [], [], 0, [], [], []⟩) (exS := ⟨[.optr 0], [(0, .row 51)]⟩) Tryz.f31 Zh (by kernel_rfl) (by kernel_rfl) fun x => by kernel_rfl
theorem qx : zw Tryz.prog (ZZ strings_IndexByte) :=
 okC (A := ⟨[zkn zen], [], [], 0, [], [], []⟩) (exS := ⟨[.int .i64], []⟩) Tryz.f59 (memC znR Zh) (by kernel_rfl) (by kernel_rfl) fun x => by kernel_rfl
theorem zad : zw Tryz.prog (qL stringslite_HasPrefix) :=
 okC (A := ⟨[], [], [], 0, [], [], []⟩) (exS := ⟨[.bool], []⟩) Tryz.f126 Zh (by kernel_rfl) (by kernel_rfl) fun x => by kernel_rfl
theorem zb9 : zw Tryz.prog (Q9 stringslite_TrimPrefix) :=
 okC (A := ⟨[qL stringslite_HasPrefix], [], [], 0, [], [], []⟩) (exS := ⟨[.str], []⟩) Tryz.f191 (memC zad Zh) (by kernel_rfl) (by kernel_rfl) fun x => by kernel_rfl
theorem zdl : zw Tryz.prog (zba strings_TrimPrefix) :=
 okC (A := ⟨[Q9 stringslite_TrimPrefix], [], [], 0, [], [], []⟩) (exS := ⟨[.str], []⟩) Tryz.f146 (memC zb9 Zh) (by kernel_rfl) (by kernel_rfl) fun x => by kernel_rfl
theorem zaw : zw Tryz.prog (Q8 Zy) :=
 okC (A := ⟨[], [], [], 0, [], [], []⟩) (exS := ⟨[.bool], []⟩) Tryz.f108 Zh (by kernel_rfl) (by kernel_rfl) fun x => by kernel_rfl
theorem zbM : zw Tryz.prog (zaU ZE) :=
 okC (A := ⟨[zba strings_TrimPrefix, Q8 Zy], [], [], 0, [], [], []⟩) (exS := ⟨[.bool], []⟩) Tryz.f100 (memC zdl (memC zaw Zh)) (by kernel_rfl) (by kernel_rfl) fun x => by kernel_rfl
theorem Zv : zw Tryz.prog (Zj strings_HasPrefix) :=
 okC (A := ⟨[qL stringslite_HasPrefix], [], [], 0, [], [], []⟩) (exS := ⟨[.bool], []⟩) Tryz.f76 (memC zad Zh) (by kernel_rfl) (by kernel_rfl) fun x => by kernel_rfl
theorem zd8 : zw Tryz.prog (zct QY) :=
 okC (A := ⟨[], [], [], 0, [], [], []⟩) (exS := ⟨[.bool], []⟩) Tryz.f141 Zh (by kernel_rfl) (by kernel_rfl) fun x => by kernel_rfl
theorem zcJ : zw Tryz.prog (zbU Qb) :=
 okC (A := ⟨[zct QY, Q8 Zy], [], [], 0, [], [], []⟩) (exS := ⟨[.bool], []⟩) Tryz.f105 (memC zd8 (memC zaw Zh)) (by kernel_rfl) (by kernel_rfl) fun x => by kernel_rfl
theorem zet : zw Tryz.prog (zbV strings_Contains) :=
 okC (A := ⟨[zjb zeR], [], [], 0, [], [], []⟩) (exS := ⟨[.bool], []⟩) Tryz.f106 (memC zlg Zh) (by kernel_rfl) (by kernel_rfl) fun x => by kernel_rfl
theorem zf5 : zw Tryz.prog (zeg zao) :=
 okC (A := ⟨[ZZ strings_IndexByte, zaU ZE, Zj strings_HasPrefix, zbU Qb, zbV strings_Contains], [], [], 0, [], [(8, ⟨[3, 4, 5, 6, 7, 25], ⟨[.bool, .bool, .bool, .bool, .bool, .bool], []⟩, [1, 16], [], [], 0, [], ⟨[], []⟩, []⟩), (14, ⟨[3, 4, 5, 6, 7, 63], ⟨[.bool, .bool, .bool, .bool, .bool, .bool], []⟩, [], [], [], 0, [], ⟨[], []⟩, []⟩), (22, ⟨[4, 5, 6, 7, 94], ⟨[.bool, .bool, .bool, .bool, .bool], []⟩, [3], [], [], 0, [], ⟨[], []⟩, []⟩), (24, ⟨[3, 4, 5, 6, 7], ⟨[.bool, .bool, .bool, .bool, .bool], []⟩, [1], [0], [], 0, [], ⟨[], []⟩, []⟩)], []⟩) (exS := ⟨[.bool], []⟩) Tryz.f58 (memC qx (memC zbM (memC Zv (memC zcJ (memC zet Zh))))) (by kernel_rfl) (by kernel_rfl) fun x => by kernel_rfl
theorem zhp : zw Tryz.prog (zdW Qn) :=
 okC (A := ⟨[], [], [], 1, [], [], []⟩) (exS := ⟨[.bool], []⟩) Tryz.f97 Zh (by kernel_rfl) (by kernel_rfl) fun x => by kernel_rfl
theorem zh7 : zw Tryz.prog (zeF zaN) :=
 okC (A := ⟨[], [], [], 0, [(3, ⟨[10], ⟨[.int .i64], [(0, .sl 5)]⟩, [2, 3, 8, 9], [], [0], 0, [], ⟨[], [(0, .sl 5)]⟩, [0]⟩)], [(7, ⟨[10], ⟨[.int .i64], [(0, .sl 5)]⟩, [], [], [0], 0, [], ⟨[], []⟩, []⟩)], []⟩) (exS := ⟨[.str], []⟩) Tryz.f77 Zh (by kernel_rfl) (by kernel_rfl) fun x => by kernel_rfl
theorem zea : zw Tryz.prog (zcv Q0) :=
 okC (A := ⟨[zeF zaN], [], [], 0, [], [], []⟩) (exS := ⟨[.bool], []⟩) Tryz.f78 (memC zh7 Zh) (by kernel_rfl) (by kernel_rfl) fun x => by kernel_rfl
theorem ze4 : zw Tryz.prog (zc1 zaM) :=
 okC (A := ⟨[zdW Qn, zcv Q0], [], [], 0, [], [(11, ⟨[5], ⟨[.int .i64], []⟩, [3], [0], [], 0, [], ⟨[], []⟩, []⟩)], []⟩) (exS := ⟨[.int .i64], []⟩) Tryz.f53 (memC zhp (memC zea Zh)) (by kernel_rfl) (by kernel_rfl) fun x => by kernel_rfl
theorem zjI : zw Tryz.prog (zfX zaK) :=
 okC (A := ⟨[zeg zao, zc1 zaM], [], [], 0, [(4, ⟨[10], ⟨[.int .i64], []⟩, [0, 8, 9], [], [], 0, [], ⟨[], []⟩, []⟩)], [], []⟩) (exS := ⟨[.int .i64], []⟩) Tryz.f26 (memC zf5 (memC ze4 Zh)) (by kernel_rfl) (by kernel_rfl) fun x => by kernel_rfl
theorem ze2 : zw Tryz.prog (zcX Zt) :=
 okC (A := ⟨[Zj strings_HasPrefix], [], [], 0, [], [], []⟩) (exS := ⟨[.int .i64], []⟩) Tryz.f61 (memC Zv Zh) (by kernel_rfl) (by kernel_rfl) fun x => by kernel_rfl
theorem QU : zw Tryz.prog (Qj zP) :=
 okC (A := ⟨[Q8 Zy, zct QY, zil zdz], [(2, [2]), (3, [1]), (5, [1])], [], 1, [], [], []⟩) (exS := ⟨[.own 1], [(1, .sl 5)]⟩) Tryz.f98 (memC zaw (memC zd8 (memC zmi Zh))) (by kernel_rfl) (by kernel_rfl) fun x => by kernel_rfl
theorem zh4 : zw Tryz.prog (zeC QZ) :=
 okC (A := ⟨[zbU Qb, Q8 Zy, Qj zP], [(6, [2])], [], 0, [(2, ⟨[0, 11], ⟨[.own 1002, .int .i64], [(1002, .sl 5)]⟩, [1, 2, 6, 10], [], [], 0, [0], ⟨[.own 1002], [(1002, .sl 5)]⟩, [1002]⟩)], [(8, ⟨[0, 11], ⟨[.own 1104, .int .i64], [(1104, .sl 5)]⟩, [], [], [], 0, [], ⟨[], []⟩, []⟩)], []⟩) (exS := ⟨[.own 0], [(0, .sl 5)]⟩) Tryz.f60 (memC zcJ (memC zaw (memC QU Zh))) (by kernel_rfl) (by kernel_rfl) fun x => by kernel_rfl
theorem zd9 : zw Tryz.prog (zcu Zk) :=
 okC (A := ⟨[zbU Qb, Q8 Zy, Qj zP], [(6, [2])], [], 1, [(2, ⟨[0, 11], ⟨[.own 1106, .int .i64], [(1106, .sl 5)]⟩, [1, 2, 6, 10], [], [], 0, [0], ⟨[.own 1106], [(1106, .sl 5)]⟩, [1106]⟩)], [(8, ⟨[0, 11], ⟨[.own 1208, .int .i64], [(1208, .sl 5)]⟩, [], [], [], 0, [], ⟨[], []⟩, []⟩)], []⟩) (exS := ⟨[.own 1], [(1, .sl 5)]⟩) Tryz.f60 (memC zcJ (memC zaw (memC QU Zh))) (by kernel_rfl) (by kernel_rfl) fun x => by kernel_rfl
theorem zgb : zw Tryz.prog (zcZ qN) :=
 okC (A := ⟨[zfl zal, zgJ zbH, zjc zcP], [(2, [1]), (6, [1])], [], 0, [], [(3, ⟨[0, 1], ⟨[.own 1417, .int .i64], [(1417, .sl 5)]⟩, [2], [], [], 0, [], ⟨[], []⟩, []⟩), (9, ⟨[0], ⟨[.own 1520], [(1520, .sl 5)]⟩, [], [], [], 0, [], ⟨[], []⟩, []⟩)], []⟩) (exS := ⟨[.own 0], [(0, .sl 5)]⟩) Tryz.f99 (memC zho (memC ziR (memC zlh Zh))) (by kernel_rfl) (by kernel_rfl) fun x => by kernel_rfl
theorem ze3 : zw Tryz.prog (zcY zaL) :=
 okC (A := ⟨[], [], [], 0, [], [], []⟩) (exS := ⟨[.optr 0], [(0, .row 130)]⟩) Tryz.f101 Zh (by kernel_rfl) (by kernel_rfl) fun x => by kernel_rfl
theorem zh5 : zw Tryz.prog (zeD zbI) :=
 okC (A := ⟨[zcX Zt, zeC QZ, zcu Zk, ZZ strings_IndexByte, Qj zP, zcZ qN, zaU ZE, Zj strings_HasPrefix, zcY zaL], [(5, [7]), (7, [1]), (12, [1]), (14, [1]), (20, [2]), (22, [1]), (30, [2]), (32, [1]), (38, [4])], [], 0, [(16, ⟨[0, 67], ⟨[.own 1210, .int .i64], [(1210, .sl 5)]⟩, [3, 4, 65, 66], [0, 3], [], 1, [0], ⟨[.own 1210], [(1210, .sl 5)]⟩, [1210]⟩), (26, ⟨[0, 93], ⟨[.own 1314, .int .i64], [(1314, .sl 5)]⟩, [3, 4, 91, 92], [0, 2], [], 3, [0], ⟨[.own 1314], [(1314, .sl 5)]⟩, [1314]⟩)], [(12, ⟨[5], ⟨[.int .i64], []⟩, [0, 3], [0], [], 0, [], ⟨[], []⟩, []⟩), (21, ⟨[0, 67], ⟨[.own 1312, .int .i64], [(1312, .sl 5)]⟩, [], [], [], 0, [], ⟨[], []⟩, []⟩), (31, ⟨[0, 93], ⟨[.own 1416, .int .i64], [(1416, .sl 5)]⟩, [], [], [], 0, [], ⟨[], []⟩, []⟩)], []⟩) (exS := ⟨[.own 0], [(0, .sl 5)]⟩) Tryz.f54 (memC ze2 (memC zh4 (memC zd9 (memC qx (memC QU (memC zgb (memC zbM (memC Zv (memC ze3 Zh))))))))) (by kernel_rfl) (by kernel_rfl) fun x => by kernel_rfl
theorem zgc : zw Tryz.prog (zc0 qO) :=
 okC (A := ⟨[zfl zal, zgJ zbH, zjc zcP], [(2, [1]), (6, [1])], [], 1, [], [(3, ⟨[0, 1], ⟨[.own 1730, .int .i64], [(1730, .sl 5)]⟩, [2], [], [], 0, [], ⟨[], []⟩, []⟩), (9, ⟨[0], ⟨[.own 1833], [(1833, .sl 5)]⟩, [], [], [], 0, [], ⟨[], []⟩, []⟩)], []⟩) (exS := ⟨[.own 1], [(1, .sl 5)]⟩) Tryz.f99 (memC zho (memC ziR (memC zlh Zh))) (by kernel_rfl) (by kernel_rfl) fun x => by kernel_rfl
theorem zh6 : zw Tryz.prog (zeE zbJ) :=
 okC (A := ⟨[zcX Zt, zcu Zk, ZZ strings_IndexByte, Qj zP, zc0 qO, zaU ZE, Zj strings_HasPrefix, zcY zaL], [(5, [7]), (7, [1]), (12, [1]), (14, [1]), (20, [2]), (22, [1]), (30, [2]), (32, [1]), (38, [4])], [], 1, [(16, ⟨[0, 67], ⟨[.own 1523, .int .i64], [(1523, .sl 5)]⟩, [3, 4, 65, 66], [1, 4], [], 1, [0], ⟨[.own 1523], [(1523, .sl 5)]⟩, [1523]⟩), (26, ⟨[0, 93], ⟨[.own 1627, .int .i64], [(1627, .sl 5)]⟩, [3, 4, 91, 92], [1, 3], [], 3, [0], ⟨[.own 1627], [(1627, .sl 5)]⟩, [1627]⟩)], [(12, ⟨[5], ⟨[.int .i64], [(0, .sl 5)]⟩, [0, 3], [1], [0], 0, [], ⟨[], []⟩, []⟩), (21, ⟨[0, 67], ⟨[.own 1625, .int .i64], [(1625, .sl 5)]⟩, [], [], [], 0, [], ⟨[], []⟩, []⟩), (31, ⟨[0, 93], ⟨[.own 1729, .int .i64], [(1729, .sl 5)]⟩, [], [], [], 0, [], ⟨[], []⟩, []⟩)], []⟩) (exS := ⟨[.own 1], [(1, .sl 5)]⟩) Tryz.f54 (memC ze2 (memC zd9 (memC qx (memC QU (memC zgc (memC zbM (memC Zv (memC ze3 Zh)))))))) (by kernel_rfl) (by kernel_rfl) fun x => by kernel_rfl
theorem zca : zw Tryz.prog (zaa Zd) :=
 okC (A := ⟨[Zj strings_HasPrefix, zjb zeR], [], [], 1, [(0, ⟨[], ⟨[], [(0, .row 100)]⟩, [0], [], [0], 0, [], ⟨[], [(0, .row 100)]⟩, [0]⟩)], [], []⟩) (exS := ⟨[], [(0, .row 100)]⟩) Tryz.f103 (memC Zv (memC zlg Zh)) (by kernel_rfl) (by kernel_rfl) fun x => by kernel_rfl
theorem zn : zw Tryz.prog (zm ze) :=
 okC (A := ⟨[], [], [], 1, [], [], []⟩) (exS := ⟨[.int .i64], []⟩) Tryz.f116 Zh (by kernel_rfl) (by kernel_rfl) fun x => by kernel_rfl
theorem QS : zw Tryz.prog (Qv ZA) :=
 okC (A := ⟨[], [], [], 0, [], [], []⟩) (exS := ⟨[.bool], []⟩) Tryz.f150 Zh (by kernel_rfl) (by kernel_rfl) fun x => by kernel_rfl
theorem Qf : zw Tryz.prog (qf zK) :=
 okC (A := ⟨[zm ze, Qv ZA], [], [], 1, [(0, ⟨[], ⟨[], [(0, .row 100)]⟩, [0, 1], [], [0], 0, [], ⟨[], [(0, .row 100)]⟩, [0]⟩)], [], []⟩) (exS := ⟨[], [(0, .row 100)]⟩) Tryz.f118 (memC zn (memC QS Zh)) (by kernel_rfl) (by kernel_rfl) fun x => by kernel_rfl
theorem zbs : zw Tryz.prog (Qk Zf) :=
 okC (A := ⟨[], [(2, [1]), (4, [9]), (7, [14]), (9, [19])], [], 0, [], [(7, ⟨[25], ⟨[.bool], []⟩, [0, 1, 5], [], [], 0, [], ⟨[], []⟩, []⟩)], []⟩) (exS := ⟨[.own 0], [(0, .sl 5)]⟩) Tryz.f202 Zh (by kernel_rfl) (by kernel_rfl) fun x => by kernel_rfl
theorem zdS : zw Tryz.prog (zbE ZX) :=
 okC (A := ⟨[Qk Zf], [(2, [3])], [], 0, [], [], []⟩) (exS := ⟨[.own 0], [(0, .sl 5)]⟩) Tryz.f167 (memC zbs Zh) (by kernel_rfl) (by kernel_rfl) fun x => by kernel_rfl
theorem zay : zw Tryz.prog (QM ZG) :=
 okC (A := ⟨[], [], [], 0, [], [], []⟩) (exS := ⟨[.bool], []⟩) Tryz.f158 Zh (by kernel_rfl) (by kernel_rfl) fun x => by kernel_rfl
theorem QR : zw Tryz.prog (Qu zU) :=
 okC (A := ⟨[QM ZG], [], [], 0, [], [], []⟩) (exS := ⟨[.bool], []⟩) Tryz.f117 (memC zay Zh) (by kernel_rfl) (by kernel_rfl) fun x => by kernel_rfl
theorem zf6 : zw Tryz.prog (zeh zaD) :=
 okC (A := ⟨[Qu zU, QM ZG], [], [], 0, [], [], []⟩) (exS := ⟨[.int .i64], []⟩) Tryz.f168 (memC QR (memC zay Zh)) (by kernel_rfl) (by kernel_rfl) fun x => by kernel_rfl
theorem zbR : zw Tryz.prog (QL Zq) :=
 okC (A := ⟨[zm ze, zbE ZX, zeh zaD, Qv ZA], [(7, [3])], [], 1, [(10, ⟨[6, 36], ⟨[.int .i64, .int .i64], [(0, .row 100)]⟩, [0, 1, 4], [], [0], 0, [6], ⟨[.int .i64], [(0, .row 100)]⟩, [0]⟩)], [(17, ⟨[6], ⟨[.int .i64], [(0, .row 100)]⟩, [1], [], [0], 0, [], ⟨[], []⟩, []⟩), (19, ⟨[6], ⟨[.int .i64], []⟩, [], [0], [], 0, [], ⟨[], []⟩, []⟩)], []⟩) (exS := ⟨[.own 1], [(0, .row 100), (1, .sl 5)]⟩) Tryz.f125 (memC zn (memC zdS (memC zf6 (memC QS Zh)))) (by kernel_rfl) (by kernel_rfl) fun x => by kernel_rfl
theorem zbt : zw Tryz.prog (Ql Zg) :=
 okC (A := ⟨[], [(2, [1]), (4, [9]), (7, [14]), (9, [19])], [], 1, [], [(7, ⟨[25], ⟨[.bool], [(0, .sl 5)]⟩, [0, 1, 5], [], [0], 0, [], ⟨[], []⟩, []⟩)], []⟩) (exS := ⟨[.own 1], [(1, .sl 5)]⟩) Tryz.f202 Zh (by kernel_rfl) (by kernel_rfl) fun x => by kernel_rfl
theorem zdT : zw Tryz.prog (zbF ZY) :=
 okC (A := ⟨[Ql Zg], [(2, [3])], [], 1, [], [], []⟩) (exS := ⟨[.own 1], [(1, .sl 5)]⟩) Tryz.f167 (memC zbt Zh) (by kernel_rfl) (by kernel_rfl) fun x => by kernel_rfl
theorem qc : zw Tryz.prog (ZC zA) :=
 okC (A := ⟨[zm ze, zbF ZY, zeh zaD, Qv ZA], [(7, [3])], [], 2, [(10, ⟨[6, 36], ⟨[.int .i64, .int .i64], [(0, .row 100)]⟩, [0, 1, 4], [1], [0], 0, [6], ⟨[.int .i64], [(0, .row 100)]⟩, [0]⟩)], [(17, ⟨[6], ⟨[.int .i64], [(0, .row 100), (1, .sl 5)]⟩, [1], [], [0, 1], 0, [], ⟨[], []⟩, []⟩), (19, ⟨[6], ⟨[.int .i64], [(1, .sl 5)]⟩, [], [0], [1], 0, [], ⟨[], []⟩, []⟩)], []⟩) (exS := ⟨[.own 2], [(0, .row 100), (2, .sl 5)]⟩) Tryz.f125 (memC zn (memC zdT (memC zf6 (memC QS Zh)))) (by kernel_rfl) (by kernel_rfl) fun x => by kernel_rfl
theorem zcK : zw Tryz.prog (zaH ZP) :=
 okC (A := ⟨[zm ze, ZC zA], [(5, [3])], [], 1, [(4, ⟨[4], ⟨[.own 1835], [(0, .row 100), (1, .row 51), (1835, .sl 5)]⟩, [0, 2, 3], [], [0, 1], 0, [4], ⟨[.own 1835], [(0, .row 100), (1, .row 51), (1835, .sl 5)]⟩, [0, 1, 1835]⟩)], [], []⟩) (exS := ⟨[.optr 1], [(0, .row 100), (1, .row 51)]⟩) Tryz.f151 (memC zn (memC qc Zh)) (by kernel_rfl) (by kernel_rfl) fun x => by kernel_rfl
theorem zeb : zw Tryz.prog (zcw Qr) :=
 okC (A := ⟨[QM ZG], [], [], 0, [], [], []⟩) (exS := ⟨[.bool], []⟩) Tryz.f122 (memC zay Zh) (by kernel_rfl) (by kernel_rfl) fun x => by kernel_rfl
theorem zdm : zw Tryz.prog (zb5 Qs) :=
 okC (A := ⟨[zcw Qr, Qu zU], [], [], 0, [], [], []⟩) (exS := ⟨[.bool], []⟩) Tryz.f124 (memC zeb (memC QR Zh)) (by kernel_rfl) (by kernel_rfl) fun x => by kernel_rfl
theorem Zp : zw Tryz.prog (Zc zt) :=
 okC (A := ⟨[zm ze], [], [], 1, [], [], []⟩) (exS := ⟨[.bool], []⟩) Tryz.f123 (memC zn Zh) (by kernel_rfl) (by kernel_rfl) fun x => by kernel_rfl
theorem za2 : zw Tryz.prog (QF zV) :=
 okC (A := ⟨[zm ze, zcw Qr, Zc zt], [], [], 1, [], [], []⟩) (exS := ⟨[.bool], []⟩) Tryz.f69 (memC zn (memC zeb (memC Zp Zh))) (by kernel_rfl) (by kernel_rfl) fun x => by kernel_rfl
theorem Qq : zw Tryz.prog (qw zO) :=
 okC (A := ⟨[zm ze, zb5 Qs, Zc zt, ZC zA], [(5, [3])], [], 1, [(2, ⟨[3], ⟨[.own 1836], [(0, .row 100), (1836, .sl 5)]⟩, [0], [], [0], 0, [], ⟨[], []⟩, []⟩)], [], []⟩) (exS := ⟨[.str], [(0, .row 100)]⟩) Tryz.f70 (memC zn (memC zdm (memC Zp (memC qc Zh)))) (by kernel_rfl) (by kernel_rfl) fun x => by kernel_rfl
theorem zax : zw Tryz.prog (Qe zD) :=
 okC (A := ⟨[zm ze, Qu zU], [], [], 1, [], [(5, ⟨[3], ⟨[.int .i64], []⟩, [0], [], [], 0, [], ⟨[], []⟩, []⟩), (7, ⟨[3], ⟨[.int .i64], []⟩, [], [], [], 0, [], ⟨[], []⟩, []⟩)], []⟩) (exS := ⟨[.bool], []⟩) Tryz.f66 (memC zn (memC QR Zh)) (by kernel_rfl) (by kernel_rfl) fun x => by kernel_rfl
theorem zco : zw Tryz.prog (zan zu) :=
 okC (A := ⟨[zm ze, Qu zU], [], [], 1, [(0, ⟨[], ⟨[], [(0, .row 100)]⟩, [0, 1], [], [0], 0, [], ⟨[], [(0, .row 100)]⟩, [0]⟩)], [], []⟩) (exS := ⟨[], [(0, .row 100)]⟩) Tryz.f118 (memC zn (memC QR Zh)) (by kernel_rfl) (by kernel_rfl) fun x => by kernel_rfl
theorem zae : zw Tryz.prog (qM zI) :=
 okC (A := ⟨[zm ze, zan zu, Qu zU], [], [], 1, [], [(4, ⟨[], ⟨[], [(0, .row 100)]⟩, [0], [], [0], 0, [], ⟨[], []⟩, []⟩), (10, ⟨[4], ⟨[.bool], [(0, .row 100)]⟩, [], [], [0], 0, [], ⟨[], []⟩, []⟩), (15, ⟨[4, 5], ⟨[.bool, .int .i64], [(0, .row 100)]⟩, [], [], [0], 0, [], ⟨[], []⟩, []⟩), (19, ⟨[4], ⟨[.bool], [(0, .row 100)]⟩, [], [], [0], 0, [], ⟨[], []⟩, []⟩)], []⟩) (exS := ⟨[.bool], [(0, .row 100)]⟩) Tryz.f67 (memC zn (memC zco (memC QR Zh))) (by kernel_rfl) (by kernel_rfl) fun x => by kernel_rfl
theorem zbe : zw Tryz.prog (QW Zb) :=
 okC (A := ⟨[zmE zfe, zgK za1, zrf cutF], [], [], 0, [(8, ⟨[6, 31], ⟨[.int .i64, .int .i64], []⟩, [0, 2, 3, 4, 5, 29, 30], [0], [], 0, [6], ⟨[.int .i64], []⟩, []⟩), (22, ⟨[12, 81], ⟨[.int .i64, .int .i64], []⟩, [4, 79, 80], [0], [], 2, [12], ⟨[.int .i64], []⟩, []⟩), (26, ⟨[4, 12], ⟨[.int .i64, .int .i64], []⟩, [], [], [], 4, [12], ⟨[.int .i64], []⟩, []⟩)], [(14, ⟨[0, 4, 6], ⟨[.str, .int .i64, .int .i64], []⟩, [3, 5], [], [], 0, [], ⟨[], []⟩, []⟩), (15, ⟨[0, 4], ⟨[.str, .int .i64], []⟩, [3], [], [], 0, [], ⟨[], []⟩, []⟩), (20, ⟨[0, 4], ⟨[.str, .int .i64], []⟩, [], [], [], 0, [], ⟨[], []⟩, []⟩), (31, ⟨[12], ⟨[.int .i64], []⟩, [], [], [], 0, [], ⟨[], []⟩, []⟩)], []⟩) (exS := ⟨[.int .i64], []⟩) Tryz.f68 (memC zpo (memC zlf (memC zrW Zh))) (by kernel_rfl) (by kernel_rfl) fun x => by kernel_rfl
theorem zcn : zw Tryz.prog (zam ZF) :=
 okC (A := ⟨[qM zI, QW Zb, QF zV, qw zO, zm ze], [], [], 1, [], [(9, ⟨[], ⟨[], [(0, .row 100), (1, .row 51), (2, .row 51)]⟩, [2, 5], [], [0, 1, 2], 0, [], ⟨[], []⟩, []⟩)], []⟩) (exS := ⟨[.optr 1], [(0, .row 100), (1, .row 51)]⟩) Tryz.f152 (memC zae (memC zbe (memC za2 (memC Qq (memC zn Zh))))) (by kernel_rfl) (by kernel_rfl) fun x => by kernel_rfl
theorem zdQ : zw Tryz.prog (zbC Zz) :=
 okC (A := ⟨[zm ze, Zc zt, QL Zq], [], [], 1, [(1, ⟨[], ⟨[], [(0, .row 100), (1, .row 51)]⟩, [0, 2], [], [0, 1], 0, [], ⟨[], []⟩, []⟩)], [], []⟩) (exS := ⟨[.optr 1], [(0, .row 100), (1, .row 51)]⟩) Tryz.f216 (memC zn (memC Zp (memC zbR Zh))) (by kernel_rfl) (by kernel_rfl) fun x => by kernel_rfl
theorem zdR : zw Tryz.prog (zbD qF) :=
 okC (A := ⟨[qf zK, zm ze, Qv ZA, zbC Zz, QM ZG, Zc zt, ZC zA], [(18, [3])], [], 1, [(3, ⟨[3], ⟨[.own 1837], [(0, .row 100), (1, .row 51), (1837, .sl 5)]⟩, [0, 2], [], [0, 1], 0, [], ⟨[], []⟩, []⟩)], [(10, ⟨[3, 4], ⟨[.own 1837, .int .i64], [(0, .row 100), (1, .row 51), (1837, .sl 5)]⟩, [], [], [0, 1, 1837], 0, [], ⟨[], []⟩, []⟩)], []⟩) (exS := ⟨[.optr 1], [(0, .row 100), (1, .row 51)]⟩) Tryz.f196 (memC Qf (memC zn (memC QS (memC zdQ (memC zay (memC Zp (memC qc Zh))))))) (by kernel_rfl) (by kernel_rfl) fun x => by kernel_rfl
theorem zcU : zw Tryz.prog (za0 Z6) :=
 okC (A := ⟨[qw zO, zm ze, zcv Q0, qf zK, zbD qF], [], [], 1, [], [(11, ⟨[], ⟨[], [(0, .row 100), (1, .row 51)]⟩, [2, 3], [], [0, 1], 0, [], ⟨[], []⟩, []⟩)], []⟩) (exS := ⟨[.optr 1], [(0, .row 100), (1, .row 51)]⟩) Tryz.f153 (memC Qq (memC zn (memC zea (memC Qf (memC zdR Zh))))) (by kernel_rfl) (by kernel_rfl) fun x => by kernel_rfl
theorem zdn : zw Tryz.prog (zbb qo) :=
 okC (A := ⟨[zm ze, Qv ZA, qf zK, zaH ZP, zb5 Qs, Zc zt, QF zV, qw zO, Qe zD, zam ZF, Zj strings_HasPrefix, za0 Z6, ZZ strings_IndexByte], [], [], 1, [], [], []⟩) (exS := ⟨[.optr 1], [(0, .row 100), (1, .row 51)]⟩) Tryz.f104 (memC zn (memC QS (memC Qf (memC zcK (memC zdm (memC Zp (memC za2 (memC Qq (memC zax (memC zcn (memC Zv (memC zcU (memC qx Zh))))))))))))) (by kernel_rfl) (by kernel_rfl) fun x => by kernel_rfl
theorem zeu : zw Tryz.prog (zbW Qa) :=
 okC (A := ⟨[], [(1, [2])], [], 2, [], [], []⟩) (exS := ⟨[], [(0, .cells 41 [.own 2]), (2, .sl 51)]⟩) Tryz.f57 Zh (by kernel_rfl) (by kernel_rfl) fun x => by kernel_rfl
theorem zhs : zw Tryz.prog (zdZ za4) :=
 okC (A := ⟨[zmD zgO, zaa Zd, zbb qo, zbW Qa], [], [], 1, [(7, ⟨[7], ⟨[.int .i64], [(0, .cells 41 [.own 1838]), (1838, .sl 51), (1, .row 100)]⟩, [0, 1, 6], [], [0, 1], 0, [], ⟨[], [(0, .cells 41 [.own 1838]), (1838, .sl 51), (1, .row 100)]⟩, [0, 1, 1838]⟩)], [], []⟩) (exS := ⟨[.int .i64], [(0, .cells 41 [.own 1]), (1, .sl 51)]⟩) Tryz.f56 (memC zpn (memC zca (memC zdn (memC zeu Zh)))) (by kernel_rfl) (by kernel_rfl) fun x => by kernel_rfl
theorem zhr : zw Tryz.prog (zdY za3) :=
 okC (A := ⟨[zdZ za4], [], [], 0, [], [], []⟩) (exS := ⟨[.sl 51, .int .i64], []⟩) Tryz.f24 (memC zhs Zh) (by kernel_rfl) (by kernel_rfl) fun x => by kernel_rfl
theorem zdk : zw Tryz.prog (za9 ql) :=
 okC (A := ⟨[], [], [], 0, [(4, ⟨[13], ⟨[.int .i64], []⟩, [0, 1, 12], [], [], 0, [], ⟨[], []⟩, []⟩)], [], []⟩) (exS := ⟨[.bool], []⟩) Tryz.f55 Zh (by kernel_rfl) (by kernel_rfl) fun x => by kernel_rfl
theorem zjJ : zw Tryz.prog (zfY zci) :=
 okC (A := ⟨[zfX zaK, zc1 zaM, zeE zbJ, zdY za3, za9 ql], [(24, [5])], [], 0, [(7, ⟨[5, 6, 7], ⟨[.own 1940, .own 1941, .int .i64], [(1940, .sl 5), (1941, .sl 89)]⟩, [0], [], [], 0, [5], ⟨[.own 1940], [(1940, .sl 5)]⟩, [1940]⟩), (11, ⟨[9, 36], ⟨[.own 1521, .int .i64], [(1521, .sl 5)]⟩, [5, 6, 7, 8, 34, 35], [1940, 1941], [], 2, [9], ⟨[.own 1521], [(1521, .sl 5)]⟩, [1521]⟩)], [(17, ⟨[5, 6, 7, 9], ⟨[.own 1940, .own 1941, .int .i64, .own 2043], [(1940, .sl 5), (1941, .sl 89), (2043, .sl 5)]⟩, [8], [], [1940, 1941], 0, [], ⟨[], []⟩, []⟩), (21, ⟨[5, 6, 7], ⟨[.own 1940, .own 1941, .int .i64], [(1940, .sl 5), (1941, .sl 89), (2044, .row 89)]⟩, [9, 12], [2043], [1940, 1941, 2044], 0, [], ⟨[], []⟩, []⟩), (24, ⟨[5, 6, 7], ⟨[.own 2148, .own 1941, .int .i64], [(1941, .sl 89), (2148, .sl 5)]⟩, [], [2044], [1941], 0, [], ⟨[], []⟩, []⟩)], []⟩) (exS := ⟨[.str, .int .i64], []⟩) Tryz.f23 (memC zjI (memC ze4 (memC zh6 (memC zhr (memC zdk Zh))))) (by kernel_rfl) (by kernel_rfl) fun x => by kernel_rfl
theorem zhq : zw Tryz.prog (zdX zL) :=
 okC (A := ⟨[zfY zci], [], [], 0, [], [], []⟩) (exS := ⟨[.bool], []⟩) Tryz.f29 (memC zjJ Zh) (by kernel_rfl) (by kernel_rfl) fun x => by kernel_rfl
theorem zh8 : zw Tryz.prog (zeG Q3) :=
 okC (A := ⟨[zeH Qp, zdX zL], [(1, [1, 5, 10, 16, 22, 27])], [], 0, [], [], []⟩) (exS := ⟨[.bool], []⟩) Tryz.f22 (memC zh9 (memC zhq Zh)) (by kernel_rfl) (by kernel_rfl) fun x => by kernel_rfl
theorem zmj : zw Tryz.prog (zim zbX) :=
 okC (A := ⟨[zeg zao, zeD zbI], [], [], 0, [], [], []⟩) (exS := ⟨[.str, .int .i64], []⟩) Tryz.f34 (memC zf5 (memC zh5 Zh)) (by kernel_rfl) (by kernel_rfl) fun x => by kernel_rfl
theorem zia : zw Tryz.prog (zeI zbN) :=
 okC (A := ⟨[Qe zD, qM zI, QW Zb], [], [], 0, [], [], []⟩) (exS := ⟨[.int .i64, .bool, .int .i64], []⟩) Tryz.f37 (memC zax (memC zae (memC zbe Zh))) (by kernel_rfl) (by kernel_rfl) fun x => by kernel_rfl
theorem zdP : zw Tryz.prog (zbB Qw) :=
 okC (A := ⟨[zeG Q3, zim zbX, zeI zbN], [], [], 0, [(11, ⟨[13, 14], ⟨[.int .i64, .int .i64], []⟩, [1, 4, 6, 11], [], [], 0, [13], ⟨[.int .i64], []⟩, []⟩)], [(12, ⟨[13, 14], ⟨[.int .i64, .int .i64], []⟩, [], [], [], 0, [], ⟨[], []⟩, []⟩)], []⟩) (exS := ⟨[.bool], []⟩) Tryz.f9 (memC zh8 (memC zmj (memC zia Zh))) (by kernel_rfl) (by kernel_rfl) fun x => by kernel_rfl
end Go.Lv.VT
