/- Contracts. -/
import Derived.Test.YtnfhfeipljhciaaGreatDoorTx
import Derived.Test.YtnfhfeipljhciaaGreatDoorIp
import Derived.Test.YtnfhfeipljhciaaGreatDoorLf
import Derived.Test.YtnfhfeipljhciaaGreatDoorGa
namespace Go.Lv.VT
set_option maxRecDepth 100000
open Go.Proofs
theorem okC {con : Con I} {A : Env0 I} {exS : StSh} (f : Go.Func) (hS : ∀ c ∈ A.S, zy Tryz.prog c) (hf : Tryz.prog.funcs[con.f]? = some f) (h : chk con A f = true) (he : ∀ x, evF2 A T FK f.ntmps (rsl f) (body f) con exS x = con.F x) : zy Tryz.prog con :=
 okC0 mixed ipOK tok rfl rfl hS hf h he
noncomputable def zcD (F : Str → Option ze) : Con I := ⟨31, ⟨[.str], []⟩, [], ⟨[.val 51], []⟩, 0, F⟩
noncomputable def ZG (F : Str × Int → Option Int) : Con I := ⟨59, ⟨[.str, .int .u8], []⟩, [], ⟨[.int .i64], []⟩, 0, F⟩
noncomputable def qX (F : Str × Str → Option Bool) : Con I := ⟨126, ⟨[.str, .str], []⟩, [], ⟨[.bool], []⟩, 0, F⟩
noncomputable def zae (F : Str × Str → Option Str) : Con I := ⟨191, ⟨[.str, .str], []⟩, [], ⟨[.str], []⟩, 0, F⟩
noncomputable def za9 (F : Str × Str → Option Str) : Con I := ⟨146, ⟨[.str, .str], []⟩, [], ⟨[.str], []⟩, 0, F⟩
noncomputable def zad (F : Int → Option Bool) : Con I := ⟨108, ⟨[.int .u8], []⟩, [], ⟨[.bool], []⟩, 0, F⟩
noncomputable def zaT (F : Str → Option Bool) : Con I := ⟨100, ⟨[.str], []⟩, [], ⟨[.bool], []⟩, 0, F⟩
noncomputable def Zl (F : Str × Str → Option Bool) : Con I := ⟨76, ⟨[.str, .str], []⟩, [], ⟨[.bool], []⟩, 0, F⟩
noncomputable def zcz (F : Int → Option Bool) : Con I := ⟨141, ⟨[.int .u8], []⟩, [], ⟨[.bool], []⟩, 0, F⟩
noncomputable def zbV (F : Int → Option Bool) : Con I := ⟨105, ⟨[.int .u8], []⟩, [], ⟨[.bool], []⟩, 0, F⟩
noncomputable def zbW (F : Str × Str → Option Bool) : Con I := ⟨106, ⟨[.str, .str], []⟩, [], ⟨[.bool], []⟩, 0, F⟩
noncomputable def zen (F : ze → Option Bool) : Con I := ⟨58, ⟨[.val 51], []⟩, [], ⟨[.bool], []⟩, 0, F⟩
noncomputable def zd1 (F : (Int × Int) × List ze → Option Bool) : Con I := ⟨97, ⟨[.int .i64, .int .u8, .optr 0], [(0, .row 41)]⟩, [0], ⟨[.bool], []⟩, 0, F⟩
noncomputable def zeJ (F : Str → Option Str) : Con I := ⟨77, ⟨[.str], []⟩, [], ⟨[.str], []⟩, 0, F⟩
noncomputable def zcC (F : Str × Str → Option Bool) : Con I := ⟨78, ⟨[.str, .str], []⟩, [], ⟨[.bool], []⟩, 0, F⟩
noncomputable def zc9 (F : List ze → Option Int) : Con I := ⟨53, ⟨[.sl 51], []⟩, [], ⟨[.int .i64], []⟩, 0, F⟩
noncomputable def zbT (F : List ze → Option Int) : Con I := ⟨26, ⟨[.sl 51], []⟩, [], ⟨[.int .i64], []⟩, 0, F⟩
noncomputable def zbU (F : Str → Option Int) : Con I := ⟨61, ⟨[.str], []⟩, [], ⟨[.int .i64], []⟩, 0, F⟩
noncomputable def Qt (F : Int × List UInt8 → Option (List UInt8)) : Con I := ⟨98, ⟨[.own 0, .int .u8], [(0, .sl 5)]⟩, [], ⟨[.own 1], [(1, .sl 5)]⟩, 1, F⟩
noncomputable def zcA (F : Str × Int → Option (List UInt8)) : Con I := ⟨60, ⟨[.nilv, .str, .int .i64], []⟩, [], ⟨[.own 0], [(0, .sl 5)]⟩, 1, F⟩
noncomputable def zcB (F : (Str × Int) × List UInt8 → Option (List UInt8)) : Con I := ⟨60, ⟨[.own 0, .str, .int .i64], [(0, .sl 5)]⟩, [], ⟨[.own 1], [(1, .sl 5)]⟩, 1, F⟩
noncomputable def zc7 (F : Int × Bool → Option (List UInt8)) : Con I := ⟨99, ⟨[.nilv, .int .i64, .bool], []⟩, [], ⟨[.own 0], [(0, .sl 5)]⟩, 1, F⟩
noncomputable def zc6 (F : Unit → Option qw) : Con I := ⟨101, ⟨[], []⟩, [], ⟨[.val 130], []⟩, 0, F⟩
noncomputable def zeH (F : ze → Option (List UInt8)) : Con I := ⟨54, ⟨[.nilv, .val 51], []⟩, [], ⟨[.own 0], [(0, .sl 5)]⟩, 1, F⟩
noncomputable def zc8 (F : (Int × Bool) × List UInt8 → Option (List UInt8)) : Con I := ⟨99, ⟨[.own 0, .int .i64, .bool], [(0, .sl 5)]⟩, [], ⟨[.own 1], [(1, .sl 5)]⟩, 1, F⟩
noncomputable def zeI (F : ze × List UInt8 → Option (List UInt8)) : Con I := ⟨54, ⟨[.own 0, .val 51], [(0, .sl 5)]⟩, [], ⟨[.own 1], [(1, .sl 5)]⟩, 1, F⟩
noncomputable def zaf (F : za → Option za) : Con I := ⟨103, ⟨[.optr 0], [(0, .row 100)]⟩, [], ⟨[], [(0, .row 100)]⟩, 0, F⟩
noncomputable def zn (F : Int × za → Option Int) : Con I := ⟨116, ⟨[.optr 0, .int .i64], [(0, .row 100)]⟩, [0], ⟨[.int .i64], []⟩, 0, F⟩
noncomputable def QG (F : Int → Option Bool) : Con I := ⟨150, ⟨[.int .i64], []⟩, [], ⟨[.bool], []⟩, 0, F⟩
noncomputable def qx (F : za → Option za) : Con I := ⟨118, ⟨[.optr 0, .clo 150 []], [(0, .row 100)]⟩, [], ⟨[], [(0, .row 100)]⟩, 0, F⟩
noncomputable def Qu (F : Int → Option (List UInt8)) : Con I := ⟨202, ⟨[.nilv, .int .i32], []⟩, [], ⟨[.own 0], [(0, .sl 5)]⟩, 1, F⟩
noncomputable def zbD (F : Int → Option (List UInt8)) : Con I := ⟨167, ⟨[.nilv, .int .i32], []⟩, [], ⟨[.own 0], [(0, .sl 5)]⟩, 1, F⟩
noncomputable def QU (F : Int × Int × Int → Option Bool) : Con I := ⟨158, ⟨[.int .i64, .int .i64, .int .i64], []⟩, [], ⟨[.bool], []⟩, 0, F⟩
noncomputable def QF (F : Int → Option Bool) : Con I := ⟨117, ⟨[.int .i64], []⟩, [], ⟨[.bool], []⟩, 0, F⟩
noncomputable def zeo (F : Int → Option Int) : Con I := ⟨168, ⟨[.int .i64], []⟩, [], ⟨[.int .i64], []⟩, 0, F⟩
noncomputable def QT (F : za → Option (za × List UInt8)) : Con I := ⟨125, ⟨[.optr 0, .nilv], [(0, .row 100)]⟩, [], ⟨[.own 1], [(0, .row 100), (1, .sl 5)]⟩, 1, F⟩
noncomputable def Qv (F : Int × List UInt8 → Option (List UInt8)) : Con I := ⟨202, ⟨[.own 0, .int .i32], [(0, .sl 5)]⟩, [], ⟨[.own 1], [(1, .sl 5)]⟩, 1, F⟩
noncomputable def zbE (F : Int × List UInt8 → Option (List UInt8)) : Con I := ⟨167, ⟨[.own 0, .int .i32], [(0, .sl 5)]⟩, [], ⟨[.own 1], [(1, .sl 5)]⟩, 1, F⟩
noncomputable def ZL (F : za × List UInt8 → Option (za × List UInt8)) : Con I := ⟨125, ⟨[.optr 0, .own 1], [(0, .row 100), (1, .sl 5)]⟩, [], ⟨[.own 2], [(0, .row 100), (2, .sl 5)]⟩, 1, F⟩
noncomputable def zaI (F : za → Option (ze × za)) : Con I := ⟨151, ⟨[.optr 0], [(0, .row 100)]⟩, [], ⟨[.val 51], [(0, .row 100)]⟩, 0, F⟩
noncomputable def zcE (F : Int → Option Bool) : Con I := ⟨122, ⟨[.int .i64], []⟩, [], ⟨[.bool], []⟩, 0, F⟩
noncomputable def zb8 (F : Int → Option Bool) : Con I := ⟨124, ⟨[.int .i64], []⟩, [], ⟨[.bool], []⟩, 0, F⟩
noncomputable def Zd (F : Int × za → Option Bool) : Con I := ⟨123, ⟨[.optr 0, .int .i64], [(0, .row 100)]⟩, [0], ⟨[.bool], []⟩, 0, F⟩
noncomputable def QN (F : Int × za → Option Bool) : Con I := ⟨69, ⟨[.optr 0, .int .i64], [(0, .row 100)]⟩, [0], ⟨[.bool], []⟩, 0, F⟩
noncomputable def qE (F : za → Option (Str × za)) : Con I := ⟨70, ⟨[.optr 0], [(0, .row 100)]⟩, [], ⟨[.str], [(0, .row 100)]⟩, 0, F⟩
noncomputable def zaH (F : za → Option Bool) : Con I := ⟨66, ⟨[.optr 0], [(0, .row 100)]⟩, [0], ⟨[.bool], []⟩, 0, F⟩
noncomputable def zao (F : za → Option za) : Con I := ⟨118, ⟨[.optr 0, .clo 117 []], [(0, .row 100)]⟩, [], ⟨[], [(0, .row 100)]⟩, 0, F⟩
noncomputable def zam (F : za → Option (Bool × za)) : Con I := ⟨67, ⟨[.optr 0], [(0, .row 100)]⟩, [], ⟨[.bool], [(0, .row 100)]⟩, 0, F⟩
noncomputable def zbC (F : Str → Option Int) : Con I := ⟨68, ⟨[.str], []⟩, [], ⟨[.int .i64], []⟩, 0, F⟩
noncomputable def zan (F : za → Option (ze × za)) : Con I := ⟨152, ⟨[.optr 0], [(0, .row 100)]⟩, [], ⟨[.val 51], [(0, .row 100)]⟩, 0, F⟩
noncomputable def zbA (F : za → Option (ze × za)) : Con I := ⟨216, ⟨[.optr 0], [(0, .row 100)]⟩, [], ⟨[.val 51], [(0, .row 100)]⟩, 0, F⟩
noncomputable def zbB (F : za → Option (ze × za)) : Con I := ⟨196, ⟨[.optr 0], [(0, .row 100)]⟩, [], ⟨[.val 51], [(0, .row 100)]⟩, 0, F⟩
noncomputable def zaY (F : za → Option (ze × za)) : Con I := ⟨153, ⟨[.optr 0], [(0, .row 100)]⟩, [], ⟨[.val 51], [(0, .row 100)]⟩, 0, F⟩
noncomputable def zba (F : za → Option (ze × za)) : Con I := ⟨104, ⟨[.optr 0], [(0, .row 100)]⟩, [], ⟨[.val 51], [(0, .row 100)]⟩, 0, F⟩
noncomputable def zbX (F : (ze × Int × Int) × List ze → Option (List ze)) : Con I := ⟨57, ⟨[.val 51, .int .i64, .int .i64, .optr 0], [(0, .cells 41 [.own 1]), (1, .sl 51)]⟩, [], ⟨[], [(0, .cells 41 [.own 2]), (2, .sl 51)]⟩, 1, F⟩
noncomputable def zd3 (F : Str → Option (Int × List ze)) : Con I := ⟨56, ⟨[.str, .clo 57 [0]], [(0, .cells 41 [.nilv])]⟩, [], ⟨[.int .i64], [(0, .cells 41 [.own 1]), (1, .sl 51)]⟩, 1, F⟩
noncomputable def zd2 (F : Str → Option (List ze × Int)) : Con I := ⟨24, ⟨[.str], []⟩, [], ⟨[.sl 51, .int .i64], []⟩, 0, F⟩
noncomputable def za8 (F : List ze × List ze → Option Bool) : Con I := ⟨55, ⟨[.sl 51, .sl 51], []⟩, [], ⟨[.bool], []⟩, 0, F⟩
noncomputable def zc5 (F : List ze → Option (Str × Int)) : Con I := ⟨23, ⟨[.sl 51], []⟩, [], ⟨[.str, .int .i64], []⟩, 0, F⟩
noncomputable def zb7 (F : Str × List ze → Option Bool) : Con I := ⟨29, ⟨[.str, .sl 51], []⟩, [], ⟨[.bool], []⟩, 0, F⟩
noncomputable def zeK (F : Unit → Option Bool) : Con I := ⟨22, ⟨[], []⟩, [], ⟨[.bool], []⟩, 0, F⟩
noncomputable def zh4 (F : ze → Option (Str × Int)) : Con I := ⟨34, ⟨[.val 51], []⟩, [], ⟨[.str, .int .i64], []⟩, 0, F⟩
noncomputable def zgD (F : ze → Option Bool) : Con I := ⟨28, ⟨[.val 51], []⟩, [], ⟨[.bool], []⟩, 0, F⟩
noncomputable def zeL (F : Str → Option ze) : Con I := ⟨30, ⟨[.str], []⟩, [], ⟨[.val 51], []⟩, 0, F⟩
noncomputable def zgB (F : Str → Option (Str × Int)) : Con I := ⟨32, ⟨[.str], []⟩, [], ⟨[.str, .int .i64], []⟩, 0, F⟩
noncomputable def zfo (F : Unit → Option Bool) : Con I := ⟨7, ⟨[], []⟩, [], ⟨[.bool], []⟩, 0, F⟩
noncomputable def zmd (F : Str → Option (Str × Int)) : Con I := ⟨102, ⟨[.str], []⟩, [], ⟨[.str, .int .i64], []⟩, 0, F⟩
theorem zoJ : zy Tryz.prog (zmd zgH) := zog
noncomputable def zjW (F : Str × Int → Option Int) : Con I := ⟨107, ⟨[.str, .int .u8], []⟩, [], ⟨[.int .i64], []⟩, 0, F⟩
theorem znp : zy Tryz.prog (zjW zet) := znb
noncomputable def ziP (F : Str × Str → Option Int) : Con I := ⟨149, ⟨[.str, .str], []⟩, [], ⟨[.int .i64], []⟩, 0, F⟩
theorem zkP : zy Tryz.prog (ziP zeT) := zoh
noncomputable def zme (F : Str × Str → Option Str) : Con I := ⟨119, ⟨[.str, .str], []⟩, [], ⟨[.str], []⟩, 0, F⟩
theorem zoK : zy Tryz.prog (zme zhx) := zoi
noncomputable def ziQ (F : Str × Str → Option Str) : Con I := ⟨144, ⟨[.str, .str], []⟩, [], ⟨[.str], []⟩, 0, F⟩
theorem zkR : zy Tryz.prog (ziQ zej) := zoj
noncomputable def zgC (F : Str × Str → Option Int) : Con I := ⟨120, ⟨[.str, .str], []⟩, [], ⟨[.int .i64], []⟩, 0, F⟩
theorem zkO : zy Tryz.prog (zgC zcm) := zkm
noncomputable def zqc (F : Str × Str → Option (Str × Str × Bool)) : Con I := ⟨121, ⟨[.str, .str], []⟩, [], ⟨[.str, .str, .bool], []⟩, 0, F⟩
theorem zqO : zy Tryz.prog (zqc cutF) := zqC
noncomputable def zgA (F : Int × Int → Option Str) : Con I := ⟨145, ⟨[.int .i64, .int .i64], []⟩, [], ⟨[.str], []⟩, 0, F⟩
theorem ziB : zy Tryz.prog (zgA zdg) := zna
noncomputable def zh3 (F : (Int × Int) × List UInt8 → Option (List UInt8)) : Con I := ⟨142, ⟨[.own 0, .int .u64, .int .i64], [(0, .sl 5)]⟩, [], ⟨[.own 1], [(1, .sl 5)]⟩, 1, F⟩
theorem zlV : zy Tryz.prog (zh3 zdD) := zlG
noncomputable def zfn (F : (Int × Int) × List UInt8 → Option (List UInt8)) : Con I := ⟨143, ⟨[.own 0, .int .i64, .int .i64], [(0, .sl 5)]⟩, [], ⟨[.own 1], [(1, .sl 5)]⟩, 1, F⟩
theorem zhf : zy Tryz.prog (zfn zbR) := zlF
theorem zeg : zy Tryz.prog (zcD Zn) :=
 okC (A := ⟨[], [], [], 0, [], [], []⟩) (exS := ⟨[.optr 0], [(0, .row 51)]⟩) Tryz.f31 Zc (by kernel_rfl) (by kernel_rfl) fun x => by kernel_rfl
theorem Z0 : zy Tryz.prog (ZG strings_IndexByte) :=
 okC (A := ⟨[zjW zet], [], [], 0, [], [], []⟩) (exS := ⟨[.int .i64], []⟩) Tryz.f59 (memC znp Zc) (by kernel_rfl) (by kernel_rfl) fun x => by kernel_rfl
theorem zaj : zy Tryz.prog (qX stringslite_HasPrefix) :=
 okC (A := ⟨[], [], [], 0, [], [], []⟩) (exS := ⟨[.bool], []⟩) Tryz.f126 Zc (by kernel_rfl) (by kernel_rfl) fun x => by kernel_rfl
theorem zcd : zy Tryz.prog (zae stringslite_TrimPrefix) :=
 okC (A := ⟨[qX stringslite_HasPrefix], [], [], 0, [], [], []⟩) (exS := ⟨[.str], []⟩) Tryz.f191 (memC zaj Zc) (by kernel_rfl) (by kernel_rfl) fun x => by kernel_rfl
theorem zdr : zy Tryz.prog (za9 strings_TrimPrefix) :=
 okC (A := ⟨[zae stringslite_TrimPrefix], [], [], 0, [], [], []⟩) (exS := ⟨[.str], []⟩) Tryz.f146 (memC zcd Zc) (by kernel_rfl) (by kernel_rfl) fun x => by kernel_rfl
theorem zax : zy Tryz.prog (zad ZH) :=
 okC (A := ⟨[], [], [], 0, [], [], []⟩) (exS := ⟨[.bool], []⟩) Tryz.f108 Zc (by kernel_rfl) (by kernel_rfl) fun x => by kernel_rfl
theorem zbL : zy Tryz.prog (zaT ZM) :=
 okC (A := ⟨[za9 strings_TrimPrefix, zad ZH], [], [], 0, [], [], []⟩) (exS := ⟨[.bool], []⟩) Tryz.f100 (memC zdr (memC zax Zc)) (by kernel_rfl) (by kernel_rfl) fun x => by kernel_rfl
theorem ZB : zy Tryz.prog (Zl strings_HasPrefix) :=
 okC (A := ⟨[qX stringslite_HasPrefix], [], [], 0, [], [], []⟩) (exS := ⟨[.bool], []⟩) Tryz.f76 (memC zaj Zc) (by kernel_rfl) (by kernel_rfl) fun x => by kernel_rfl
theorem zec : zy Tryz.prog (zcz Q8) :=
 okC (A := ⟨[], [], [], 0, [], [], []⟩) (exS := ⟨[.bool], []⟩) Tryz.f141 Zc (by kernel_rfl) (by kernel_rfl) fun x => by kernel_rfl
theorem zcU : zy Tryz.prog (zbV Ql) :=
 okC (A := ⟨[zcz Q8, zad ZH], [], [], 0, [], [], []⟩) (exS := ⟨[.bool], []⟩) Tryz.f105 (memC zec (memC zax Zc)) (by kernel_rfl) (by kernel_rfl) fun x => by kernel_rfl
theorem zez : zy Tryz.prog (zbW strings_Contains) :=
 okC (A := ⟨[ziP zeT], [], [], 0, [], [], []⟩) (exS := ⟨[.bool], []⟩) Tryz.f106 (memC zkP Zc) (by kernel_rfl) (by kernel_rfl) fun x => by kernel_rfl
theorem zfY : zy Tryz.prog (zen zaq) :=
 okC (A := ⟨[ZG strings_IndexByte, zaT ZM, Zl strings_HasPrefix, zbV Ql, zbW strings_Contains], [], [], 0, [], [(8, ⟨[3, 4, 5, 6, 7, 25], ⟨[.bool, .bool, .bool, .bool, .bool, .bool], []⟩, [1, 16], [], [], 0, [], ⟨[], []⟩, []⟩), (14, ⟨[3, 4, 5, 6, 7, 63], ⟨[.bool, .bool, .bool, .bool, .bool, .bool], []⟩, [], [], [], 0, [], ⟨[], []⟩, []⟩), (22, ⟨[4, 5, 6, 7, 94], ⟨[.bool, .bool, .bool, .bool, .bool], []⟩, [3], [], [], 0, [], ⟨[], []⟩, []⟩), (24, ⟨[3, 4, 5, 6, 7], ⟨[.bool, .bool, .bool, .bool, .bool], []⟩, [1], [0], [], 0, [], ⟨[], []⟩, []⟩)], []⟩) (exS := ⟨[.bool], []⟩) Tryz.f58 (memC Z0 (memC zbL (memC ZB (memC zcU (memC zez Zc))))) (by kernel_rfl) (by kernel_rfl) fun x => by kernel_rfl
theorem zhg : zy Tryz.prog (zd1 ZN) :=
 okC (A := ⟨[], [], [], 1, [], [], []⟩) (exS := ⟨[.bool], []⟩) Tryz.f97 Zc (by kernel_rfl) (by kernel_rfl) fun x => by kernel_rfl
theorem zhT : zy Tryz.prog (zeJ Qz) :=
 okC (A := ⟨[], [], [], 0, [(3, ⟨[10], ⟨[.int .i64], [(0, .sl 5)]⟩, [2, 3, 8, 9], [], [0], 0, [], ⟨[], [(0, .sl 5)]⟩, [0]⟩)], [(7, ⟨[10], ⟨[.int .i64], [(0, .sl 5)]⟩, [], [], [0], 0, [], ⟨[], []⟩, []⟩)], []⟩) (exS := ⟨[.str], []⟩) Tryz.f77 Zc (by kernel_rfl) (by kernel_rfl) fun x => by kernel_rfl
theorem zef : zy Tryz.prog (zcC Qa) :=
 okC (A := ⟨[zeJ Qz], [], [], 0, [], [], []⟩) (exS := ⟨[.bool], []⟩) Tryz.f78 (memC zhT Zc) (by kernel_rfl) (by kernel_rfl) fun x => by kernel_rfl
theorem ze7 : zy Tryz.prog (zc9 qH) :=
 okC (A := ⟨[zd1 ZN, zcC Qa], [], [], 0, [], [(11, ⟨[5], ⟨[.int .i64], []⟩, [3], [0], [], 0, [], ⟨[], []⟩, []⟩)], []⟩) (exS := ⟨[.int .i64], []⟩) Tryz.f53 (memC zhg (memC zef Zc)) (by kernel_rfl) (by kernel_rfl) fun x => by kernel_rfl
theorem zcS : zy Tryz.prog (zbT zX) :=
 okC (A := ⟨[zen zaq, zc9 qH], [], [], 0, [(4, ⟨[10], ⟨[.int .i64], []⟩, [0, 8, 9], [], [], 0, [], ⟨[], []⟩, []⟩)], [], []⟩) (exS := ⟨[.int .i64], []⟩) Tryz.f26 (memC zfY (memC ze7 Zc)) (by kernel_rfl) (by kernel_rfl) fun x => by kernel_rfl
theorem zcT : zy Tryz.prog (zbU Zp) :=
 okC (A := ⟨[Zl strings_HasPrefix], [], [], 0, [], [], []⟩) (exS := ⟨[.int .i64], []⟩) Tryz.f61 (memC ZB Zc) (by kernel_rfl) (by kernel_rfl) fun x => by kernel_rfl
theorem Q6 : zy Tryz.prog (Qt zL) :=
 okC (A := ⟨[zad ZH, zcz Q8, zh3 zdD], [(2, [2]), (3, [1]), (5, [1])], [], 1, [], [], []⟩) (exS := ⟨[.own 1], [(1, .sl 5)]⟩) Tryz.f98 (memC zax (memC zec (memC zlV Zc))) (by kernel_rfl) (by kernel_rfl) fun x => by kernel_rfl
theorem zed : zy Tryz.prog (zcA Qw) :=
 okC (A := ⟨[zbV Ql, zad ZH, Qt zL], [(6, [2])], [], 0, [(2, ⟨[0, 11], ⟨[.own 1002, .int .i64], [(1002, .sl 5)]⟩, [1, 2, 6, 10], [], [], 0, [0], ⟨[.own 1002], [(1002, .sl 5)]⟩, [1002]⟩)], [(8, ⟨[0, 11], ⟨[.own 1104, .int .i64], [(1104, .sl 5)]⟩, [], [], [], 0, [], ⟨[], []⟩, []⟩)], []⟩) (exS := ⟨[.own 0], [(0, .sl 5)]⟩) Tryz.f60 (memC zcU (memC zax (memC Q6 Zc))) (by kernel_rfl) (by kernel_rfl) fun x => by kernel_rfl
theorem zee : zy Tryz.prog (zcB Zm) :=
 okC (A := ⟨[zbV Ql, zad ZH, Qt zL], [(6, [2])], [], 1, [(2, ⟨[0, 11], ⟨[.own 1106, .int .i64], [(1106, .sl 5)]⟩, [1, 2, 6, 10], [], [], 0, [0], ⟨[.own 1106], [(1106, .sl 5)]⟩, [1106]⟩)], [(8, ⟨[0, 11], ⟨[.own 1208, .int .i64], [(1208, .sl 5)]⟩, [], [], [], 0, [], ⟨[], []⟩, []⟩)], []⟩) (exS := ⟨[.own 1], [(1, .sl 5)]⟩) Tryz.f60 (memC zcU (memC zax (memC Q6 Zc))) (by kernel_rfl) (by kernel_rfl) fun x => by kernel_rfl
theorem zf5 : zy Tryz.prog (zc7 qY) :=
 okC (A := ⟨[zfn zbR, zgA zdg, ziQ zej], [(2, [1]), (6, [1])], [], 0, [], [(3, ⟨[0, 1], ⟨[.own 1417, .int .i64], [(1417, .sl 5)]⟩, [2], [], [], 0, [], ⟨[], []⟩, []⟩), (9, ⟨[0], ⟨[.own 1520], [(1520, .sl 5)]⟩, [], [], [], 0, [], ⟨[], []⟩, []⟩)], []⟩) (exS := ⟨[.own 0], [(0, .sl 5)]⟩) Tryz.f99 (memC zhf (memC ziB (memC zkR Zc))) (by kernel_rfl) (by kernel_rfl) fun x => by kernel_rfl
theorem ze6 : zy Tryz.prog (zc6 zaL) :=
 okC (A := ⟨[], [], [], 0, [], [], []⟩) (exS := ⟨[.optr 0], [(0, .row 130)]⟩) Tryz.f101 Zc (by kernel_rfl) (by kernel_rfl) fun x => by kernel_rfl
theorem zhR : zy Tryz.prog (zeH zbG) :=
 okC (A := ⟨[zbU Zp, zcA Qw, zcB Zm, ZG strings_IndexByte, Qt zL, zc7 qY, zaT ZM, Zl strings_HasPrefix, zc6 zaL], [(5, [7]), (7, [1]), (12, [1]), (14, [1]), (20, [2]), (22, [1]), (30, [2]), (32, [1]), (38, [4])], [], 0, [(16, ⟨[0, 67], ⟨[.own 1210, .int .i64], [(1210, .sl 5)]⟩, [3, 4, 65, 66], [0, 3], [], 1, [0], ⟨[.own 1210], [(1210, .sl 5)]⟩, [1210]⟩), (26, ⟨[0, 93], ⟨[.own 1314, .int .i64], [(1314, .sl 5)]⟩, [3, 4, 91, 92], [0, 2], [], 3, [0], ⟨[.own 1314], [(1314, .sl 5)]⟩, [1314]⟩)], [(12, ⟨[5], ⟨[.int .i64], []⟩, [0, 3], [0], [], 0, [], ⟨[], []⟩, []⟩), (21, ⟨[0, 67], ⟨[.own 1312, .int .i64], [(1312, .sl 5)]⟩, [], [], [], 0, [], ⟨[], []⟩, []⟩), (31, ⟨[0, 93], ⟨[.own 1416, .int .i64], [(1416, .sl 5)]⟩, [], [], [], 0, [], ⟨[], []⟩, []⟩)], []⟩) (exS := ⟨[.own 0], [(0, .sl 5)]⟩) Tryz.f54 (memC zcT (memC zed (memC zee (memC Z0 (memC Q6 (memC zf5 (memC zbL (memC ZB (memC ze6 Zc))))))))) (by kernel_rfl) (by kernel_rfl) fun x => by kernel_rfl
theorem zf6 : zy Tryz.prog (zc8 qZ) :=
 okC (A := ⟨[zfn zbR, zgA zdg, ziQ zej], [(2, [1]), (6, [1])], [], 1, [], [(3, ⟨[0, 1], ⟨[.own 1730, .int .i64], [(1730, .sl 5)]⟩, [2], [], [], 0, [], ⟨[], []⟩, []⟩), (9, ⟨[0], ⟨[.own 1833], [(1833, .sl 5)]⟩, [], [], [], 0, [], ⟨[], []⟩, []⟩)], []⟩) (exS := ⟨[.own 1], [(1, .sl 5)]⟩) Tryz.f99 (memC zhf (memC ziB (memC zkR Zc))) (by kernel_rfl) (by kernel_rfl) fun x => by kernel_rfl
theorem zhS : zy Tryz.prog (zeI Q9) :=
 okC (A := ⟨[zbU Zp, zcB Zm, ZG strings_IndexByte, Qt zL, zc8 qZ, zaT ZM, Zl strings_HasPrefix, zc6 zaL], [(5, [7]), (7, [1]), (12, [1]), (14, [1]), (20, [2]), (22, [1]), (30, [2]), (32, [1]), (38, [4])], [], 1, [(16, ⟨[0, 67], ⟨[.own 1523, .int .i64], [(1523, .sl 5)]⟩, [3, 4, 65, 66], [1, 4], [], 1, [0], ⟨[.own 1523], [(1523, .sl 5)]⟩, [1523]⟩), (26, ⟨[0, 93], ⟨[.own 1627, .int .i64], [(1627, .sl 5)]⟩, [3, 4, 91, 92], [1, 3], [], 3, [0], ⟨[.own 1627], [(1627, .sl 5)]⟩, [1627]⟩)], [(12, ⟨[5], ⟨[.int .i64], [(0, .sl 5)]⟩, [0, 3], [1], [0], 0, [], ⟨[], []⟩, []⟩), (21, ⟨[0, 67], ⟨[.own 1625, .int .i64], [(1625, .sl 5)]⟩, [], [], [], 0, [], ⟨[], []⟩, []⟩), (31, ⟨[0, 93], ⟨[.own 1729, .int .i64], [(1729, .sl 5)]⟩, [], [], [], 0, [], ⟨[], []⟩, []⟩)], []⟩) (exS := ⟨[.own 1], [(1, .sl 5)]⟩) Tryz.f54 (memC zcT (memC zee (memC Z0 (memC Q6 (memC zf6 (memC zbL (memC ZB (memC ze6 Zc)))))))) (by kernel_rfl) (by kernel_rfl) fun x => by kernel_rfl
theorem zce : zy Tryz.prog (zaf Ze) :=
 okC (A := ⟨[Zl strings_HasPrefix, ziP zeT], [], [], 1, [(0, ⟨[], ⟨[], [(0, .row 100)]⟩, [0], [], [0], 0, [], ⟨[], [(0, .row 100)]⟩, [0]⟩)], [], []⟩) (exS := ⟨[], [(0, .row 100)]⟩) Tryz.f103 (memC ZB (memC zkP Zc)) (by kernel_rfl) (by kernel_rfl) fun x => by kernel_rfl
theorem zq : zy Tryz.prog (zn zf) :=
 okC (A := ⟨[], [], [], 1, [], [], []⟩) (exS := ⟨[.int .i64], []⟩) Tryz.f116 Zc (by kernel_rfl) (by kernel_rfl) fun x => by kernel_rfl
theorem Q4 : zy Tryz.prog (QG ZJ) :=
 okC (A := ⟨[], [], [], 0, [], [], []⟩) (exS := ⟨[.bool], []⟩) Tryz.f150 Zc (by kernel_rfl) (by kernel_rfl) fun x => by kernel_rfl
theorem Qo : zy Tryz.prog (qx zG) :=
 okC (A := ⟨[zn zf, QG ZJ], [], [], 1, [(0, ⟨[], ⟨[], [(0, .row 100)]⟩, [0, 1], [], [0], 0, [], ⟨[], [(0, .row 100)]⟩, [0]⟩)], [], []⟩) (exS := ⟨[], [(0, .row 100)]⟩) Tryz.f118 (memC zq (memC Q4 Zc)) (by kernel_rfl) (by kernel_rfl) fun x => by kernel_rfl
theorem zbq : zy Tryz.prog (Qu Zh) :=
 okC (A := ⟨[], [(2, [1]), (4, [9]), (7, [14]), (9, [19])], [], 0, [], [(7, ⟨[25], ⟨[.bool], []⟩, [0, 1, 5], [], [], 0, [], ⟨[], []⟩, []⟩)], []⟩) (exS := ⟨[.own 0], [(0, .sl 5)]⟩) Tryz.f202 Zc (by kernel_rfl) (by kernel_rfl) fun x => by kernel_rfl
theorem zdX : zy Tryz.prog (zbD qb) :=
 okC (A := ⟨[Qu Zh], [(2, [3])], [], 0, [], [], []⟩) (exS := ⟨[.own 0], [(0, .sl 5)]⟩) Tryz.f167 (memC zbq Zc) (by kernel_rfl) (by kernel_rfl) fun x => by kernel_rfl
theorem zay : zy Tryz.prog (QU ZR) :=
 okC (A := ⟨[], [], [], 0, [], [], []⟩) (exS := ⟨[.bool], []⟩) Tryz.f158 Zc (by kernel_rfl) (by kernel_rfl) fun x => by kernel_rfl
theorem Q3 : zy Tryz.prog (QF Zy) :=
 okC (A := ⟨[QU ZR], [], [], 0, [], [], []⟩) (exS := ⟨[.bool], []⟩) Tryz.f117 (memC zay Zc) (by kernel_rfl) (by kernel_rfl) fun x => by kernel_rfl
theorem zfZ : zy Tryz.prog (zeo zaD) :=
 okC (A := ⟨[QF Zy, QU ZR], [], [], 0, [], [], []⟩) (exS := ⟨[.int .i64], []⟩) Tryz.f168 (memC Q3 (memC zay Zc)) (by kernel_rfl) (by kernel_rfl) fun x => by kernel_rfl
theorem zbP : zy Tryz.prog (QT Zz) :=
 okC (A := ⟨[zn zf, zbD qb, zeo zaD, QG ZJ], [(7, [3])], [], 1, [(10, ⟨[6, 36], ⟨[.int .i64, .int .i64], [(0, .row 100)]⟩, [0, 1, 4], [], [0], 0, [6], ⟨[.int .i64], [(0, .row 100)]⟩, [0]⟩)], [(17, ⟨[6], ⟨[.int .i64], [(0, .row 100)]⟩, [1], [], [0], 0, [], ⟨[], []⟩, []⟩), (19, ⟨[6], ⟨[.int .i64], []⟩, [], [0], [], 0, [], ⟨[], []⟩, []⟩)], []⟩) (exS := ⟨[.own 1], [(0, .row 100), (1, .sl 5)]⟩) Tryz.f125 (memC zq (memC zdX (memC zfZ (memC Q4 Zc)))) (by kernel_rfl) (by kernel_rfl) fun x => by kernel_rfl
theorem zbr : zy Tryz.prog (Qv Zi) :=
 okC (A := ⟨[], [(2, [1]), (4, [9]), (7, [14]), (9, [19])], [], 1, [], [(7, ⟨[25], ⟨[.bool], [(0, .sl 5)]⟩, [0, 1, 5], [], [0], 0, [], ⟨[], []⟩, []⟩)], []⟩) (exS := ⟨[.own 1], [(1, .sl 5)]⟩) Tryz.f202 Zc (by kernel_rfl) (by kernel_rfl) fun x => by kernel_rfl
theorem zdY : zy Tryz.prog (zbE qc) :=
 okC (A := ⟨[Qv Zi], [(2, [3])], [], 1, [], [], []⟩) (exS := ⟨[.own 1], [(1, .sl 5)]⟩) Tryz.f167 (memC zbr Zc) (by kernel_rfl) (by kernel_rfl) fun x => by kernel_rfl
theorem qp : zy Tryz.prog (ZL zB) :=
 okC (A := ⟨[zn zf, zbE qc, zeo zaD, QG ZJ], [(7, [3])], [], 2, [(10, ⟨[6, 36], ⟨[.int .i64, .int .i64], [(0, .row 100)]⟩, [0, 1, 4], [1], [0], 0, [6], ⟨[.int .i64], [(0, .row 100)]⟩, [0]⟩)], [(17, ⟨[6], ⟨[.int .i64], [(0, .row 100), (1, .sl 5)]⟩, [1], [], [0, 1], 0, [], ⟨[], []⟩, []⟩), (19, ⟨[6], ⟨[.int .i64], [(1, .sl 5)]⟩, [], [0], [1], 0, [], ⟨[], []⟩, []⟩)], []⟩) (exS := ⟨[.own 2], [(0, .row 100), (2, .sl 5)]⟩) Tryz.f125 (memC zq (memC zdY (memC zfZ (memC Q4 Zc)))) (by kernel_rfl) (by kernel_rfl) fun x => by kernel_rfl
theorem zcW : zy Tryz.prog (zaI Z5) :=
 okC (A := ⟨[zn zf, ZL zB], [(5, [3])], [], 1, [(4, ⟨[4], ⟨[.own 1835], [(0, .row 100), (1, .row 51), (1835, .sl 5)]⟩, [0, 2, 3], [], [0, 1], 0, [4], ⟨[.own 1835], [(0, .row 100), (1, .row 51), (1835, .sl 5)]⟩, [0, 1, 1835]⟩)], [], []⟩) (exS := ⟨[.optr 1], [(0, .row 100), (1, .row 51)]⟩) Tryz.f151 (memC zq (memC qp Zc)) (by kernel_rfl) (by kernel_rfl) fun x => by kernel_rfl
theorem zeh : zy Tryz.prog (zcE QC) :=
 okC (A := ⟨[QU ZR], [], [], 0, [], [], []⟩) (exS := ⟨[.bool], []⟩) Tryz.f122 (memC zay Zc) (by kernel_rfl) (by kernel_rfl) fun x => by kernel_rfl
theorem zds : zy Tryz.prog (zb8 QD) :=
 okC (A := ⟨[zcE QC, QF Zy], [], [], 0, [], [], []⟩) (exS := ⟨[.bool], []⟩) Tryz.f124 (memC zeh (memC Q3 Zc)) (by kernel_rfl) (by kernel_rfl) fun x => by kernel_rfl
theorem Zx : zy Tryz.prog (Zd zu) :=
 okC (A := ⟨[zn zf], [], [], 1, [], [], []⟩) (exS := ⟨[.bool], []⟩) Tryz.f123 (memC zq Zc) (by kernel_rfl) (by kernel_rfl) fun x => by kernel_rfl
theorem za1 : zy Tryz.prog (QN zS) :=
 okC (A := ⟨[zn zf, zcE QC, Zd zu], [], [], 1, [], [], []⟩) (exS := ⟨[.bool], []⟩) Tryz.f69 (memC zq (memC zeh (memC Zx Zc))) (by kernel_rfl) (by kernel_rfl) fun x => by kernel_rfl
theorem QB : zy Tryz.prog (qE zK) :=
 okC (A := ⟨[zn zf, zb8 QD, Zd zu, ZL zB], [(5, [3])], [], 1, [(2, ⟨[3], ⟨[.own 1836], [(0, .row 100), (1836, .sl 5)]⟩, [0], [], [0], 0, [], ⟨[], []⟩, []⟩)], [], []⟩) (exS := ⟨[.str], [(0, .row 100)]⟩) Tryz.f70 (memC zq (memC zds (memC Zx (memC qp Zc)))) (by kernel_rfl) (by kernel_rfl) fun x => by kernel_rfl
theorem zcV : zy Tryz.prog (zaH Z4) :=
 okC (A := ⟨[zn zf, QF Zy], [], [], 1, [], [(5, ⟨[3], ⟨[.int .i64], []⟩, [0], [], [], 0, [], ⟨[], []⟩, []⟩), (7, ⟨[3], ⟨[.int .i64], []⟩, [], [], [], 0, [], ⟨[], []⟩, []⟩)], []⟩) (exS := ⟨[.bool], []⟩) Tryz.f66 (memC zq (memC Q3 Zc)) (by kernel_rfl) (by kernel_rfl) fun x => by kernel_rfl
theorem zct : zy Tryz.prog (zao zW) :=
 okC (A := ⟨[zn zf, QF Zy], [], [], 1, [(0, ⟨[], ⟨[], [(0, .row 100)]⟩, [0, 1], [], [0], 0, [], ⟨[], [(0, .row 100)]⟩, [0]⟩)], [], []⟩) (exS := ⟨[], [(0, .row 100)]⟩) Tryz.f118 (memC zq (memC Q3 Zc)) (by kernel_rfl) (by kernel_rfl) fun x => by kernel_rfl
theorem zcr : zy Tryz.prog (zam ZP) :=
 okC (A := ⟨[zn zf, zao zW, QF Zy], [], [], 1, [], [(4, ⟨[], ⟨[], [(0, .row 100)]⟩, [0], [], [0], 0, [], ⟨[], []⟩, []⟩), (10, ⟨[4], ⟨[.bool], [(0, .row 100)]⟩, [], [], [0], 0, [], ⟨[], []⟩, []⟩), (15, ⟨[4, 5], ⟨[.bool, .int .i64], [(0, .row 100)]⟩, [], [], [0], 0, [], ⟨[], []⟩, []⟩), (19, ⟨[4], ⟨[.bool], [(0, .row 100)]⟩, [], [], [0], 0, [], ⟨[], []⟩, []⟩)], []⟩) (exS := ⟨[.bool], [(0, .row 100)]⟩) Tryz.f67 (memC zq (memC zct (memC Q3 Zc))) (by kernel_rfl) (by kernel_rfl) fun x => by kernel_rfl
theorem zdW : zy Tryz.prog (zbC qQ) :=
 okC (A := ⟨[zme zhx, zgC zcm, zqc cutF], [], [], 0, [(8, ⟨[6, 31], ⟨[.int .i64, .int .i64], []⟩, [0, 2, 3, 4, 5, 29, 30], [0], [], 0, [6], ⟨[.int .i64], []⟩, []⟩), (22, ⟨[12, 81], ⟨[.int .i64, .int .i64], []⟩, [4, 79, 80], [0], [], 2, [12], ⟨[.int .i64], []⟩, []⟩), (26, ⟨[4, 12], ⟨[.int .i64, .int .i64], []⟩, [], [], [], 4, [12], ⟨[.int .i64], []⟩, []⟩)], [(14, ⟨[0, 4, 6], ⟨[.str, .int .i64, .int .i64], []⟩, [3, 5], [], [], 0, [], ⟨[], []⟩, []⟩), (15, ⟨[0, 4], ⟨[.str, .int .i64], []⟩, [3], [], [], 0, [], ⟨[], []⟩, []⟩), (20, ⟨[0, 4], ⟨[.str, .int .i64], []⟩, [], [], [], 0, [], ⟨[], []⟩, []⟩), (31, ⟨[12], ⟨[.int .i64], []⟩, [], [], [], 0, [], ⟨[], []⟩, []⟩)], []⟩) (exS := ⟨[.int .i64], []⟩) Tryz.f68 (memC zoK (memC zkO (memC zqO Zc))) (by kernel_rfl) (by kernel_rfl) fun x => by kernel_rfl
theorem zcs : zy Tryz.prog (zan ZQ) :=
 okC (A := ⟨[zam ZP, zbC qQ, QN zS, qE zK, zn zf], [], [], 1, [], [(9, ⟨[], ⟨[], [(0, .row 100), (1, .row 51), (2, .row 51)]⟩, [2, 5], [], [0, 1, 2], 0, [], ⟨[], []⟩, []⟩)], []⟩) (exS := ⟨[.optr 1], [(0, .row 100), (1, .row 51)]⟩) Tryz.f152 (memC zcr (memC zdW (memC za1 (memC QB (memC zq Zc))))) (by kernel_rfl) (by kernel_rfl) fun x => by kernel_rfl
theorem zdU : zy Tryz.prog (zbA ZI) :=
 okC (A := ⟨[zn zf, Zd zu, QT Zz], [], [], 1, [(1, ⟨[], ⟨[], [(0, .row 100), (1, .row 51)]⟩, [0, 2], [], [0, 1], 0, [], ⟨[], []⟩, []⟩)], [], []⟩) (exS := ⟨[.optr 1], [(0, .row 100), (1, .row 51)]⟩) Tryz.f216 (memC zq (memC Zx (memC zbP Zc))) (by kernel_rfl) (by kernel_rfl) fun x => by kernel_rfl
theorem zdV : zy Tryz.prog (zbB qP) :=
 okC (A := ⟨[qx zG, zn zf, QG ZJ, zbA ZI, QU ZR, Zd zu, ZL zB], [(18, [3])], [], 1, [(3, ⟨[3], ⟨[.own 1837], [(0, .row 100), (1, .row 51), (1837, .sl 5)]⟩, [0, 2], [], [0, 1], 0, [], ⟨[], []⟩, []⟩)], [(10, ⟨[3, 4], ⟨[.own 1837, .int .i64], [(0, .row 100), (1, .row 51), (1837, .sl 5)]⟩, [], [], [0, 1, 1837], 0, [], ⟨[], []⟩, []⟩)], []⟩) (exS := ⟨[.optr 1], [(0, .row 100), (1, .row 51)]⟩) Tryz.f196 (memC Qo (memC zq (memC Q4 (memC zdU (memC zay (memC Zx (memC qp Zc))))))) (by kernel_rfl) (by kernel_rfl) fun x => by kernel_rfl
theorem zc2 : zy Tryz.prog (zaY qh) :=
 okC (A := ⟨[qE zK, zn zf, zcC Qa, qx zG, zbB qP], [], [], 1, [], [(11, ⟨[], ⟨[], [(0, .row 100), (1, .row 51)]⟩, [2, 3], [], [0, 1], 0, [], ⟨[], []⟩, []⟩)], []⟩) (exS := ⟨[.optr 1], [(0, .row 100), (1, .row 51)]⟩) Tryz.f153 (memC QB (memC zq (memC zef (memC Qo (memC zdV Zc))))) (by kernel_rfl) (by kernel_rfl) fun x => by kernel_rfl
theorem zdt : zy Tryz.prog (zba qC) :=
 okC (A := ⟨[zn zf, QG ZJ, qx zG, zaI Z5, zb8 QD, Zd zu, QN zS, qE zK, zaH Z4, zan ZQ, Zl strings_HasPrefix, zaY qh, ZG strings_IndexByte], [], [], 1, [], [], []⟩) (exS := ⟨[.optr 1], [(0, .row 100), (1, .row 51)]⟩) Tryz.f104 (memC zq (memC Q4 (memC Qo (memC zcW (memC zds (memC Zx (memC za1 (memC QB (memC zcV (memC zcs (memC ZB (memC zc2 (memC Z0 Zc))))))))))))) (by kernel_rfl) (by kernel_rfl) fun x => by kernel_rfl
theorem zeA : zy Tryz.prog (zbX Qk) :=
 okC (A := ⟨[], [(1, [2])], [], 2, [], [], []⟩) (exS := ⟨[], [(0, .cells 41 [.own 2]), (2, .sl 51)]⟩) Tryz.f57 Zc (by kernel_rfl) (by kernel_rfl) fun x => by kernel_rfl
theorem zhi : zy Tryz.prog (zd3 za2) :=
 okC (A := ⟨[zmd zgH, zaf Ze, zba qC, zbX Qk], [], [], 1, [(7, ⟨[7], ⟨[.int .i64], [(0, .cells 41 [.own 1838]), (1838, .sl 51), (1, .row 100)]⟩, [0, 1, 6], [], [0, 1], 0, [], ⟨[], [(0, .cells 41 [.own 1838]), (1838, .sl 51), (1, .row 100)]⟩, [0, 1, 1838]⟩)], [], []⟩) (exS := ⟨[.int .i64], [(0, .cells 41 [.own 1]), (1, .sl 51)]⟩) Tryz.f56 (memC zoJ (memC zce (memC zdt (memC zeA Zc)))) (by kernel_rfl) (by kernel_rfl) fun x => by kernel_rfl
theorem zhh : zy Tryz.prog (zd2 ZO) :=
 okC (A := ⟨[zd3 za2], [], [], 0, [], [], []⟩) (exS := ⟨[.sl 51, .int .i64], []⟩) Tryz.f24 (memC zhi Zc) (by kernel_rfl) (by kernel_rfl) fun x => by kernel_rfl
theorem zdq : zy Tryz.prog (za8 Zb) :=
 okC (A := ⟨[], [], [], 0, [(4, ⟨[13], ⟨[.int .i64], []⟩, [0, 1, 12], [], [], 0, [], ⟨[], []⟩, []⟩)], [], []⟩) (exS := ⟨[.bool], []⟩) Tryz.f55 Zc (by kernel_rfl) (by kernel_rfl) fun x => by kernel_rfl
theorem ze5 : zy Tryz.prog (zc5 qG) :=
 okC (A := ⟨[zbT zX, zc9 qH, zeI Q9, zd2 ZO, za8 Zb], [(24, [5])], [], 0, [(7, ⟨[5, 6, 7], ⟨[.own 1940, .own 1941, .int .i64], [(1940, .sl 5), (1941, .sl 89)]⟩, [0], [], [], 0, [5], ⟨[.own 1940], [(1940, .sl 5)]⟩, [1940]⟩), (11, ⟨[9, 36], ⟨[.own 1521, .int .i64], [(1521, .sl 5)]⟩, [5, 6, 7, 8, 34, 35], [1940, 1941], [], 2, [9], ⟨[.own 1521], [(1521, .sl 5)]⟩, [1521]⟩)], [(17, ⟨[5, 6, 7, 9], ⟨[.own 1940, .own 1941, .int .i64, .own 2043], [(1940, .sl 5), (1941, .sl 89), (2043, .sl 5)]⟩, [8], [], [1940, 1941], 0, [], ⟨[], []⟩, []⟩), (21, ⟨[5, 6, 7], ⟨[.own 1940, .own 1941, .int .i64], [(1940, .sl 5), (1941, .sl 89), (2044, .row 89)]⟩, [9, 12], [2043], [1940, 1941, 2044], 0, [], ⟨[], []⟩, []⟩), (24, ⟨[5, 6, 7], ⟨[.own 2148, .own 1941, .int .i64], [(1941, .sl 89), (2148, .sl 5)]⟩, [], [2044], [1941], 0, [], ⟨[], []⟩, []⟩)], []⟩) (exS := ⟨[.str, .int .i64], []⟩) Tryz.f23 (memC zcS (memC ze7 (memC zhS (memC zhh (memC zdq Zc))))) (by kernel_rfl) (by kernel_rfl) fun x => by kernel_rfl
theorem zdp : zy Tryz.prog (zb7 zo) :=
 okC (A := ⟨[zc5 qG], [], [], 0, [], [], []⟩) (exS := ⟨[.bool], []⟩) Tryz.f29 (memC ze5 Zc) (by kernel_rfl) (by kernel_rfl) fun x => by kernel_rfl
theorem zhU : zy Tryz.prog (zeK zaO) :=
 okC (A := ⟨[zcD Zn, zb7 zo], [(1, [1, 5, 10, 16, 22, 27])], [], 0, [], [], []⟩) (exS := ⟨[.bool], []⟩) Tryz.f22 (memC zeg (memC zdp Zc)) (by kernel_rfl) (by kernel_rfl) fun x => by kernel_rfl
theorem zlW : zy Tryz.prog (zh4 zeS) :=
 okC (A := ⟨[zen zaq, zeH zbG], [], [], 0, [], [], []⟩) (exS := ⟨[.str, .int .i64], []⟩) Tryz.f34 (memC zfY (memC zhR Zc)) (by kernel_rfl) (by kernel_rfl) fun x => by kernel_rfl
theorem zkQ : zy Tryz.prog (zgD zcn) :=
 okC (A := ⟨[zh4 zeS, zbT zX], [(2, [4])], [], 0, [], [], []⟩) (exS := ⟨[.bool], []⟩) Tryz.f28 (memC zlW (memC zcS Zc)) (by kernel_rfl) (by kernel_rfl) fun x => by kernel_rfl
theorem zhV : zy Tryz.prog (zeL qd) :=
 okC (A := ⟨[], [], [], 0, [], [], []⟩) (exS := ⟨[.optr 0], [(0, .row 51)]⟩) Tryz.f30 Zc (by kernel_rfl) (by kernel_rfl) fun x => by kernel_rfl
theorem zkN : zy Tryz.prog (zgB Qi) :=
 okC (A := ⟨[ZG strings_IndexByte, zbU Zp, zcA Qw], [], [], 0, [], [], []⟩) (exS := ⟨[.str, .int .i64], []⟩) Tryz.f32 (memC Z0 (memC zcT (memC zed Zc))) (by kernel_rfl) (by kernel_rfl) fun x => by kernel_rfl
theorem ze8 : zy Tryz.prog (zfo zbI) :=
 okC (A := ⟨[zgD zcn, zeL qd, zcD Zn, zb7 zo, zbT zX, zc5 qG, zgB Qi, zeK zaO], [(1, [23]), (7, [2, 7, 13, 19, 26, 32]), (8, [3, 9, 15, 20]), (9, [1]), (10, [2])], [(19, [(7, none)]), (21, [(8, none)])], 0, [(3, ⟨[2], ⟨[.int .i64], []⟩, [1], [], [], 0, [], ⟨[], []⟩, []⟩), (14, ⟨[9], ⟨[.int .i64], [(13, .sl 51), (14, .sl 51)]⟩, [3, 4, 5, 6, 7, 8], [], [13, 14], 2, [], ⟨[], [(13, .sl 51), (14, .sl 51)]⟩, [13, 14]⟩)], [(15, ⟨[9], ⟨[.int .i64], [(13, .sl 51), (14, .sl 51)]⟩, [], [], [13, 14], 0, [], ⟨[], []⟩, []⟩)], []⟩) (exS := ⟨[.bool], []⟩) Tryz.f7 (memC zkQ (memC zhV (memC zeg (memC zdp (memC zcS (memC ze5 (memC zkN (memC zhU Zc)))))))) (by kernel_rfl) (by kernel_rfl) fun x => by kernel_rfl
end Go.Lv.VT
