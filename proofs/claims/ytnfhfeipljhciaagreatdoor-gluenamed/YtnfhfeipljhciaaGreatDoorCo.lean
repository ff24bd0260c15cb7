/- Contracts. -/
import Derived.Test.YtnfhfeipljhciaaGreatDoorTx
import Derived.Test.YtnfhfeipljhciaaGreatDoorIp
import Derived.Test.YtnfhfeipljhciaaGreatDoorLf
import Derived.Test.YtnfhfeipljhciaaGreatDoorGa
namespace Go.Lv.VT
set_option maxRecDepth 100000
open Go.Proofs
theorem okC {con : Con I} {A : Env0 I} {exS : StSh} (f : Go.Func) (hS : ∀ c ∈ A.S, zz Tryz.prog c) (hf : Tryz.prog.funcs[con.f]? = some f) (h : chk con A f = true) (he : ∀ x, evF2 A T FK f.ntmps (rsl f) (body f) con exS x = con.F x) : zz Tryz.prog con :=
 okC0 mixed ipOK tok rfl rfl hS hf h he
noncomputable def zct (F : Str → Option zh) : Con I := ⟨31, ⟨[.str], []⟩, [], ⟨[.val 51], []⟩, 0, F⟩
noncomputable def Z0 (F : Str × Int → Option Int) : Con I := ⟨59, ⟨[.str, .int .u8], []⟩, [], ⟨[.int .i64], []⟩, 0, F⟩
noncomputable def qW (F : Str × Str → Option Bool) : Con I := ⟨126, ⟨[.str, .str], []⟩, [], ⟨[.bool], []⟩, 0, F⟩
noncomputable def zaa (F : Str × Str → Option Str) : Con I := ⟨191, ⟨[.str, .str], []⟩, [], ⟨[.str], []⟩, 0, F⟩
noncomputable def zbb (F : Str × Str → Option Str) : Con I := ⟨146, ⟨[.str, .str], []⟩, [], ⟨[.str], []⟩, 0, F⟩
noncomputable def Q9 (F : Int → Option Bool) : Con I := ⟨108, ⟨[.int .u8], []⟩, [], ⟨[.bool], []⟩, 0, F⟩
noncomputable def zbX (F : Str → Option Bool) : Con I := ⟨100, ⟨[.str], []⟩, [], ⟨[.bool], []⟩, 0, F⟩
noncomputable def Zx (F : Str × Str → Option Bool) : Con I := ⟨76, ⟨[.str, .str], []⟩, [], ⟨[.bool], []⟩, 0, F⟩
noncomputable def zcr (F : Int → Option Bool) : Con I := ⟨141, ⟨[.int .u8], []⟩, [], ⟨[.bool], []⟩, 0, F⟩
noncomputable def zbO (F : Int → Option Bool) : Con I := ⟨105, ⟨[.int .u8], []⟩, [], ⟨[.bool], []⟩, 0, F⟩
noncomputable def zbP (F : Str × Str → Option Bool) : Con I := ⟨106, ⟨[.str, .str], []⟩, [], ⟨[.bool], []⟩, 0, F⟩
noncomputable def zgy (F : zh → Option Bool) : Con I := ⟨58, ⟨[.val 51], []⟩, [], ⟨[.bool], []⟩, 0, F⟩
noncomputable def zdV (F : (Int × Int) × List zh → Option Bool) : Con I := ⟨97, ⟨[.int .i64, .int .u8, .optr 0], [(0, .row 41)]⟩, [0], ⟨[.bool], []⟩, 0, F⟩
noncomputable def zeD (F : Str → Option Str) : Con I := ⟨77, ⟨[.str], []⟩, [], ⟨[.str], []⟩, 0, F⟩
noncomputable def zcs (F : Str × Str → Option Bool) : Con I := ⟨78, ⟨[.str, .str], []⟩, [], ⟨[.bool], []⟩, 0, F⟩
noncomputable def zcX (F : List zh → Option Int) : Con I := ⟨53, ⟨[.sl 51], []⟩, [], ⟨[.int .i64], []⟩, 0, F⟩
noncomputable def zfM (F : List zh → Option Int) : Con I := ⟨26, ⟨[.sl 51], []⟩, [], ⟨[.int .i64], []⟩, 0, F⟩
noncomputable def zcV (F : Str → Option Int) : Con I := ⟨61, ⟨[.str], []⟩, [], ⟨[.int .i64], []⟩, 0, F⟩
noncomputable def zao (F : Int × List UInt8 → Option (List UInt8)) : Con I := ⟨98, ⟨[.own 0, .int .u8], [(0, .sl 5)]⟩, [], ⟨[.own 1], [(1, .sl 5)]⟩, 1, F⟩
noncomputable def zeA (F : Str × Int → Option (List UInt8)) : Con I := ⟨60, ⟨[.nilv, .str, .int .i64], []⟩, [], ⟨[.own 0], [(0, .sl 5)]⟩, 1, F⟩
noncomputable def zeB (F : (Str × Int) × List UInt8 → Option (List UInt8)) : Con I := ⟨60, ⟨[.own 0, .str, .int .i64], [(0, .sl 5)]⟩, [], ⟨[.own 1], [(1, .sl 5)]⟩, 1, F⟩
noncomputable def zfO (F : Unit → Option qf) : Con I := ⟨101, ⟨[], []⟩, [], ⟨[.val 130], []⟩, 0, F⟩
noncomputable def zcW (F : (Int × Bool) × List UInt8 → Option (List UInt8)) : Con I := ⟨99, ⟨[.own 0, .int .i64, .bool], [(0, .sl 5)]⟩, [], ⟨[.own 1], [(1, .sl 5)]⟩, 1, F⟩
noncomputable def zeC (F : zh × List UInt8 → Option (List UInt8)) : Con I := ⟨54, ⟨[.own 0, .val 51], [(0, .sl 5)]⟩, [], ⟨[.own 1], [(1, .sl 5)]⟩, 1, F⟩
noncomputable def zab (F : za → Option za) : Con I := ⟨103, ⟨[.optr 0], [(0, .row 100)]⟩, [], ⟨[], [(0, .row 100)]⟩, 0, F⟩
noncomputable def zn (F : Int × za → Option Int) : Con I := ⟨116, ⟨[.optr 0, .int .i64], [(0, .row 100)]⟩, [0], ⟨[.int .i64], []⟩, 0, F⟩
noncomputable def QB (F : Int → Option Bool) : Con I := ⟨150, ⟨[.int .i64], []⟩, [], ⟨[.bool], []⟩, 0, F⟩
noncomputable def qh (F : za → Option za) : Con I := ⟨118, ⟨[.optr 0, .clo 150 []], [(0, .row 100)]⟩, [], ⟨[], [(0, .row 100)]⟩, 0, F⟩
noncomputable def Qq (F : Int → Option (List UInt8)) : Con I := ⟨202, ⟨[.nilv, .int .i32], []⟩, [], ⟨[.own 0], [(0, .sl 5)]⟩, 1, F⟩
noncomputable def zbC (F : Int → Option (List UInt8)) : Con I := ⟨167, ⟨[.nilv, .int .i32], []⟩, [], ⟨[.own 0], [(0, .sl 5)]⟩, 1, F⟩
noncomputable def QQ (F : Int × Int × Int → Option Bool) : Con I := ⟨158, ⟨[.int .i64, .int .i64, .int .i64], []⟩, [], ⟨[.bool], []⟩, 0, F⟩
noncomputable def QA (F : Int → Option Bool) : Con I := ⟨117, ⟨[.int .i64], []⟩, [], ⟨[.bool], []⟩, 0, F⟩
noncomputable def zee (F : Int → Option Int) : Con I := ⟨168, ⟨[.int .i64], []⟩, [], ⟨[.int .i64], []⟩, 0, F⟩
noncomputable def QP (F : za → Option (za × List UInt8)) : Con I := ⟨125, ⟨[.optr 0, .nilv], [(0, .row 100)]⟩, [], ⟨[.own 1], [(0, .row 100), (1, .sl 5)]⟩, 1, F⟩
noncomputable def Qr (F : Int × List UInt8 → Option (List UInt8)) : Con I := ⟨202, ⟨[.own 0, .int .i32], [(0, .sl 5)]⟩, [], ⟨[.own 1], [(1, .sl 5)]⟩, 1, F⟩
noncomputable def zbD (F : Int × List UInt8 → Option (List UInt8)) : Con I := ⟨167, ⟨[.own 0, .int .i32], [(0, .sl 5)]⟩, [], ⟨[.own 1], [(1, .sl 5)]⟩, 1, F⟩
noncomputable def ZB (F : za × List UInt8 → Option (za × List UInt8)) : Con I := ⟨125, ⟨[.optr 0, .own 1], [(0, .row 100), (1, .sl 5)]⟩, [], ⟨[.own 2], [(0, .row 100), (2, .sl 5)]⟩, 1, F⟩
noncomputable def zaN (F : za → Option (zh × za)) : Con I := ⟨151, ⟨[.optr 0], [(0, .row 100)]⟩, [], ⟨[.val 51], [(0, .row 100)]⟩, 0, F⟩
noncomputable def zcu (F : Int → Option Bool) : Con I := ⟨122, ⟨[.int .i64], []⟩, [], ⟨[.bool], []⟩, 0, F⟩
noncomputable def zbZ (F : Int → Option Bool) : Con I := ⟨124, ⟨[.int .i64], []⟩, [], ⟨[.bool], []⟩, 0, F⟩
noncomputable def Ze (F : Int × za → Option Bool) : Con I := ⟨123, ⟨[.optr 0, .int .i64], [(0, .row 100)]⟩, [0], ⟨[.bool], []⟩, 0, F⟩
noncomputable def qB (F : Int × za → Option Bool) : Con I := ⟨69, ⟨[.optr 0, .int .i64], [(0, .row 100)]⟩, [0], ⟨[.bool], []⟩, 0, F⟩
noncomputable def ZL (F : za → Option (Str × za)) : Con I := ⟨70, ⟨[.optr 0], [(0, .row 100)]⟩, [], ⟨[.str], [(0, .row 100)]⟩, 0, F⟩
noncomputable def zaM (F : za → Option Bool) : Con I := ⟨66, ⟨[.optr 0], [(0, .row 100)]⟩, [0], ⟨[.bool], []⟩, 0, F⟩
noncomputable def zas (F : za → Option za) : Con I := ⟨118, ⟨[.optr 0, .clo 117 []], [(0, .row 100)]⟩, [], ⟨[], [(0, .row 100)]⟩, 0, F⟩
noncomputable def zaq (F : za → Option (Bool × za)) : Con I := ⟨67, ⟨[.optr 0], [(0, .row 100)]⟩, [], ⟨[.bool], [(0, .row 100)]⟩, 0, F⟩
noncomputable def zbB (F : Str → Option Int) : Con I := ⟨68, ⟨[.str], []⟩, [], ⟨[.int .i64], []⟩, 0, F⟩
noncomputable def zar (F : za → Option (zh × za)) : Con I := ⟨152, ⟨[.optr 0], [(0, .row 100)]⟩, [], ⟨[.val 51], [(0, .row 100)]⟩, 0, F⟩
noncomputable def zbz (F : za → Option (zh × za)) : Con I := ⟨216, ⟨[.optr 0], [(0, .row 100)]⟩, [], ⟨[.val 51], [(0, .row 100)]⟩, 0, F⟩
noncomputable def zbA (F : za → Option (zh × za)) : Con I := ⟨196, ⟨[.optr 0], [(0, .row 100)]⟩, [], ⟨[.val 51], [(0, .row 100)]⟩, 0, F⟩
noncomputable def za3 (F : za → Option (zh × za)) : Con I := ⟨153, ⟨[.optr 0], [(0, .row 100)]⟩, [], ⟨[.val 51], [(0, .row 100)]⟩, 0, F⟩
noncomputable def zbc (F : za → Option (zh × za)) : Con I := ⟨104, ⟨[.optr 0], [(0, .row 100)]⟩, [], ⟨[.val 51], [(0, .row 100)]⟩, 0, F⟩
noncomputable def zbQ (F : (zh × Int × Int) × List zh → Option (List zh)) : Con I := ⟨57, ⟨[.val 51, .int .i64, .int .i64, .optr 0], [(0, .cells 41 [.own 1]), (1, .sl 51)]⟩, [], ⟨[], [(0, .cells 41 [.own 2]), (2, .sl 51)]⟩, 1, F⟩
noncomputable def zdX (F : Str → Option (Int × List zh)) : Con I := ⟨56, ⟨[.str, .clo 57 [0]], [(0, .cells 41 [.nilv])]⟩, [], ⟨[.int .i64], [(0, .cells 41 [.own 1]), (1, .sl 51)]⟩, 1, F⟩
noncomputable def zbY (F : Str → Option (List zh × Int)) : Con I := ⟨24, ⟨[.str], []⟩, [], ⟨[.sl 51, .int .i64], []⟩, 0, F⟩
noncomputable def zba (F : List zh × List zh → Option Bool) : Con I := ⟨55, ⟨[.sl 51, .sl 51], []⟩, [], ⟨[.bool], []⟩, 0, F⟩
noncomputable def zfN (F : List zh → Option (Str × Int)) : Con I := ⟨23, ⟨[.sl 51], []⟩, [], ⟨[.str, .int .i64], []⟩, 0, F⟩
noncomputable def zdW (F : Str × List zh → Option Bool) : Con I := ⟨29, ⟨[.str, .sl 51], []⟩, [], ⟨[.bool], []⟩, 0, F⟩
noncomputable def zeE (F : Unit → Option Bool) : Con I := ⟨22, ⟨[], []⟩, [], ⟨[.bool], []⟩, 0, F⟩
noncomputable def zgx (F : Str → Option (Str × Int)) : Con I := ⟨32, ⟨[.str], []⟩, [], ⟨[.str, .int .i64], []⟩, 0, F⟩
noncomputable def zfP (F : Str → Option (Str × Int)) : Con I := ⟨38, ⟨[.str], []⟩, [], ⟨[.str, .int .i64], []⟩, 0, F⟩
noncomputable def zca (F : Str × Str → Option Bool) : Con I := ⟨10, ⟨[.str, .str], []⟩, [], ⟨[.bool], []⟩, 0, F⟩
noncomputable def zms (F : Str → Option (Str × Int)) : Con I := ⟨102, ⟨[.str], []⟩, [], ⟨[.str, .int .i64], []⟩, 0, F⟩
theorem zpf : zz Tryz.prog (zms zeG) := zoJ
noncomputable def zj5 (F : Str × Int → Option Int) : Con I := ⟨107, ⟨[.str, .int .u8], []⟩, [], ⟨[.int .i64], []⟩, 0, F⟩
theorem znH : zz Tryz.prog (zj5 zel) := zns
noncomputable def ziS (F : Str × Str → Option Int) : Con I := ⟨149, ⟨[.str, .str], []⟩, [], ⟨[.int .i64], []⟩, 0, F⟩
theorem zk0 : zz Tryz.prog (ziS zfU) := zoK
noncomputable def zmt (F : Str × Str → Option Str) : Con I := ⟨119, ⟨[.str, .str], []⟩, [], ⟨[.str], []⟩, 0, F⟩
theorem zpg : zz Tryz.prog (zmt zhs) := zoL
noncomputable def zmu (F : Str × Str → Option Str) : Con I := ⟨144, ⟨[.str, .str], []⟩, [], ⟨[.str], []⟩, 0, F⟩
theorem zph : zz Tryz.prog (zmu zfW) := zoM
noncomputable def zgz (F : Str × Str → Option Int) : Con I := ⟨120, ⟨[.str, .str], []⟩, [], ⟨[.int .i64], []⟩, 0, F⟩
theorem zkZ : zz Tryz.prog (zgz zcf) := zkx
noncomputable def zq1 (F : Str × Str → Option (Str × Str × Bool)) : Con I := ⟨121, ⟨[.str, .str], []⟩, [], ⟨[.str, .str, .bool], []⟩, 0, F⟩
theorem zrO : zz Tryz.prog (zq1 cutF) := zry
noncomputable def zj4 (F : Int × Int → Option Str) : Con I := ⟨145, ⟨[.int .i64, .int .i64], []⟩, [], ⟨[.str], []⟩, 0, F⟩
theorem znG : zz Tryz.prog (zj4 zfo) := znr
noncomputable def zh4 (F : (Int × Int) × List UInt8 → Option (List UInt8)) : Con I := ⟨142, ⟨[.own 0, .int .u64, .int .i64], [(0, .sl 5)]⟩, [], ⟨[.own 1], [(1, .sl 5)]⟩, 1, F⟩
theorem zl6 : zz Tryz.prog (zh4 zbf) := zlP
noncomputable def zh3 (F : (Int × Int) × List UInt8 → Option (List UInt8)) : Con I := ⟨143, ⟨[.own 0, .int .i64, .int .i64], [(0, .sl 5)]⟩, [], ⟨[.own 1], [(1, .sl 5)]⟩, 1, F⟩
theorem zl5 : zz Tryz.prog (zh3 zdy) := zlO
theorem zd7 : zz Tryz.prog (zct Z5) :=
 okC (A := ⟨[], [], [], 0, [], [], []⟩) (exS := ⟨[.optr 0], [(0, .row 51)]⟩) Tryz.f31 Zk (by kernel_rfl) (by kernel_rfl) fun x => by kernel_rfl
theorem qC : zz Tryz.prog (Z0 strings_IndexByte) :=
 okC (A := ⟨[zj5 zel], [], [], 0, [], [], []⟩) (exS := ⟨[.int .i64], []⟩) Tryz.f59 (memC znH Zk) (by kernel_rfl) (by kernel_rfl) fun x => by kernel_rfl
theorem zaf : zz Tryz.prog (qW stringslite_HasPrefix) :=
 okC (A := ⟨[], [], [], 0, [], [], []⟩) (exS := ⟨[.bool], []⟩) Tryz.f126 Zk (by kernel_rfl) (by kernel_rfl) fun x => by kernel_rfl
theorem zb3 : zz Tryz.prog (zaa stringslite_TrimPrefix) :=
 okC (A := ⟨[qW stringslite_HasPrefix], [], [], 0, [], [], []⟩) (exS := ⟨[.str], []⟩) Tryz.f191 (memC zaf Zk) (by kernel_rfl) (by kernel_rfl) fun x => by kernel_rfl
theorem zdl : zz Tryz.prog (zbb strings_TrimPrefix) :=
 okC (A := ⟨[zaa stringslite_TrimPrefix], [], [], 0, [], [], []⟩) (exS := ⟨[.str], []⟩) Tryz.f146 (memC zb3 Zk) (by kernel_rfl) (by kernel_rfl) fun x => by kernel_rfl
theorem zaD : zz Tryz.prog (Q9 Zy) :=
 okC (A := ⟨[], [], [], 0, [], [], []⟩) (exS := ⟨[.bool], []⟩) Tryz.f108 Zk (by kernel_rfl) (by kernel_rfl) fun x => by kernel_rfl
theorem zdj : zz Tryz.prog (zbX Qu) :=
 okC (A := ⟨[zbb strings_TrimPrefix, Q9 Zy], [], [], 0, [], [], []⟩) (exS := ⟨[.bool], []⟩) Tryz.f100 (memC zdl (memC zaD Zk)) (by kernel_rfl) (by kernel_rfl) fun x => by kernel_rfl
theorem ZP : zz Tryz.prog (Zx strings_HasPrefix) :=
 okC (A := ⟨[qW stringslite_HasPrefix], [], [], 0, [], [], []⟩) (exS := ⟨[.bool], []⟩) Tryz.f76 (memC zaf Zk) (by kernel_rfl) (by kernel_rfl) fun x => by kernel_rfl
theorem zd5 : zz Tryz.prog (zcr Qs) :=
 okC (A := ⟨[], [], [], 0, [], [], []⟩) (exS := ⟨[.bool], []⟩) Tryz.f141 Zk (by kernel_rfl) (by kernel_rfl) fun x => by kernel_rfl
theorem zcI : zz Tryz.prog (zbO qE) :=
 okC (A := ⟨[zcr Qs, Q9 Zy], [], [], 0, [], [], []⟩) (exS := ⟨[.bool], []⟩) Tryz.f105 (memC zd5 (memC zaD Zk)) (by kernel_rfl) (by kernel_rfl) fun x => by kernel_rfl
theorem zer : zz Tryz.prog (zbP strings_Contains) :=
 okC (A := ⟨[ziS zfU], [], [], 0, [], [], []⟩) (exS := ⟨[.bool], []⟩) Tryz.f106 (memC zk0 Zk) (by kernel_rfl) (by kernel_rfl) fun x => by kernel_rfl
theorem zkY : zz Tryz.prog (zgy zc7) :=
 okC (A := ⟨[Z0 strings_IndexByte, zbX Qu, Zx strings_HasPrefix, zbO qE, zbP strings_Contains], [], [], 0, [], [(8, ⟨[3, 4, 5, 6, 7, 25], ⟨[.bool, .bool, .bool, .bool, .bool, .bool], []⟩, [1, 16], [], [], 0, [], ⟨[], []⟩, []⟩), (14, ⟨[3, 4, 5, 6, 7, 63], ⟨[.bool, .bool, .bool, .bool, .bool, .bool], []⟩, [], [], [], 0, [], ⟨[], []⟩, []⟩), (22, ⟨[4, 5, 6, 7, 94], ⟨[.bool, .bool, .bool, .bool, .bool], []⟩, [3], [], [], 0, [], ⟨[], []⟩, []⟩), (24, ⟨[3, 4, 5, 6, 7], ⟨[.bool, .bool, .bool, .bool, .bool], []⟩, [1], [0], [], 0, [], ⟨[], []⟩, []⟩)], []⟩) (exS := ⟨[.bool], []⟩) Tryz.f58 (memC qC (memC zdj (memC ZP (memC zcI (memC zer Zk))))) (by kernel_rfl) (by kernel_rfl) fun x => by kernel_rfl
theorem zha : zz Tryz.prog (zdV Qv) :=
 okC (A := ⟨[], [], [], 1, [], [], []⟩) (exS := ⟨[.bool], []⟩) Tryz.f97 Zk (by kernel_rfl) (by kernel_rfl) fun x => by kernel_rfl
theorem zhT : zz Tryz.prog (zeD zaS) :=
 okC (A := ⟨[], [], [], 0, [(3, ⟨[10], ⟨[.int .i64], [(0, .sl 5)]⟩, [2, 3, 8, 9], [], [0], 0, [], ⟨[], [(0, .sl 5)]⟩, [0]⟩)], [(7, ⟨[10], ⟨[.int .i64], [(0, .sl 5)]⟩, [], [], [0], 0, [], ⟨[], []⟩, []⟩)], []⟩) (exS := ⟨[.str], []⟩) Tryz.f77 Zk (by kernel_rfl) (by kernel_rfl) fun x => by kernel_rfl
theorem zd6 : zz Tryz.prog (zcs Q3) :=
 okC (A := ⟨[zeD zaS], [], [], 0, [], [], []⟩) (exS := ⟨[.bool], []⟩) Tryz.f78 (memC zhT Zk) (by kernel_rfl) (by kernel_rfl) fun x => by kernel_rfl
theorem zeY : zz Tryz.prog (zcX zaR) :=
 okC (A := ⟨[zdV Qv, zcs Q3], [], [], 0, [], [(11, ⟨[5], ⟨[.int .i64], []⟩, [3], [0], [], 0, [], ⟨[], []⟩, []⟩)], []⟩) (exS := ⟨[.int .i64], []⟩) Tryz.f53 (memC zha (memC zd6 Zk)) (by kernel_rfl) (by kernel_rfl) fun x => by kernel_rfl
theorem zjm : zz Tryz.prog (zfM zaQ) :=
 okC (A := ⟨[zgy zc7, zcX zaR], [], [], 0, [(4, ⟨[10], ⟨[.int .i64], []⟩, [0, 8, 9], [], [], 0, [], ⟨[], []⟩, []⟩)], [], []⟩) (exS := ⟨[.int .i64], []⟩) Tryz.f26 (memC zkY (memC zeY Zk)) (by kernel_rfl) (by kernel_rfl) fun x => by kernel_rfl
theorem zeX : zz Tryz.prog (zcV ZX) :=
 okC (A := ⟨[Zx strings_HasPrefix], [], [], 0, [], [], []⟩) (exS := ⟨[.int .i64], []⟩) Tryz.f61 (memC ZP Zk) (by kernel_rfl) (by kernel_rfl) fun x => by kernel_rfl
theorem za7 : zz Tryz.prog (zao zZ) :=
 okC (A := ⟨[Q9 Zy, zcr Qs, zh4 zbf], [(2, [2]), (3, [1]), (5, [1])], [], 1, [], [], []⟩) (exS := ⟨[.own 1], [(1, .sl 5)]⟩) Tryz.f98 (memC zaD (memC zd5 (memC zl6 Zk))) (by kernel_rfl) (by kernel_rfl) fun x => by kernel_rfl
theorem zhQ : zz Tryz.prog (zeA Q0) :=
 okC (A := ⟨[zbO qE, Q9 Zy, zao zZ], [(6, [2])], [], 0, [(2, ⟨[0, 11], ⟨[.own 1002, .int .i64], [(1002, .sl 5)]⟩, [1, 2, 6, 10], [], [], 0, [0], ⟨[.own 1002], [(1002, .sl 5)]⟩, [1002]⟩)], [(8, ⟨[0, 11], ⟨[.own 1104, .int .i64], [(1104, .sl 5)]⟩, [], [], [], 0, [], ⟨[], []⟩, []⟩)], []⟩) (exS := ⟨[.own 0], [(0, .sl 5)]⟩) Tryz.f60 (memC zcI (memC zaD (memC za7 Zk))) (by kernel_rfl) (by kernel_rfl) fun x => by kernel_rfl
theorem zhR : zz Tryz.prog (zeB qy) :=
 okC (A := ⟨[zbO qE, Q9 Zy, zao zZ], [(6, [2])], [], 1, [(2, ⟨[0, 11], ⟨[.own 1106, .int .i64], [(1106, .sl 5)]⟩, [1, 2, 6, 10], [], [], 0, [0], ⟨[.own 1106], [(1106, .sl 5)]⟩, [1106]⟩)], [(8, ⟨[0, 11], ⟨[.own 1208, .int .i64], [(1208, .sl 5)]⟩, [], [], [], 0, [], ⟨[], []⟩, []⟩)], []⟩) (exS := ⟨[.own 1], [(1, .sl 5)]⟩) Tryz.f60 (memC zcI (memC zaD (memC za7 Zk))) (by kernel_rfl) (by kernel_rfl) fun x => by kernel_rfl
theorem zjo : zz Tryz.prog (zfO zcd) :=
 okC (A := ⟨[], [], [], 0, [], [], []⟩) (exS := ⟨[.optr 0], [(0, .row 130)]⟩) Tryz.f101 Zk (by kernel_rfl) (by kernel_rfl) fun x => by kernel_rfl
theorem zf2 : zz Tryz.prog (zcW qX) :=
 okC (A := ⟨[zh3 zdy, zj4 zfo, zmu zfW], [(2, [1]), (6, [1])], [], 1, [], [(3, ⟨[0, 1], ⟨[.own 1730, .int .i64], [(1730, .sl 5)]⟩, [2], [], [], 0, [], ⟨[], []⟩, []⟩), (9, ⟨[0], ⟨[.own 1833], [(1833, .sl 5)]⟩, [], [], [], 0, [], ⟨[], []⟩, []⟩)], []⟩) (exS := ⟨[.own 1], [(1, .sl 5)]⟩) Tryz.f99 (memC zl5 (memC znG (memC zph Zk))) (by kernel_rfl) (by kernel_rfl) fun x => by kernel_rfl
theorem zhS : zz Tryz.prog (zeC zbF) :=
 okC (A := ⟨[zcV ZX, zeB qy, Z0 strings_IndexByte, zao zZ, zcW qX, zbX Qu, Zx strings_HasPrefix, zfO zcd], [(5, [7]), (7, [1]), (12, [1]), (14, [1]), (20, [2]), (22, [1]), (30, [2]), (32, [1]), (38, [4])], [], 1, [(16, ⟨[0, 67], ⟨[.own 1523, .int .i64], [(1523, .sl 5)]⟩, [3, 4, 65, 66], [1, 4], [], 1, [0], ⟨[.own 1523], [(1523, .sl 5)]⟩, [1523]⟩), (26, ⟨[0, 93], ⟨[.own 1627, .int .i64], [(1627, .sl 5)]⟩, [3, 4, 91, 92], [1, 3], [], 3, [0], ⟨[.own 1627], [(1627, .sl 5)]⟩, [1627]⟩)], [(12, ⟨[5], ⟨[.int .i64], [(0, .sl 5)]⟩, [0, 3], [1], [0], 0, [], ⟨[], []⟩, []⟩), (21, ⟨[0, 67], ⟨[.own 1625, .int .i64], [(1625, .sl 5)]⟩, [], [], [], 0, [], ⟨[], []⟩, []⟩), (31, ⟨[0, 93], ⟨[.own 1729, .int .i64], [(1729, .sl 5)]⟩, [], [], [], 0, [], ⟨[], []⟩, []⟩)], []⟩) (exS := ⟨[.own 1], [(1, .sl 5)]⟩) Tryz.f54 (memC zeX (memC zhR (memC qC (memC za7 (memC zf2 (memC zdj (memC ZP (memC zjo Zk)))))))) (by kernel_rfl) (by kernel_rfl) fun x => by kernel_rfl
theorem zb4 : zz Tryz.prog (zab zJ) :=
 okC (A := ⟨[Zx strings_HasPrefix, ziS zfU], [], [], 1, [(0, ⟨[], ⟨[], [(0, .row 100)]⟩, [0], [], [0], 0, [], ⟨[], [(0, .row 100)]⟩, [0]⟩)], [], []⟩) (exS := ⟨[], [(0, .row 100)]⟩) Tryz.f103 (memC ZP (memC zk0 Zk)) (by kernel_rfl) (by kernel_rfl) fun x => by kernel_rfl
theorem zo : zz Tryz.prog (zn ze) :=
 okC (A := ⟨[], [], [], 1, [], [], []⟩) (exS := ⟨[.int .i64], []⟩) Tryz.f116 Zk (by kernel_rfl) (by kernel_rfl) fun x => by kernel_rfl
theorem QW : zz Tryz.prog (QB Zr) :=
 okC (A := ⟨[], [], [], 0, [], [], []⟩) (exS := ⟨[.bool], []⟩) Tryz.f150 Zk (by kernel_rfl) (by kernel_rfl) fun x => by kernel_rfl
theorem Qm : zz Tryz.prog (qh zH) :=
 okC (A := ⟨[zn ze, QB Zr], [], [], 1, [(0, ⟨[], ⟨[], [(0, .row 100)]⟩, [0, 1], [], [0], 0, [], ⟨[], [(0, .row 100)]⟩, [0]⟩)], [], []⟩) (exS := ⟨[], [(0, .row 100)]⟩) Tryz.f118 (memC zo (memC QW Zk)) (by kernel_rfl) (by kernel_rfl) fun x => by kernel_rfl
theorem zbq : zz Tryz.prog (Qq Zg) :=
 okC (A := ⟨[], [(2, [1]), (4, [9]), (7, [14]), (9, [19])], [], 0, [], [(7, ⟨[25], ⟨[.bool], []⟩, [0, 1, 5], [], [], 0, [], ⟨[], []⟩, []⟩)], []⟩) (exS := ⟨[.own 0], [(0, .sl 5)]⟩) Tryz.f202 Zk (by kernel_rfl) (by kernel_rfl) fun x => by kernel_rfl
theorem zdQ : zz Tryz.prog (zbC ZZ) :=
 okC (A := ⟨[Qq Zg], [(2, [3])], [], 0, [], [], []⟩) (exS := ⟨[.own 0], [(0, .sl 5)]⟩) Tryz.f167 (memC zbq Zk) (by kernel_rfl) (by kernel_rfl) fun x => by kernel_rfl
theorem zaE : zz Tryz.prog (QQ ZF) :=
 okC (A := ⟨[], [], [], 0, [], [], []⟩) (exS := ⟨[.bool], []⟩) Tryz.f158 Zk (by kernel_rfl) (by kernel_rfl) fun x => by kernel_rfl
theorem QV : zz Tryz.prog (QA Zc) :=
 okC (A := ⟨[QQ ZF], [], [], 0, [], [], []⟩) (exS := ⟨[.bool], []⟩) Tryz.f117 (memC zaE Zk) (by kernel_rfl) (by kernel_rfl) fun x => by kernel_rfl
theorem zfV : zz Tryz.prog (zee QY) :=
 okC (A := ⟨[QA Zc, QQ ZF], [], [], 0, [], [], []⟩) (exS := ⟨[.int .i64], []⟩) Tryz.f168 (memC QV (memC zaE Zk)) (by kernel_rfl) (by kernel_rfl) fun x => by kernel_rfl
theorem zbL : zz Tryz.prog (QP Zp) :=
 okC (A := ⟨[zn ze, zbC ZZ, zee QY, QB Zr], [(7, [3])], [], 1, [(10, ⟨[6, 36], ⟨[.int .i64, .int .i64], [(0, .row 100)]⟩, [0, 1, 4], [], [0], 0, [6], ⟨[.int .i64], [(0, .row 100)]⟩, [0]⟩)], [(17, ⟨[6], ⟨[.int .i64], [(0, .row 100)]⟩, [1], [], [0], 0, [], ⟨[], []⟩, []⟩), (19, ⟨[6], ⟨[.int .i64], []⟩, [], [0], [], 0, [], ⟨[], []⟩, []⟩)], []⟩) (exS := ⟨[.own 1], [(0, .row 100), (1, .sl 5)]⟩) Tryz.f125 (memC zo (memC zdQ (memC zfV (memC QW Zk)))) (by kernel_rfl) (by kernel_rfl) fun x => by kernel_rfl
theorem zbr : zz Tryz.prog (Qr zQ) :=
 okC (A := ⟨[], [(2, [1]), (4, [9]), (7, [14]), (9, [19])], [], 1, [], [(7, ⟨[25], ⟨[.bool], [(0, .sl 5)]⟩, [0, 1, 5], [], [0], 0, [], ⟨[], []⟩, []⟩)], []⟩) (exS := ⟨[.own 1], [(1, .sl 5)]⟩) Tryz.f202 Zk (by kernel_rfl) (by kernel_rfl) fun x => by kernel_rfl
theorem zdR : zz Tryz.prog (zbD Zb) :=
 okC (A := ⟨[Qr zQ], [(2, [3])], [], 1, [], [], []⟩) (exS := ⟨[.own 1], [(1, .sl 5)]⟩) Tryz.f167 (memC zbr Zk) (by kernel_rfl) (by kernel_rfl) fun x => by kernel_rfl
theorem qd : zz Tryz.prog (ZB zu) :=
 okC (A := ⟨[zn ze, zbD Zb, zee QY, QB Zr], [(7, [3])], [], 2, [(10, ⟨[6, 36], ⟨[.int .i64, .int .i64], [(0, .row 100)]⟩, [0, 1, 4], [1], [0], 0, [6], ⟨[.int .i64], [(0, .row 100)]⟩, [0]⟩)], [(17, ⟨[6], ⟨[.int .i64], [(0, .row 100), (1, .sl 5)]⟩, [1], [], [0, 1], 0, [], ⟨[], []⟩, []⟩), (19, ⟨[6], ⟨[.int .i64], [(1, .sl 5)]⟩, [], [0], [1], 0, [], ⟨[], []⟩, []⟩)], []⟩) (exS := ⟨[.own 2], [(0, .row 100), (2, .sl 5)]⟩) Tryz.f125 (memC zo (memC zdR (memC zfV (memC QW Zk)))) (by kernel_rfl) (by kernel_rfl) fun x => by kernel_rfl
theorem zcK : zz Tryz.prog (zaN ZQ) :=
 okC (A := ⟨[zn ze, ZB zu], [(5, [3])], [], 1, [(4, ⟨[4], ⟨[.own 1835], [(0, .row 100), (1, .row 51), (1835, .sl 5)]⟩, [0, 2, 3], [], [0, 1], 0, [4], ⟨[.own 1835], [(0, .row 100), (1, .row 51), (1835, .sl 5)]⟩, [0, 1, 1835]⟩)], [], []⟩) (exS := ⟨[.optr 1], [(0, .row 100), (1, .row 51)]⟩) Tryz.f151 (memC zo (memC qd Zk)) (by kernel_rfl) (by kernel_rfl) fun x => by kernel_rfl
theorem zd8 : zz Tryz.prog (zcu Qa) :=
 okC (A := ⟨[QQ ZF], [], [], 0, [], [], []⟩) (exS := ⟨[.bool], []⟩) Tryz.f122 (memC zaE Zk) (by kernel_rfl) (by kernel_rfl) fun x => by kernel_rfl
theorem zdn : zz Tryz.prog (zbZ qR) :=
 okC (A := ⟨[zcu Qa, QA Zc], [], [], 0, [], [], []⟩) (exS := ⟨[.bool], []⟩) Tryz.f124 (memC zd8 (memC QV Zk)) (by kernel_rfl) (by kernel_rfl) fun x => by kernel_rfl
theorem Zo : zz Tryz.prog (Ze zm) :=
 okC (A := ⟨[zn ze], [], [], 1, [], [], []⟩) (exS := ⟨[.bool], []⟩) Tryz.f123 (memC zo Zk) (by kernel_rfl) (by kernel_rfl) fun x => by kernel_rfl
theorem Qy : zz Tryz.prog (qB zw) :=
 okC (A := ⟨[zn ze, zcu Qa, Ze zm], [], [], 1, [], [], []⟩) (exS := ⟨[.bool], []⟩) Tryz.f69 (memC zo (memC zd8 (memC Zo Zk))) (by kernel_rfl) (by kernel_rfl) fun x => by kernel_rfl
theorem qo : zz Tryz.prog (ZL zx) :=
 okC (A := ⟨[zn ze, zbZ qR, Ze zm, ZB zu], [(5, [3])], [], 1, [(2, ⟨[3], ⟨[.own 1836], [(0, .row 100), (1836, .sl 5)]⟩, [0], [], [0], 0, [], ⟨[], []⟩, []⟩)], [], []⟩) (exS := ⟨[.str], [(0, .row 100)]⟩) Tryz.f70 (memC zo (memC zdn (memC Zo (memC qd Zk)))) (by kernel_rfl) (by kernel_rfl) fun x => by kernel_rfl
theorem zcJ : zz Tryz.prog (zaM zS) :=
 okC (A := ⟨[zn ze, QA Zc], [], [], 1, [], [(5, ⟨[3], ⟨[.int .i64], []⟩, [0], [], [], 0, [], ⟨[], []⟩, []⟩), (7, ⟨[3], ⟨[.int .i64], []⟩, [], [], [], 0, [], ⟨[], []⟩, []⟩)], []⟩) (exS := ⟨[.bool], []⟩) Tryz.f66 (memC zo (memC QV Zk)) (by kernel_rfl) (by kernel_rfl) fun x => by kernel_rfl
theorem zcl : zz Tryz.prog (zas zY) :=
 okC (A := ⟨[zn ze, QA Zc], [], [], 1, [(0, ⟨[], ⟨[], [(0, .row 100)]⟩, [0, 1], [], [0], 0, [], ⟨[], [(0, .row 100)]⟩, [0]⟩)], [], []⟩) (exS := ⟨[], [(0, .row 100)]⟩) Tryz.f118 (memC zo (memC QV Zk)) (by kernel_rfl) (by kernel_rfl) fun x => by kernel_rfl
theorem zcj : zz Tryz.prog (zaq ZC) :=
 okC (A := ⟨[zn ze, zas zY, QA Zc], [], [], 1, [], [(4, ⟨[], ⟨[], [(0, .row 100)]⟩, [0], [], [0], 0, [], ⟨[], []⟩, []⟩), (10, ⟨[4], ⟨[.bool], [(0, .row 100)]⟩, [], [], [0], 0, [], ⟨[], []⟩, []⟩), (15, ⟨[4, 5], ⟨[.bool, .int .i64], [(0, .row 100)]⟩, [], [], [0], 0, [], ⟨[], []⟩, []⟩), (19, ⟨[4], ⟨[.bool], [(0, .row 100)]⟩, [], [], [0], 0, [], ⟨[], []⟩, []⟩)], []⟩) (exS := ⟨[.bool], [(0, .row 100)]⟩) Tryz.f67 (memC zo (memC zcl (memC QV Zk))) (by kernel_rfl) (by kernel_rfl) fun x => by kernel_rfl
theorem zdP : zz Tryz.prog (zbB qN) :=
 okC (A := ⟨[zmt zhs, zgz zcf, zq1 cutF], [], [], 0, [(8, ⟨[6, 31], ⟨[.int .i64, .int .i64], []⟩, [0, 2, 3, 4, 5, 29, 30], [0], [], 0, [6], ⟨[.int .i64], []⟩, []⟩), (22, ⟨[12, 81], ⟨[.int .i64, .int .i64], []⟩, [4, 79, 80], [0], [], 2, [12], ⟨[.int .i64], []⟩, []⟩), (26, ⟨[4, 12], ⟨[.int .i64, .int .i64], []⟩, [], [], [], 4, [12], ⟨[.int .i64], []⟩, []⟩)], [(14, ⟨[0, 4, 6], ⟨[.str, .int .i64, .int .i64], []⟩, [3, 5], [], [], 0, [], ⟨[], []⟩, []⟩), (15, ⟨[0, 4], ⟨[.str, .int .i64], []⟩, [3], [], [], 0, [], ⟨[], []⟩, []⟩), (20, ⟨[0, 4], ⟨[.str, .int .i64], []⟩, [], [], [], 0, [], ⟨[], []⟩, []⟩), (31, ⟨[12], ⟨[.int .i64], []⟩, [], [], [], 0, [], ⟨[], []⟩, []⟩)], []⟩) (exS := ⟨[.int .i64], []⟩) Tryz.f68 (memC zpg (memC zkZ (memC zrO Zk))) (by kernel_rfl) (by kernel_rfl) fun x => by kernel_rfl
theorem zck : zz Tryz.prog (zar ZE) :=
 okC (A := ⟨[zaq ZC, zbB qN, qB zw, ZL zx, zn ze], [], [], 1, [], [(9, ⟨[], ⟨[], [(0, .row 100), (1, .row 51), (2, .row 51)]⟩, [2, 5], [], [0, 1, 2], 0, [], ⟨[], []⟩, []⟩)], []⟩) (exS := ⟨[.optr 1], [(0, .row 100), (1, .row 51)]⟩) Tryz.f152 (memC zcj (memC zdP (memC Qy (memC qo (memC zo Zk))))) (by kernel_rfl) (by kernel_rfl) fun x => by kernel_rfl
theorem zdN : zz Tryz.prog (zbz Zz) :=
 okC (A := ⟨[zn ze, Ze zm, QP Zp], [], [], 1, [(1, ⟨[], ⟨[], [(0, .row 100), (1, .row 51)]⟩, [0, 2], [], [0, 1], 0, [], ⟨[], []⟩, []⟩)], [], []⟩) (exS := ⟨[.optr 1], [(0, .row 100), (1, .row 51)]⟩) Tryz.f216 (memC zo (memC Zo (memC zbL Zk))) (by kernel_rfl) (by kernel_rfl) fun x => by kernel_rfl
theorem zdO : zz Tryz.prog (zbA qM) :=
 okC (A := ⟨[qh zH, zn ze, QB Zr, zbz Zz, QQ ZF, Ze zm, ZB zu], [(18, [3])], [], 1, [(3, ⟨[3], ⟨[.own 1837], [(0, .row 100), (1, .row 51), (1837, .sl 5)]⟩, [0, 2], [], [0, 1], 0, [], ⟨[], []⟩, []⟩)], [(10, ⟨[3, 4], ⟨[.own 1837, .int .i64], [(0, .row 100), (1, .row 51), (1837, .sl 5)]⟩, [], [], [0, 1, 1837], 0, [], ⟨[], []⟩, []⟩)], []⟩) (exS := ⟨[.optr 1], [(0, .row 100), (1, .row 51)]⟩) Tryz.f196 (memC Qm (memC zo (memC QW (memC zdN (memC zaE (memC Zo (memC qd Zk))))))) (by kernel_rfl) (by kernel_rfl) fun x => by kernel_rfl
theorem zcS : zz Tryz.prog (za3 zM) :=
 okC (A := ⟨[ZL zx, zn ze, zcs Q3, qh zH, zbA qM], [], [], 1, [], [(11, ⟨[], ⟨[], [(0, .row 100), (1, .row 51)]⟩, [2, 3], [], [0, 1], 0, [], ⟨[], []⟩, []⟩)], []⟩) (exS := ⟨[.optr 1], [(0, .row 100), (1, .row 51)]⟩) Tryz.f153 (memC qo (memC zo (memC zd6 (memC Qm (memC zdO Zk))))) (by kernel_rfl) (by kernel_rfl) fun x => by kernel_rfl
theorem zdo : zz Tryz.prog (zbc Zd) :=
 okC (A := ⟨[zn ze, QB Zr, qh zH, zaN ZQ, zbZ qR, Ze zm, qB zw, ZL zx, zaM zS, zar ZE, Zx strings_HasPrefix, za3 zM, Z0 strings_IndexByte], [], [], 1, [], [], []⟩) (exS := ⟨[.optr 1], [(0, .row 100), (1, .row 51)]⟩) Tryz.f104 (memC zo (memC QW (memC Qm (memC zcK (memC zdn (memC Zo (memC Qy (memC qo (memC zcJ (memC zck (memC ZP (memC zcS (memC qC Zk))))))))))))) (by kernel_rfl) (by kernel_rfl) fun x => by kernel_rfl
theorem zes : zz Tryz.prog (zbQ qg) :=
 okC (A := ⟨[], [(1, [2])], [], 2, [], [], []⟩) (exS := ⟨[], [(0, .cells 41 [.own 2]), (2, .sl 51)]⟩) Tryz.f57 Zk (by kernel_rfl) (by kernel_rfl) fun x => by kernel_rfl
theorem zhc : zz Tryz.prog (zdX zai) :=
 okC (A := ⟨[zms zeG, zab zJ, zbc Zd, zbQ qg], [], [], 1, [(7, ⟨[7], ⟨[.int .i64], [(0, .cells 41 [.own 1838]), (1838, .sl 51), (1, .row 100)]⟩, [0, 1, 6], [], [0, 1], 0, [], ⟨[], [(0, .cells 41 [.own 1838]), (1838, .sl 51), (1, .row 100)]⟩, [0, 1, 1838]⟩)], [], []⟩) (exS := ⟨[.int .i64], [(0, .cells 41 [.own 1]), (1, .sl 51)]⟩) Tryz.f56 (memC zpf (memC zb4 (memC zdo (memC zes Zk)))) (by kernel_rfl) (by kernel_rfl) fun x => by kernel_rfl
theorem zdm : zz Tryz.prog (zbY qw) :=
 okC (A := ⟨[zdX zai], [], [], 0, [], [], []⟩) (exS := ⟨[.sl 51, .int .i64], []⟩) Tryz.f24 (memC zhc Zk) (by kernel_rfl) (by kernel_rfl) fun x => by kernel_rfl
theorem zdk : zz Tryz.prog (zba qp) :=
 okC (A := ⟨[], [], [], 0, [(4, ⟨[13], ⟨[.int .i64], []⟩, [0, 1, 12], [], [], 0, [], ⟨[], []⟩, []⟩)], [], []⟩) (exS := ⟨[.bool], []⟩) Tryz.f55 Zk (by kernel_rfl) (by kernel_rfl) fun x => by kernel_rfl
theorem zjn : zz Tryz.prog (zfN zcc) :=
 okC (A := ⟨[zfM zaQ, zcX zaR, zeC zbF, zbY qw, zba qp], [(24, [5])], [], 0, [(7, ⟨[5, 6, 7], ⟨[.own 1940, .own 1941, .int .i64], [(1940, .sl 5), (1941, .sl 89)]⟩, [0], [], [], 0, [5], ⟨[.own 1940], [(1940, .sl 5)]⟩, [1940]⟩), (11, ⟨[9, 36], ⟨[.own 1521, .int .i64], [(1521, .sl 5)]⟩, [5, 6, 7, 8, 34, 35], [1940, 1941], [], 2, [9], ⟨[.own 1521], [(1521, .sl 5)]⟩, [1521]⟩)], [(17, ⟨[5, 6, 7, 9], ⟨[.own 1940, .own 1941, .int .i64, .own 2043], [(1940, .sl 5), (1941, .sl 89), (2043, .sl 5)]⟩, [8], [], [1940, 1941], 0, [], ⟨[], []⟩, []⟩), (21, ⟨[5, 6, 7], ⟨[.own 1940, .own 1941, .int .i64], [(1940, .sl 5), (1941, .sl 89), (2044, .row 89)]⟩, [9, 12], [2043], [1940, 1941, 2044], 0, [], ⟨[], []⟩, []⟩), (24, ⟨[5, 6, 7], ⟨[.own 2148, .own 1941, .int .i64], [(1941, .sl 89), (2148, .sl 5)]⟩, [], [2044], [1941], 0, [], ⟨[], []⟩, []⟩)], []⟩) (exS := ⟨[.str, .int .i64], []⟩) Tryz.f23 (memC zjm (memC zeY (memC zhS (memC zdm (memC zdk Zk))))) (by kernel_rfl) (by kernel_rfl) fun x => by kernel_rfl
theorem zhb : zz Tryz.prog (zdW zI) :=
 okC (A := ⟨[zfN zcc], [], [], 0, [], [], []⟩) (exS := ⟨[.bool], []⟩) Tryz.f29 (memC zjn Zk) (by kernel_rfl) (by kernel_rfl) fun x => by kernel_rfl
theorem zhU : zz Tryz.prog (zeE Qx) :=
 okC (A := ⟨[zct Z5, zdW zI], [(1, [1, 5, 10, 16, 22, 27])], [], 0, [], [], []⟩) (exS := ⟨[.bool], []⟩) Tryz.f22 (memC zd7 (memC zhb Zk)) (by kernel_rfl) (by kernel_rfl) fun x => by kernel_rfl
theorem zkX : zz Tryz.prog (zgx Qg) :=
 okC (A := ⟨[Z0 strings_IndexByte, zcV ZX, zeA Q0], [], [], 0, [], [], []⟩) (exS := ⟨[.str, .int .i64], []⟩) Tryz.f32 (memC qC (memC zeX (memC zhQ Zk))) (by kernel_rfl) (by kernel_rfl) fun x => by kernel_rfl
theorem zjq : zz Tryz.prog (zfP zco) :=
 okC (A := ⟨[qB zw, ZL zx], [], [], 0, [], [], []⟩) (exS := ⟨[.str, .int .i64], []⟩) Tryz.f38 (memC Qy (memC qo Zk)) (by kernel_rfl) (by kernel_rfl) fun x => by kernel_rfl
theorem zeZ : zz Tryz.prog (zca zav) :=
 okC (A := ⟨[zeE Qx, zgx Qg, zfP zco, zbY qw, zct Z5], [], [], 0, [], [], []⟩) (exS := ⟨[.bool], []⟩) Tryz.f10 (memC zhU (memC zkX (memC zjq (memC zdm (memC zd7 Zk))))) (by kernel_rfl) (by kernel_rfl) fun x => by kernel_rfl
end Go.Lv.VT
