/- DERIVED: LAID BY THE SHELF's contract.sh OFF ITS TEMPLATE 'internal/stringslite.IndexByte' FOR THE PROGRAM 'Tryz' (the function's number there: 144). THE LIBRARY's OWN TEXT IS WALKED: nothing is assumed of it; where it calls a function without a Go body (internal/bytealg), THE MODEL's OWN ENTRY stands in, by its law (Derived/Lib/Bytealg.lean). Behind the contract: ONE FALSE NEIGHBOUR, a contract that says a little too much, REFUTED. (The template: the authors, an AI agent; Sun.) -/
import Derived.Test.YtnfhfeipljhciaaGreatChecked
import Derived.Lib.Strings
import Derived.Lib.Slices
import Derived.Lib.Walk
import Derived.Lib.Bytealg
import Derived.Test.YtnfhfeipljhciaaGreatTx
import Derived.Test.YtnfhfeipljhciaaGreatIp
import Derived.Test.YtnfhfeipljhciaaGreatLf
namespace Go.Proofs
set_option maxHeartbeats 1000000 in
set_option maxRecDepth 100000 in
theorem Tryz.stringslite_IndexByte (s : ByteArray) (c : Int) (w : World) :
  Calls Tryz.prog 144 #[.string s, .int .u8 c] w fun e w' => e = .returned (.int .i64 (Lib.indexByte s.data.toList c.toNat.toUInt8)) ∧ w' = w := by
 go_enter Tryz.func144, Tryz.ntmps144
 go_wp2
 rw [run_callFunc_extern Tryz.func174 (by kernel_rfl) (by kernel_rfl) (by kernel_rfl) (e := Extern.BytealgIndexByte.indexByte) (by kernel_rfl), Lib.run_indexByteString]
 simp only [Result.andThen]
 rw [Oper.upon_value]
 go_wp2
 go_ret
 exact ⟨rfl, rfl⟩
#print axioms Tryz.stringslite_IndexByte
end Go.Proofs

namespace Go.Proofs
set_option maxHeartbeats 2000000 in
set_option maxRecDepth 100000 in
theorem Tryz.stringslite_Index_one (s : ByteArray) (c : UInt8) (w : World) :
  Calls Tryz.prog 209 #[.string s, .string ⟨#[c]⟩] w fun e w' => e = .returned (.int .i64 (Lib.indexByte s.data.toList c)) ∧ w' = w := by
 go_enter Tryz.func209, Tryz.ntmps209
 go_wp2_with (go_at_call 144; refine (Tryz.stringslite_IndexByte _ _ _).mono ?_; rintro e w' ⟨rfl, rfl⟩)
 ·have h : ([c] == s.toList) = true := by assumption
  go_ret
  refine ⟨?_, rfl⟩
  have e : s.data.toList = [c] := by rw [← Lib.toList_data]; exact (beq_iff_eq.1 h).symm
  rw [e]
  simp [Lib.indexByte]
 ·go_ret
  exact ⟨rfl, rfl⟩
theorem Tryz.stringslite_Index_one_not : ¬ ∀ (s : ByteArray) (c : UInt8) (w : World),
  Calls Tryz.prog 209 #[.string s, .string ⟨#[c]⟩] w fun e w' => e = .returned (.int .i64 ((s.size : Int) - 1 - Lib.indexByte s.data.toList.reverse c)) ∧ w' = w := by
 intro h
 have e := Lib.agree (by kernel_rfl) (Tryz.stringslite_Index_one ⟨#[97, 97]⟩ 97 default) (h ⟨#[97, 97]⟩ 97 default)
 injection e with _ e
 revert e
 decide
#print axioms Tryz.stringslite_Index_one
#print axioms Tryz.stringslite_Index_one_not
end Go.Proofs

namespace Go.Lv.VT
set_option maxRecDepth 100000
open Go.Proofs
theorem okC {con : Con I} {A : Env0 I} {exS : StSh} (f : Go.Func) (hS : ∀ c ∈ A.S, zg Tryz.prog c) (hf : Tryz.prog.funcs[con.f]? = some f) (h : chk con A f = true) (he : ∀ x, evF2 A T FK f.ntmps (rsl f) (body f) con exS x = con.F x) : zg Tryz.prog con :=
 okC0 mixed ipOK tok rfl rfl hS hf h he
noncomputable def zdY (F : List zb × Int → Option Int) : Con I := ⟨87, ⟨[.sl 137, .int .i64], []⟩, [], ⟨[.int .i64], []⟩, 0, F⟩
noncomputable def zkY (F : List zb → Option Bool) : Con I := ⟨43, ⟨[.sl 137], []⟩, [], ⟨[.bool], []⟩, 0, F⟩
noncomputable def zdX (F : List zf × Int → Option Int) : Con I := ⟨29, ⟨[.sl 99, .int .i64], []⟩, [], ⟨[.int .i64], []⟩, 0, F⟩
noncomputable def zdC (F : Int → Option Int) : Con I := ⟨59, ⟨[.int .u8], []⟩, [], ⟨[.int .u8], []⟩, 0, F⟩
noncomputable def zaq (F : List zf → Option Int) : Con I := ⟨30, ⟨[.sl 99], []⟩, [], ⟨[.int .i64], []⟩, 0, F⟩
noncomputable def zhl (F : List Zh → Option Bool) : Con I := ⟨44, ⟨[.sl 29], []⟩, [], ⟨[.bool], []⟩, 0, F⟩
noncomputable def zcm (F : zk × Int → Option Int) : Con I := ⟨88, ⟨[.val 32, .int .i64], []⟩, [], ⟨[.int .i64], []⟩, 0, F⟩
noncomputable def zdZ (F : zk → Option Bool) : Con I := ⟨89, ⟨[.val 32], []⟩, [], ⟨[.bool], []⟩, 0, F⟩
noncomputable def zk1 (F : zk → Option Bool) : Con I := ⟨45, ⟨[.val 32], []⟩, [], ⟨[.bool], []⟩, 0, F⟩
noncomputable def zba (F : List zu × Int → Option Bool) : Con I := ⟨24, ⟨[.sl 35, .int .i64], []⟩, [], ⟨[.bool], []⟩, 0, F⟩
noncomputable def QM (F : List zu → Option Int) : Con I := ⟨25, ⟨[.sl 35], []⟩, [], ⟨[.int .i64], []⟩, 0, F⟩
noncomputable def zk3 (F : List zu → Option Bool) : Con I := ⟨6, ⟨[.sl 35], []⟩, [], ⟨[.bool], []⟩, 0, F⟩
noncomputable def qo (F : Str × Int → Option Int) : Con I := ⟨93, ⟨[.str, .int .u8], []⟩, [], ⟨[.int .i64], []⟩, 0, F⟩
noncomputable def zij (F : Str → Option Bool) : Con I := ⟨92, ⟨[.str], []⟩, [], ⟨[.bool], []⟩, 0, F⟩
noncomputable def zbe (F : List Str → Option Int) : Con I := ⟨143, ⟨[.sl 9, .clo 92 []], []⟩, [], ⟨[.int .i64], []⟩, 0, F⟩
noncomputable def zas (F : List Str → Option Bool) : Con I := ⟨91, ⟨[.sl 9, .clo 92 []], []⟩, [], ⟨[.bool], []⟩, 0, F⟩
noncomputable def zk8 (F : List Str → Option Bool) : Con I := ⟨48, ⟨[.sl 9], []⟩, [], ⟨[.bool], []⟩, 0, F⟩
noncomputable def zjR (F : List Str → Option Bool) : Con I := ⟨47, ⟨[.sl 9], []⟩, [], ⟨[.bool], []⟩, 0, F⟩
noncomputable def zbU (F : List (List Str) → Option Int) : Con I := ⟨90, ⟨[.sl 87, .clo 47 []], []⟩, [], ⟨[.int .i64], []⟩, 0, F⟩
noncomputable def za2 (F : List (List Str) → Option Bool) : Con I := ⟨46, ⟨[.sl 87, .clo 47 []], []⟩, [], ⟨[.bool], []⟩, 0, F⟩
noncomputable def zaJ (F : List zb → Option Int) : Con I := ⟨49, ⟨[.sl 137], []⟩, [], ⟨[.int .i64], []⟩, 0, F⟩
noncomputable def zgl (F : Str × Int → Option Bool) : Con I := ⟨198, ⟨[.str, .int .i64], []⟩, [], ⟨[.bool], []⟩, 0, F⟩
noncomputable def zfd (F : Str → Option Bool) : Con I := ⟨194, ⟨[.str], []⟩, [], ⟨[.bool], []⟩, 0, F⟩
noncomputable def zcG (F : Str → Option Str) : Con I := ⟨64, ⟨[.str], []⟩, [], ⟨[.str], []⟩, 0, F⟩
noncomputable def zfe (F : Str → Option Bool) : Con I := ⟨176, ⟨[.str], []⟩, [], ⟨[.bool], []⟩, 0, F⟩
noncomputable def zii (F : zy → Option (Bool × Bool)) : Con I := ⟨195, ⟨[.val 144], []⟩, [], ⟨[.bool, .bool], []⟩, 0, F⟩
noncomputable def zfW (F : zn × Int → Option (zn × Bool)) : Con I := ⟨196, ⟨[.val 148, .int .u8], []⟩, [], ⟨[.val 148, .bool], []⟩, 0, F⟩
noncomputable def znb (F : Int → Option Bool) : Con I := ⟨207, ⟨[.int .i64], []⟩, [], ⟨[.bool], []⟩, 0, F⟩
noncomputable def zoM (F : VAnb → Option Int) : Con I := ⟨199, ⟨[.val 142], []⟩, [], ⟨[.int .i64], []⟩, 0, F⟩
noncomputable def zfX (F : zb × zn × zy → Option Bool) : Con I := ⟨197, ⟨[.val 137, .optr 0, .optr 1], [(0, .row 148), (1, .row 144)]⟩, [0, 1], ⟨[.bool], []⟩, 0, F⟩
noncomputable def za3 (F : List zb × zn × zy → Option Int) : Con I := ⟨145, ⟨[.sl 137, .clo 197 [0, 1]], [(0, .row 148), (1, .row 144)]⟩, [0, 1], ⟨[.int .i64], []⟩, 0, F⟩
noncomputable def Q3 (F : List zb × zn × zy → Option Bool) : Con I := ⟨94, ⟨[.sl 137, .clo 197 [0, 1]], [(0, .row 148), (1, .row 144)]⟩, [0, 1], ⟨[.bool], []⟩, 0, F⟩
noncomputable def zhU (F : zy × zn → Option Bool) : Con I := ⟨177, ⟨[.val 144, .val 148], []⟩, [], ⟨[.bool], []⟩, 0, F⟩
noncomputable def zfV (F : zA × zn → Option Bool) : Con I := ⟨148, ⟨[.val 140, .val 148], []⟩, [], ⟨[.bool], []⟩, 0, F⟩
noncomputable def zgK (F : zA × zn → Option Bool) : Con I := ⟨147, ⟨[.val 140, .optr 0], [(0, .row 148)]⟩, [0], ⟨[.bool], []⟩, 0, F⟩
noncomputable def zbd (F : List zA × zn → Option Int) : Con I := ⟨175, ⟨[.sl 140, .clo 147 [0]], [(0, .row 148)]⟩, [0], ⟨[.int .i64], []⟩, 0, F⟩
noncomputable def zar (F : List zA × zn → Option Bool) : Con I := ⟨146, ⟨[.sl 140, .clo 147 [0]], [(0, .row 148)]⟩, [0], ⟨[.bool], []⟩, 0, F⟩
noncomputable def Zj (F : zb × zn × Bool → Option Bool) : Con I := ⟨96, ⟨[.val 137, .val 148, .bool], []⟩, [], ⟨[.bool], []⟩, 0, F⟩
noncomputable def zgJ (F : zb → Option Bool) : Con I := ⟨95, ⟨[.val 137], []⟩, [], ⟨[.bool], []⟩, 0, F⟩
noncomputable def zbI (F : List zb → Option Int) : Con I := ⟨145, ⟨[.sl 137, .clo 95 []], []⟩, [], ⟨[.int .i64], []⟩, 0, F⟩
noncomputable def zaK (F : List zb → Option Bool) : Con I := ⟨94, ⟨[.sl 137, .clo 95 []], []⟩, [], ⟨[.bool], []⟩, 0, F⟩
noncomputable def zbb (F : List zb → Option Int) : Con I := ⟨97, ⟨[.sl 137], []⟩, [], ⟨[.int .i64], []⟩, 0, F⟩
noncomputable def zih (F : List zb → Option Int) : Con I := ⟨50, ⟨[.sl 137], []⟩, [], ⟨[.int .i64], []⟩, 0, F⟩
noncomputable def zk7 (F : zk → Option Bool) : Con I := ⟨51, ⟨[.val 32], []⟩, [], ⟨[.bool], []⟩, 0, F⟩
noncomputable def zeA (F : Int → Option Int) : Con I := ⟨129, ⟨[.int .u8], []⟩, [], ⟨[.int .u8], []⟩, 0, F⟩
noncomputable def zdi (F : List zf × Int → Option zS) : Con I := ⟨72, ⟨[.sl 99, .int .u8], []⟩, [], ⟨[.val 113], []⟩, 0, F⟩
noncomputable def zic (F : List zf → Option Int) : Con I := ⟨36, ⟨[.sl 99], []⟩, [], ⟨[.int .i64], []⟩, 0, F⟩
noncomputable def zfT (F : List zf → Option (Int × Int)) : Con I := ⟨52, ⟨[.sl 99], []⟩, [], ⟨[.int .i64, .int .i64], []⟩, 0, F⟩
noncomputable def zcH (F : List zf × List zm → Option (List zm)) : Con I := ⟨149, ⟨[.own 0, .sl 99], [(0, .sl 97)]⟩, [], ⟨[.own 1], [(1, .sl 97)]⟩, 1, F⟩
noncomputable def zkP (F : List zf → Option (List zm)) : Con I := ⟨149, ⟨[.nilv, .sl 99], []⟩, [], ⟨[.own 0], [(0, .sl 97)]⟩, 1, F⟩
noncomputable def zoR (F : List zf → Option (List zm × Int)) : Con I := ⟨98, ⟨[.sl 99], []⟩, [], ⟨[.sl 97, .int .i64], []⟩, 0, F⟩
noncomputable def zaA (F : Str × Str → Option Bool) : Con I := ⟨154, ⟨[.str, .str], []⟩, [], ⟨[.bool], []⟩, 0, F⟩
noncomputable def zaz (F : Str × Str → Option Bool) : Con I := ⟨106, ⟨[.str, .str], []⟩, [], ⟨[.bool], []⟩, 0, F⟩
noncomputable def zne (F : Str → Option Bool) : Con I := ⟨99, ⟨[.str], []⟩, [], ⟨[.bool], []⟩, 0, F⟩
noncomputable def zcr (F : Str × Str → Option Str) : Con I := ⟨208, ⟨[.str, .str], []⟩, [], ⟨[.str], []⟩, 0, F⟩
noncomputable def zey (F : Str × Str → Option Str) : Con I := ⟨200, ⟨[.str, .str], []⟩, [], ⟨[.str], []⟩, 0, F⟩
noncomputable def zib (F : Int → Option Bool) : Con I := ⟨201, ⟨[.int .u8], []⟩, [], ⟨[.bool], []⟩, 0, F⟩
noncomputable def zjC (F : Str → Option Bool) : Con I := ⟨178, ⟨[.str], []⟩, [], ⟨[.bool], []⟩, 0, F⟩
noncomputable def zkN (F : Int → Option Bool) : Con I := ⟨202, ⟨[.int .u8], []⟩, [], ⟨[.bool], []⟩, 0, F⟩
noncomputable def zng (F : Int → Option Bool) : Con I := ⟨179, ⟨[.int .u8], []⟩, [], ⟨[.bool], []⟩, 0, F⟩
noncomputable def zik (F : Str × Str → Option Int) : Con I := ⟨203, ⟨[.str, .str], []⟩, [], ⟨[.int .i64], []⟩, 0, F⟩
noncomputable def zfY (F : Str × Str → Option Bool) : Con I := ⟨180, ⟨[.str, .str], []⟩, [], ⟨[.bool], []⟩, 0, F⟩
noncomputable def zoQ (F : zm → Option Bool) : Con I := ⟨150, ⟨[.val 97], []⟩, [], ⟨[.bool], []⟩, 0, F⟩
noncomputable def zjD (F : (Int × Int) × List zm → Option Bool) : Con I := ⟨181, ⟨[.int .i64, .int .u8, .optr 0], [(0, .row 107)]⟩, [0], ⟨[.bool], []⟩, 0, F⟩
noncomputable def zkO (F : Str × Str → Option Bool) : Con I := ⟨119, ⟨[.str, .str], []⟩, [], ⟨[.bool], []⟩, 0, F⟩
noncomputable def znh (F : List zm → Option Int) : Con I := ⟨151, ⟨[.sl 97], []⟩, [], ⟨[.int .i64], []⟩, 0, F⟩
noncomputable def znf (F : List zm → Option Int) : Con I := ⟨100, ⟨[.sl 97], []⟩, [], ⟨[.int .i64], []⟩, 0, F⟩
noncomputable def zia (F : zf × Int → Option Bool) : Con I := ⟨104, ⟨[.val 99, .int .u8], []⟩, [], ⟨[.bool], []⟩, 0, F⟩
noncomputable def zhR (F : zf → Option Bool) : Con I := ⟨152, ⟨[.val 99], []⟩, [], ⟨[.bool], []⟩, 0, F⟩
noncomputable def zcq (F : List zf → Option Int) : Con I := ⟨153, ⟨[.sl 99, .clo 152 []], []⟩, [], ⟨[.int .i64], []⟩, 0, F⟩
noncomputable def zbc (F : List zf → Option Bool) : Con I := ⟨102, ⟨[.sl 99, .clo 152 []], []⟩, [], ⟨[.bool], []⟩, 0, F⟩
noncomputable def qY (F : List zf → Option Bool) : Con I := ⟨101, ⟨[.sl 99], []⟩, [], ⟨[.bool], []⟩, 0, F⟩
noncomputable def zoP (F : zf → Option Bool) : Con I := ⟨105, ⟨[.val 99], []⟩, [], ⟨[.bool], []⟩, 0, F⟩
noncomputable def zjB (F : zf → Option Bool) : Con I := ⟨103, ⟨[.val 99], []⟩, [], ⟨[.bool], []⟩, 0, F⟩
noncomputable def zbJ (F : List zf → Option Int) : Con I := ⟨153, ⟨[.sl 99, .clo 103 []], []⟩, [], ⟨[.int .i64], []⟩, 0, F⟩
noncomputable def zaL (F : List zf → Option Bool) : Con I := ⟨102, ⟨[.sl 99, .clo 103 []], []⟩, [], ⟨[.bool], []⟩, 0, F⟩
noncomputable def zh9 (F : Zh → Option Int) : Con I := ⟨53, ⟨[.val 29], []⟩, [], ⟨[.int .i64], []⟩, 0, F⟩
noncomputable def zcK (F : zk → Option Int) : Con I := ⟨54, ⟨[.val 32], []⟩, [], ⟨[.int .i64], []⟩, 0, F⟩
noncomputable def ze7 (F : zk → Option Bool) : Con I := ⟨110, ⟨[.val 32], []⟩, [], ⟨[.bool], []⟩, 0, F⟩
noncomputable def zd5 (F : List Str × Str → Option Int) : Con I := ⟨166, ⟨[.sl 9, .str], []⟩, [], ⟨[.int .i64], []⟩, 0, F⟩
noncomputable def zcp (F : List Str × Str → Option Bool) : Con I := ⟨120, ⟨[.sl 9, .str], []⟩, [], ⟨[.bool], []⟩, 0, F⟩
noncomputable def zkK (F : Str → Option Bool) : Con I := ⟨65, ⟨[.str], []⟩, [], ⟨[.bool], []⟩, 0, F⟩
noncomputable def zkM (F : List Int → Option Int) : Con I := ⟨167, ⟨[.sl 2], []⟩, [], ⟨[.int .i64], []⟩, 0, F⟩
noncomputable def zkL (F : Int → Option Int) : Con I := ⟨121, ⟨[.int .i64], []⟩, [], ⟨[.int .i64], []⟩, 0, F⟩
noncomputable def znd (F : zk → Option Bool) : Con I := ⟨156, ⟨[.val 32], []⟩, [], ⟨[.bool], []⟩, 0, F⟩
noncomputable def znc (F : zk → Option Bool) : Con I := ⟨157, ⟨[.val 32], []⟩, [], ⟨[.bool], []⟩, 0, F⟩
noncomputable def zoN (F : zk → Option Bool) : Con I := ⟨109, ⟨[.val 32], []⟩, [], ⟨[.bool], []⟩, 0, F⟩
noncomputable def ze6 (F : zk → Option Bool) : Con I := ⟨108, ⟨[.val 32], []⟩, [], ⟨[.bool], []⟩, 0, F⟩
noncomputable def zcN (F : List zk → Option Int) : Con I := ⟨155, ⟨[.sl 32, .clo 108 []], []⟩, [], ⟨[.int .i64], []⟩, 0, F⟩
noncomputable def zbH (F : List zk → Option Bool) : Con I := ⟨107, ⟨[.sl 32, .clo 108 []], []⟩, [], ⟨[.bool], []⟩, 0, F⟩
noncomputable def zgF (F : zk → Option Int) : Con I := ⟨55, ⟨[.val 32], []⟩, [], ⟨[.int .i64], []⟩, 0, F⟩
noncomputable def zd2 (F : zk → Option Int) : Con I := ⟨56, ⟨[.val 32], []⟩, [], ⟨[.int .i64], []⟩, 0, F⟩
noncomputable def zoO (F : zk → Option Bool) : Con I := ⟨131, ⟨[.val 32], []⟩, [], ⟨[.bool], []⟩, 0, F⟩
noncomputable def ze8 (F : zk × Int → Option ((Int × Bool) × Int)) : Con I := ⟨74, ⟨[.val 32, .optr 0], [(0, .row 3)]⟩, [], ⟨[.int .i64, .bool], [(0, .row 3)]⟩, 0, F⟩
noncomputable def zev (F : zk → Option Int) : Con I := ⟨38, ⟨[.val 32], []⟩, [], ⟨[.int .i64], []⟩, 0, F⟩
noncomputable def zd1 (F : List zu → Option zo) : Con I := ⟨26, ⟨[.sl 35], []⟩, [], ⟨[.val 64], []⟩, 0, F⟩
noncomputable def zhr (F : List zu → Option Int) : Con I := ⟨27, ⟨[.sl 35], []⟩, [], ⟨[.int .i64], []⟩, 0, F⟩
noncomputable def zhq (F : Zo → Option Int) : Con I := ⟨9, ⟨[.val 24], []⟩, [], ⟨[.int .i64], []⟩, 0, F⟩
noncomputable def zgL (F : zu → Option Int) : Con I := ⟨11, ⟨[.val 35], []⟩, [], ⟨[.int .i64], []⟩, 0, F⟩
noncomputable def zfh (F : List zu → Option (List zu)) : Con I := ⟨78, ⟨[.sl 35], []⟩, [], ⟨[.own 0], [(0, .sl 35)]⟩, 1, F⟩
noncomputable def zde (F : List zb → Option (List zb)) : Con I := ⟨135, ⟨[.sl 137], []⟩, [], ⟨[.own 0], [(0, .sl 137)]⟩, 1, F⟩
noncomputable def zcL (F : List zA → Option (List zA)) : Con I := ⟨136, ⟨[.sl 140], []⟩, [], ⟨[.own 0], [(0, .sl 140)]⟩, 1, F⟩
noncomputable def zex (F : List UInt8 → Option (List UInt8)) : Con I := ⟨137, ⟨[.sl 5], []⟩, [], ⟨[.own 0], [(0, .sl 5)]⟩, 1, F⟩
noncomputable def zd3 (F : List zy → Option (List zy)) : Con I := ⟨138, ⟨[.sl 144], []⟩, [], ⟨[.own 0], [(0, .sl 144)]⟩, 1, F⟩
noncomputable def Q0 (F : List zb → Option (List zb)) : Con I := ⟨79, ⟨[.sl 137], []⟩, [], ⟨[.sl 137], []⟩, 0, F⟩
noncomputable def zfg (F : List Zh → Option (List Zh)) : Con I := ⟨139, ⟨[.sl 29], []⟩, [], ⟨[.own 0], [(0, .sl 29)]⟩, 1, F⟩
noncomputable def zew (F : List zf → Option (List zf)) : Con I := ⟨118, ⟨[.sl 99], []⟩, [], ⟨[.own 0], [(0, .sl 99)]⟩, 1, F⟩
noncomputable def zaV (F : List zf → Option (List zf)) : Con I := ⟨140, ⟨[.sl 99], []⟩, [], ⟨[.sl 99], []⟩, 0, F⟩
noncomputable def zk6 (F : List Zh → Option (List Zh)) : Con I := ⟨80, ⟨[.sl 29], []⟩, [], ⟨[.sl 29], []⟩, 0, F⟩
noncomputable def zff (F : List zk → Option (List zk)) : Con I := ⟨141, ⟨[.sl 32], []⟩, [], ⟨[.own 0], [(0, .sl 32)]⟩, 1, F⟩
noncomputable def QZ (F : zk → Option zk) : Con I := ⟨81, ⟨[.val 32], []⟩, [], ⟨[.val 32], []⟩, 0, F⟩
noncomputable def zd4 (F : List (List Str) → Option (List (List Str))) : Con I := ⟨82, ⟨[.sl 87], []⟩, [], ⟨[.own 0], [(0, .sl 87)]⟩, 1, F⟩
noncomputable def zcM (F : List Str → Option (List Str)) : Con I := ⟨83, ⟨[.sl 9], []⟩, [], ⟨[.own 0], [(0, .sl 9)]⟩, 1, F⟩
noncomputable def zco (F : List zu → Option (List zu)) : Con I := ⟨41, ⟨[.sl 35], []⟩, [], ⟨[.sl 35], []⟩, 0, F⟩
noncomputable def zjQ (F : Zo × zu × Int → Option (Zo × Int)) : Con I := ⟨19, ⟨[.val 24, .val 35, .int .i64], []⟩, [], ⟨[.val 24, .int .i64], []⟩, 0, F⟩
noncomputable def zho (F : Str × Int → Option Bool) : Con I := ⟨188, ⟨[.str, .int .i64], []⟩, [], ⟨[.bool], []⟩, 0, F⟩
noncomputable def zeD (F : Str → Option Bool) : Con I := ⟨164, ⟨[.str], []⟩, [], ⟨[.bool], []⟩, 0, F⟩
noncomputable def zeB (F : Int → Option Int) : Con I := ⟨169, ⟨[.int .u8], []⟩, [], ⟨[.int .u8], []⟩, 0, F⟩
noncomputable def zcI (F : Str → Option Str) : Con I := ⟨126, ⟨[.str], []⟩, [], ⟨[.str], []⟩, 0, F⟩
noncomputable def zhn (F : Str → Option Bool) : Con I := ⟨210, ⟨[.str], []⟩, [], ⟨[.bool], []⟩, 0, F⟩
noncomputable def zgk (F : zy → Option Qi) : Con I := ⟨193, ⟨[.val 144], []⟩, [], ⟨[.val 208], []⟩, 0, F⟩
noncomputable def zkV (F : VAnb → Option Bool) : Con I := ⟨218, ⟨[.val 142], []⟩, [], ⟨[.bool], []⟩, 0, F⟩
noncomputable def zk0 (F : zK × Int → Option (zK × Bool)) : Con I := ⟨223, ⟨[.val 197, .int .u8], []⟩, [], ⟨[.val 197, .bool], []⟩, 0, F⟩
noncomputable def zjI (F : List zb × zK × Int → Option Bool) : Con I := ⟨219, ⟨[.sl 137, .val 197, .int .u8], []⟩, [], ⟨[.bool], []⟩, 0, F⟩
noncomputable def zjJ (F : zy × zK → Option Bool) : Con I := ⟨211, ⟨[.val 144, .val 197], []⟩, [], ⟨[.bool], []⟩, 0, F⟩
noncomputable def zhT (F : zA × zK → Option Bool) : Con I := ⟨204, ⟨[.val 140, .val 197], []⟩, [], ⟨[.bool], []⟩, 0, F⟩
noncomputable def Qz (F : zb × zK × Bool → Option Bool) : Con I := ⟨182, ⟨[.val 137, .val 197, .bool], []⟩, [], ⟨[.bool], []⟩, 0, F⟩
noncomputable def zno (F : List zb → Option Bool) : Con I := ⟨158, ⟨[.sl 137], []⟩, [], ⟨[.bool], []⟩, 0, F⟩
noncomputable def zbR (F : List zb → Option Int) : Con I := ⟨159, ⟨[.sl 137], []⟩, [], ⟨[.int .i64], []⟩, 0, F⟩
noncomputable def zkW (F : List zb → Option Int) : Con I := ⟨111, ⟨[.sl 137], []⟩, [], ⟨[.int .i64], []⟩, 0, F⟩
noncomputable def zdW (F : List zf × List zf → Option Bool) : Con I := ⟨77, ⟨[.sl 99, .sl 99], []⟩, [], ⟨[.bool], []⟩, 0, F⟩
noncomputable def zhm (F : Zh × Zh → Option Bool) : Con I := ⟨40, ⟨[.val 29, .val 29], []⟩, [], ⟨[.bool], []⟩, 0, F⟩
noncomputable def zcl (F : zk × zk → Option Bool) : Con I := ⟨18, ⟨[.val 32, .val 32], []⟩, [], ⟨[.bool], []⟩, 0, F⟩
noncomputable def znp (F : zk → Option Bool) : Con I := ⟨112, ⟨[.val 32], []⟩, [], ⟨[.bool], []⟩, 0, F⟩
noncomputable def zkU (F : Str → Option Bool) : Con I := ⟨160, ⟨[.str], []⟩, [], ⟨[.bool], []⟩, 0, F⟩
noncomputable def zaU (F : List zf → Option (List zm)) : Con I := ⟨67, ⟨[.sl 99], []⟩, [], ⟨[.sl 97], []⟩, 0, F⟩
noncomputable def zbQ (F : List zf × Int → Option Bool) : Con I := ⟨68, ⟨[.sl 99, .int .u8], []⟩, [], ⟨[.bool], []⟩, 0, F⟩
noncomputable def zkT (F : List zf → Option Int) : Con I := ⟨34, ⟨[.sl 99], []⟩, [], ⟨[.int .i64], []⟩, 0, F⟩
noncomputable def zkS (F : Str → Option Bool) : Con I := ⟨212, ⟨[.str], []⟩, [], ⟨[.bool], []⟩, 0, F⟩
noncomputable def Qy (F : Int → Option Bool) : Con I := ⟨220, ⟨[.int .u8], []⟩, [], ⟨[.bool], []⟩, 0, F⟩
noncomputable def znl (F : Str → Option Bool) : Con I := ⟨213, ⟨[.str], []⟩, [], ⟨[.bool], []⟩, 0, F⟩
noncomputable def zcJ (F : Int → Option Bool) : Con I := ⟨224, ⟨[.int .u8], []⟩, [], ⟨[.bool], []⟩, 0, F⟩
noncomputable def QX (F : Str × Int → Option Int) : Con I := ⟨236, ⟨[.str, .int .i64], []⟩, [], ⟨[.int .u8], []⟩, 0, F⟩
noncomputable def zdB (F : Str × Int → Option Int) : Con I := ⟨225, ⟨[.str, .int .i64], []⟩, [], ⟨[.int .i64], []⟩, 0, F⟩
noncomputable def zid (F : Unit → Option Str) : Con I := ⟨242, ⟨[], []⟩, [], ⟨[.str], []⟩, 0, F⟩
noncomputable def zoS (F : Int → Option Int) : Con I := ⟨243, ⟨[.int .u8], []⟩, [], ⟨[.int .i64], []⟩, 0, F⟩
noncomputable def zni (F : Int → Option Str) : Con I := ⟨244, ⟨[.int .i64], []⟩, [], ⟨[.str], []⟩, 0, F⟩
noncomputable def za7 (F : Str × Int → Option (Str × Int)) : Con I := ⟨237, ⟨[.str, .int .i64], []⟩, [], ⟨[.str, .int .i64], []⟩, 0, F⟩
noncomputable def zjF (F : Str × Int → Option (zm × Int)) : Con I := ⟨226, ⟨[.str, .int .i64], []⟩, [], ⟨[.val 97, .int .i64], []⟩, 0, F⟩
noncomputable def zgj (F : Int → Option Bool) : Con I := ⟨238, ⟨[.int .u8], []⟩, [], ⟨[.bool], []⟩, 0, F⟩
noncomputable def zgh (F : Int → Option Bool) : Con I := ⟨227, ⟨[.int .u8], []⟩, [], ⟨[.bool], []⟩, 0, F⟩
noncomputable def zaT (F : Str × Int → Option Bool) : Con I := ⟨228, ⟨[.str, .int .i64], []⟩, [], ⟨[.bool], []⟩, 0, F⟩
noncomputable def zeC (F : Str × Int → Option (Str × Int)) : Con I := ⟨229, ⟨[.str, .int .i64], []⟩, [], ⟨[.str, .int .i64], []⟩, 0, F⟩
noncomputable def zgi (F : Str × Int → Option Bool) : Con I := ⟨230, ⟨[.str, .int .i64], []⟩, [], ⟨[.bool], []⟩, 0, F⟩
noncomputable def zhS (F : Str × Int → Option Bool) : Con I := ⟨231, ⟨[.str, .int .i64], []⟩, [], ⟨[.bool], []⟩, 0, F⟩
noncomputable def zjE (F : Str × Int → Option Int) : Con I := ⟨245, ⟨[.str, .int .i64], []⟩, [], ⟨[.int .i64], []⟩, 0, F⟩
noncomputable def zgG (F : Str × Int → Option (Int × Bool)) : Con I := ⟨239, ⟨[.str, .int .i64], []⟩, [], ⟨[.int .i64, .bool], []⟩, 0, F⟩
noncomputable def ze9 (F : Str → Option Int) : Con I := ⟨240, ⟨[.str], []⟩, [], ⟨[.int .i64], []⟩, 0, F⟩
noncomputable def zie (F : Str × Int → Option (zm × Int)) : Con I := ⟨232, ⟨[.str, .int .i64], []⟩, [], ⟨[.val 97, .int .i64], []⟩, 0, F⟩
noncomputable def zoV (F : Str × Int × Str → Option Bool) : Con I := ⟨233, ⟨[.str, .int .i64, .str], []⟩, [], ⟨[.bool], []⟩, 0, F⟩
noncomputable def zhj (F : Str × Str → Option Bool) : Con I := ⟨168, ⟨[.str, .str], []⟩, [], ⟨[.bool], []⟩, 0, F⟩
noncomputable def zoU (F : Str × Int → Option (zm × Int)) : Con I := ⟨246, ⟨[.str, .int .i64], []⟩, [], ⟨[.val 97, .int .i64], []⟩, 0, F⟩
noncomputable def zfa (F : Int → Option Bool) : Con I := ⟨247, ⟨[.int .u8], []⟩, [], ⟨[.bool], []⟩, 0, F⟩
noncomputable def zoW (F : Str × Int → Option (zm × Int)) : Con I := ⟨241, ⟨[.str, .int .i64], []⟩, [], ⟨[.val 97, .int .i64], []⟩, 0, F⟩
noncomputable def znk (F : Str × Int → Option (zm × Int)) : Con I := ⟨234, ⟨[.str, .int .i64], []⟩, [], ⟨[.val 97, .int .i64], []⟩, 0, F⟩
noncomputable def znj (F : Int → Option Int) : Con I := ⟨235, ⟨[.int .u8], []⟩, [], ⟨[.int .u8], []⟩, 0, F⟩
noncomputable def zoT (F : Str × Int → Option (zm × Int)) : Con I := ⟨221, ⟨[.str, .int .i64], []⟩, [], ⟨[.val 97, .int .i64], []⟩, 0, F⟩
noncomputable def zkR (F : Int → Option Bool) : Con I := ⟨214, ⟨[.int .u8], []⟩, [], ⟨[.bool], []⟩, 0, F⟩
noncomputable def znm (F : zm → Option Bool) : Con I := ⟨205, ⟨[.val 97], []⟩, [], ⟨[.bool], []⟩, 0, F⟩
noncomputable def zkQ (F : List zm → Option Int) : Con I := ⟨183, ⟨[.sl 97], []⟩, [], ⟨[.int .i64], []⟩, 0, F⟩
noncomputable def za8 (F : List zf → Option Bool) : Con I := ⟨184, ⟨[.sl 99], []⟩, [], ⟨[.bool], []⟩, 0, F⟩
noncomputable def zif (F : List zf → Option (List zf)) : Con I := ⟨69, ⟨[.sl 99], []⟩, [], ⟨[.sl 99], []⟩, 0, F⟩
noncomputable def zjG (F : Str → Option Bool) : Con I := ⟨185, ⟨[.str], []⟩, [], ⟨[.bool], []⟩, 0, F⟩
noncomputable def zjH (F : Str × List zf → Option Bool) : Con I := ⟨161, ⟨[.str, .sl 99], []⟩, [], ⟨[.bool], []⟩, 0, F⟩
noncomputable def zhk (F : Zh → Option Int) : Con I := ⟨113, ⟨[.val 29], []⟩, [], ⟨[.int .i64], []⟩, 0, F⟩
noncomputable def zhp (F : Zh → Option Bool) : Con I := ⟨186, ⟨[.val 29], []⟩, [], ⟨[.bool], []⟩, 0, F⟩
noncomputable def zbS (F : zk → Option Bool) : Con I := ⟨162, ⟨[.val 32], []⟩, [], ⟨[.bool], []⟩, 0, F⟩
noncomputable def zjL (F : Str → Option Bool) : Con I := ⟨127, ⟨[.str], []⟩, [], ⟨[.bool], []⟩, 0, F⟩
noncomputable def zr4 (F : Int → Option Bool) : Con I := ⟨170, ⟨[.int .i64], []⟩, [], ⟨[.bool], []⟩, 0, F⟩
noncomputable def zoX (F : zk → Option (Bool × Bool)) : Con I := ⟨187, ⟨[.val 32], []⟩, [], ⟨[.bool, .bool], []⟩, 0, F⟩
noncomputable def zk2 (F : zk → Option Bool) : Con I := ⟨163, ⟨[.val 32], []⟩, [], ⟨[.bool], []⟩, 0, F⟩
noncomputable def zjK (F : zk → Option Bool) : Con I := ⟨114, ⟨[.val 32], []⟩, [], ⟨[.bool], []⟩, 0, F⟩
noncomputable def zck (F : zk → Option Int) : Con I := ⟨133, ⟨[.val 32], []⟩, [], ⟨[.int .i64], []⟩, 0, F⟩
noncomputable def QY (F : zk → Option Bool) : Con I := ⟨134, ⟨[.val 32], []⟩, [], ⟨[.bool], []⟩, 0, F⟩
noncomputable def zfU (F : zk → Option Bool) : Con I := ⟨76, ⟨[.val 32], []⟩, [], ⟨[.bool], []⟩, 0, F⟩
noncomputable def zjM (F : List Str → Option Bool) : Con I := ⟨115, ⟨[.sl 9], []⟩, [], ⟨[.bool], []⟩, 0, F⟩
noncomputable def zbT (F : zu → Option Bool) : Con I := ⟨57, ⟨[.val 35], []⟩, [], ⟨[.bool], []⟩, 0, F⟩
noncomputable def zkX (F : zy → Option Bool) : Con I := ⟨165, ⟨[.val 144], []⟩, [], ⟨[.bool], []⟩, 0, F⟩
noncomputable def zaI (F : List zb → Option Int) : Con I := ⟨116, ⟨[.sl 137], []⟩, [], ⟨[.int .i64], []⟩, 0, F⟩
noncomputable def zfc (F : zu → Option Int) : Con I := ⟨117, ⟨[.val 35], []⟩, [], ⟨[.int .i64], []⟩, 0, F⟩
noncomputable def zd0 (F : List zu → Option Int) : Con I := ⟨58, ⟨[.sl 35], []⟩, [], ⟨[.int .i64], []⟩, 0, F⟩
noncomputable def zk5 (F : List zu → Option Bool) : Con I := ⟨28, ⟨[.sl 35], []⟩, [], ⟨[.bool], []⟩, 0, F⟩
noncomputable def zeE (F : Zo → Option Int) : Con I := ⟨10, ⟨[.val 24], []⟩, [], ⟨[.int .i64], []⟩, 0, F⟩
noncomputable def zgH (F : zu → Option Int) : Con I := ⟨12, ⟨[.val 35], []⟩, [], ⟨[.int .i64], []⟩, 0, F⟩
noncomputable def zjO (F : Zo × zu × Int → Option (Zo × Int)) : Con I := ⟨20, ⟨[.val 24, .val 35, .int .i64], []⟩, [], ⟨[.val 24, .int .i64], []⟩, 0, F⟩
noncomputable def zjP (F : Zo × Int → Option (Zo × Int)) : Con I := ⟨21, ⟨[.val 24, .int .i64], []⟩, [], ⟨[.val 24, .int .i64], []⟩, 0, F⟩
noncomputable def zjN (F : Zo × Int → Option (Zo × Int)) : Con I := ⟨22, ⟨[.val 24, .int .i64], []⟩, [], ⟨[.val 24, .int .i64], []⟩, 0, F⟩
noncomputable def zfb (F : List zy × List zy → Option Bool) : Con I := ⟨173, ⟨[.sl 144, .sl 144], []⟩, [], ⟨[.bool], []⟩, 0, F⟩
noncomputable def zkZ (F : zb × zb → Option Bool) : Con I := ⟨142, ⟨[.val 137, .val 137], []⟩, [], ⟨[.bool], []⟩, 0, F⟩
noncomputable def za9 (F : List zb × List zb → Option Bool) : Con I := ⟨84, ⟨[.sl 137, .sl 137], []⟩, [], ⟨[.bool], []⟩, 0, F⟩
noncomputable def znn (F : List Zh × List Zh → Option Bool) : Con I := ⟨85, ⟨[.sl 29, .sl 29], []⟩, [], ⟨[.bool], []⟩, 0, F⟩
noncomputable def zgI (F : List (List Str) × List (List Str) → Option Bool) : Con I := ⟨86, ⟨[.sl 87, .sl 87], []⟩, [], ⟨[.bool], []⟩, 0, F⟩
noncomputable def zk4 (F : zu × zu → Option Bool) : Con I := ⟨42, ⟨[.val 35, .val 35], []⟩, [], ⟨[.bool], []⟩, 0, F⟩
noncomputable def zcn (F : List zu × List zu → Option Bool) : Con I := ⟨23, ⟨[.sl 35, .sl 35], []⟩, [], ⟨[.bool], []⟩, 0, F⟩
noncomputable def zfS (F : Zo × zu × Int → Option Bool) : Con I := ⟨5, ⟨[.val 24, .val 35, .int .i64], []⟩, [], ⟨[.bool], []⟩, 0, F⟩
noncomputable def zx2 (F : Str × Str → Option Int) : Con I := ⟨209, ⟨[.str, .str], []⟩, [], ⟨[.int .i64], []⟩, 0, F⟩
theorem zA6 : zg Tryz.prog (zx2 zss) := zvk (by kernel_rfl : Tryz.prog.funcs[209]? = some Tryz.f209) (by kernel_rfl) (by kernel_rfl) Tryz.stringslite_Index_one
noncomputable def zu9 (F : Str × Int → Option Int) : Con I := ⟨144, ⟨[.str, .int .u8], []⟩, [], ⟨[.int .i64], []⟩, 0, F⟩
theorem zzn : zg Tryz.prog (zu9 ztp) := zz1 (by kernel_rfl : Tryz.prog.funcs[144]? = some Tryz.f144) (by kernel_rfl) (by kernel_rfl) Tryz.stringslite_IndexByte
theorem zut (Qv : List zb × Int → Option Int) (hs : zg Tryz.prog (zdY Qv)) : zg Tryz.prog (zdY (zcw Qv)) :=
 okC (A := ⟨[zdY Qv], [], [], 0, [(3, ⟨[5, 6], ⟨[.int .i64, .int .i64], []⟩, [0, 1, 4], [], [], 0, [5], ⟨[.int .i64], []⟩, []⟩), (7, ⟨[5, 7], ⟨[.int .i64, .int .i64], []⟩, [6], [], [], 2, [5], ⟨[.int .i64], []⟩, []⟩), (12, ⟨[5, 9], ⟨[.int .i64, .int .i64], []⟩, [7, 8], [], [], 4, [5], ⟨[.int .i64], []⟩, []⟩)], [], []⟩) (exS := ⟨[.int .i64], []⟩) Tryz.f87 (memC hs zC) (by kernel_rfl) (by kernel_rfl) fun x => by kernel_rfl
theorem ztX : zg Tryz.prog (zdY Qv) :=
 zg.recE (I := I) (P := Tryz.prog) (f := 87) (inS := ⟨[.sl 137, .int .i64], []⟩) (cst := []) (outS := ⟨[.int .i64], []⟩) (k := 0) (zcw) (by kernel_rfl) (fun S h => zut S h)
theorem zrw : zg Tryz.prog (zkY zfF) :=
 okC (A := ⟨[zdY Qv], [], [], 0, [], [], []⟩) (exS := ⟨[.bool], []⟩) Tryz.f43 (memC ztX zC) (by kernel_rfl) (by kernel_rfl) fun x => by kernel_rfl
theorem zur (Qu : List zf × Int → Option Int) (hs : zg Tryz.prog (zdX Qu)) : zg Tryz.prog (zdX (zcu Qu)) :=
 okC (A := ⟨[zdX Qu], [], [], 0, [(3, ⟨[5, 6], ⟨[.int .i64, .int .i64], []⟩, [0, 1, 4], [], [], 0, [5], ⟨[.int .i64], []⟩, []⟩)], [], []⟩) (exS := ⟨[.int .i64], []⟩) Tryz.f29 (memC hs zC) (by kernel_rfl) (by kernel_rfl) fun x => by kernel_rfl
theorem ztT : zg Tryz.prog (zdX Qu) :=
 zg.recE (I := I) (P := Tryz.prog) (f := 29) (inS := ⟨[.sl 99, .int .i64], []⟩) (cst := []) (outS := ⟨[.int .i64], []⟩) (k := 0) (zcu) (by kernel_rfl) (fun S h => zur S h)
theorem zft : zg Tryz.prog (zdC QG) :=
 okC (A := ⟨[], [], [], 0, [], [(6, ⟨[6], ⟨[.bool], []⟩, [3], [], [], 0, [], ⟨[], []⟩, []⟩)], []⟩) (exS := ⟨[.int .u8], []⟩) Tryz.f59 zC (by kernel_rfl) (by kernel_rfl) fun x => by kernel_rfl
theorem zup (ZP : List zf → Option Int) (hs : zg Tryz.prog (zaq ZP)) : zg Tryz.prog (zaq (zf5 ZP)) :=
 okC (A := ⟨[zdC QG, zaq ZP], [], [], 0, [(3, ⟨[3, 4], ⟨[.int .i64, .int .i64], []⟩, [0, 2], [], [], 0, [3], ⟨[.int .i64], []⟩, []⟩)], [(4, ⟨[3, 4], ⟨[.int .i64, .int .i64], []⟩, [], [], [], 0, [], ⟨[], []⟩, []⟩)], []⟩) (exS := ⟨[.int .i64], []⟩) Tryz.f30 (memC zft (memC hs zC)) (by kernel_rfl) (by kernel_rfl) fun x => by kernel_rfl
theorem zeO : zg Tryz.prog (zaq ZP) :=
 zg.recE (I := I) (P := Tryz.prog) (f := 30) (inS := ⟨[.sl 99], []⟩) (cst := []) (outS := ⟨[.int .i64], []⟩) (k := 0) (zf5) (by kernel_rfl) (fun S h => zup S h)
theorem zj1 : zg Tryz.prog (zhl zbn) :=
 okC (A := ⟨[zdX Qu, zaq ZP], [], [], 0, [(5, ⟨[3, 4], ⟨[.int .i64, .int .i64], []⟩, [0], [], [], 0, [], ⟨[], []⟩, []⟩)], [], []⟩) (exS := ⟨[.bool], []⟩) Tryz.f44 (memC ztT (memC zeO zC)) (by kernel_rfl) (by kernel_rfl) fun x => by kernel_rfl
theorem zuw (qg : zk × Int → Option Int) (hs : zg Tryz.prog (zcm qg)) : zg Tryz.prog (zcm (zcx qg)) :=
 okC (A := ⟨[zcm qg], [], [], 0, [(3, ⟨[5, 6], ⟨[.int .i64, .int .i64], []⟩, [1, 2, 4], [0], [], 0, [5], ⟨[.int .i64], []⟩, []⟩)], [], []⟩) (exS := ⟨[.int .i64], []⟩) Tryz.f88 (memC hs zC) (by kernel_rfl) (by kernel_rfl) fun x => by kernel_rfl
theorem zlK : zg Tryz.prog (zcm qg) :=
 zg.recE (I := I) (P := Tryz.prog) (f := 88) (inS := ⟨[.val 32, .int .i64], []⟩) (cst := []) (outS := ⟨[.int .i64], []⟩) (k := 0) (zcx) (by kernel_rfl) (fun S h => zuw S h)
theorem zux (Qx : zk → Option Bool) (hs : zg Tryz.prog (zdZ Qx)) : zg Tryz.prog (zdZ (zcy Qx)) :=
 okC (A := ⟨[zhl zbn, zdZ Qx], [(1, [2])], [], 0, [(4, ⟨[3], ⟨[.int .i64], []⟩, [1], [0], [], 0, [], ⟨[], []⟩, []⟩)], [], []⟩) (exS := ⟨[.bool], []⟩) Tryz.f89 (memC zj1 (memC hs zC)) (by kernel_rfl) (by kernel_rfl) fun x => by kernel_rfl
theorem ztY : zg Tryz.prog (zdZ Qx) :=
 zg.recE (I := I) (P := Tryz.prog) (f := 89) (inS := ⟨[.val 32], []⟩) (cst := []) (outS := ⟨[.bool], []⟩) (k := 0) (zcy) (by kernel_rfl) (fun S h => zux S h)
theorem zrA : zg Tryz.prog (zk1 zfI) :=
 okC (A := ⟨[zcm qg, zdZ Qx], [], [], 0, [], [], []⟩) (exS := ⟨[.bool], []⟩) Tryz.f45 (memC zlK (memC ztY zC)) (by kernel_rfl) (by kernel_rfl) fun x => by kernel_rfl
theorem zn5 (ZW : List zu × Int → Option Bool) (hs : zg Tryz.prog (zba ZW)) : zg Tryz.prog (zba (zaj ZW)) :=
 okC (A := ⟨[zkY zfF, zhl zbn, zk1 zfI, zba ZW], [], [], 0, [(4, ⟨[5], ⟨[.int .i64], []⟩, [0, 1], [], [], 0, [], ⟨[], []⟩, []⟩), (10, ⟨[7], ⟨[.int .i64], []⟩, [5, 6], [0], [], 2, [], ⟨[], []⟩, []⟩)], [], []⟩) (exS := ⟨[.bool], []⟩) Tryz.f24 (memC zrw (memC zj1 (memC zrA (memC hs zC)))) (by kernel_rfl) (by kernel_rfl) fun x => by kernel_rfl
theorem znS : zg Tryz.prog (zba ZW) :=
 zg.recE (I := I) (P := Tryz.prog) (f := 24) (inS := ⟨[.sl 35, .int .i64], []⟩) (cst := []) (outS := ⟨[.bool], []⟩) (k := 0) (zaj) (by kernel_rfl) (fun S h => zn5 S h)
theorem zqG (ZC : List zu → Option Int) (hs : zg Tryz.prog (QM ZC)) : zg Tryz.prog (QM (zdQ ZC)) :=
 okC (A := ⟨[QM ZC], [], [], 0, [(3, ⟨[3, 4], ⟨[.int .i64, .int .i64], []⟩, [0, 2], [], [], 0, [3], ⟨[.int .i64], []⟩, []⟩)], [], []⟩) (exS := ⟨[.int .i64], []⟩) Tryz.f25 (memC hs zC) (by kernel_rfl) (by kernel_rfl) fun x => by kernel_rfl
theorem zfu : zg Tryz.prog (QM ZC) :=
 zg.recE (I := I) (P := Tryz.prog) (f := 25) (inS := ⟨[.sl 35], []⟩) (cst := []) (outS := ⟨[.int .i64], []⟩) (k := 0) (zdQ) (by kernel_rfl) (fun S h => zqG S h)
theorem zrC : zg Tryz.prog (zk3 zdx) :=
 okC (A := ⟨[zba ZW, QM ZC], [], [], 0, [], [], []⟩) (exS := ⟨[.bool], []⟩) Tryz.f6 (memC znS (memC zfu zC)) (by kernel_rfl) (by kernel_rfl) fun x => by kernel_rfl
theorem qQ : zg Tryz.prog (qo strings_IndexByte) :=
 okC (A := ⟨[zu9 ztp], [], [], 0, [], [], []⟩) (exS := ⟨[.int .i64], []⟩) Tryz.f93 (memC zzn zC) (by kernel_rfl) (by kernel_rfl) fun x => by kernel_rfl
theorem znX : zg Tryz.prog (zij zda) :=
 okC (A := ⟨[qo strings_IndexByte], [], [], 0, [], [], []⟩) (exS := ⟨[.bool], []⟩) Tryz.f92 (memC qQ zC) (by kernel_rfl) (by kernel_rfl) fun x => by kernel_rfl
theorem zeR : zg Tryz.prog (zbe ZV) :=
 okC (A := ⟨[zij zda], [], [], 0, [(2, ⟨[8], ⟨[.int .i64], []⟩, [0, 1, 7], [], [], 0, [], ⟨[], []⟩, []⟩)], [], []⟩) (exS := ⟨[.int .i64], []⟩) Tryz.f143 (memC znX zC) (by kernel_rfl) (by kernel_rfl) fun x => by kernel_rfl
theorem zds : zg Tryz.prog (zas Zx) :=
 okC (A := ⟨[zbe ZV], [], [], 0, [], [], []⟩) (exS := ⟨[.bool], []⟩) Tryz.f91 (memC zeR zC) (by kernel_rfl) (by kernel_rfl) fun x => by kernel_rfl
theorem zrI : zg Tryz.prog (zk8 zfM) :=
 okC (A := ⟨[zas Zx], [], [], 0, [], [], []⟩) (exS := ⟨[.bool], []⟩) Tryz.f48 (memC zds zC) (by kernel_rfl) (by kernel_rfl) fun x => by kernel_rfl
theorem zqc : zg Tryz.prog (zjR zen) :=
 okC (A := ⟨[zk8 zfM], [], [], 0, [], [], []⟩) (exS := ⟨[.bool], []⟩) Tryz.f47 (memC zrI zC) (by kernel_rfl) (by kernel_rfl) fun x => by kernel_rfl
theorem zfQ : zg Tryz.prog (zbU qV) :=
 okC (A := ⟨[zjR zen], [], [], 0, [(2, ⟨[8], ⟨[.int .i64], []⟩, [0, 1, 7], [], [], 0, [], ⟨[], []⟩, []⟩)], [], []⟩) (exS := ⟨[.int .i64], []⟩) Tryz.f90 (memC zqc zC) (by kernel_rfl) (by kernel_rfl) fun x => by kernel_rfl
theorem zep : zg Tryz.prog (za2 ZK) :=
 okC (A := ⟨[zbU qV], [], [], 0, [], [], []⟩) (exS := ⟨[.bool], []⟩) Tryz.f46 (memC zfQ zC) (by kernel_rfl) (by kernel_rfl) fun x => by kernel_rfl
theorem zmZ (qa : List zb → Option Int) (hs : zg Tryz.prog (zaJ qa)) : zg Tryz.prog (zaJ (zb7 qa)) :=
 okC (A := ⟨[zaJ qa], [], [], 0, [(3, ⟨[3, 14], ⟨[.int .i64, .int .i64], []⟩, [2, 12, 13], [], [], 0, [3], ⟨[.int .i64], []⟩, []⟩), (6, ⟨[3, 21], ⟨[.int .i64, .int .i64], []⟩, [14, 19, 20], [], [], 2, [3], ⟨[.int .i64], []⟩, []⟩), (9, ⟨[3, 28], ⟨[.int .i64, .int .i64], []⟩, [21, 26, 27], [], [], 4, [3], ⟨[.int .i64], []⟩, []⟩)], [(15, ⟨[3, 28], ⟨[.int .i64, .int .i64], []⟩, [], [], [], 0, [], ⟨[], []⟩, []⟩)], []⟩) (exS := ⟨[.int .i64], []⟩) Tryz.f49 (memC hs zC) (by kernel_rfl) (by kernel_rfl) fun x => by kernel_rfl
theorem zmP : zg Tryz.prog (zaJ qa) :=
 zg.recE (I := I) (P := Tryz.prog) (f := 49) (inS := ⟨[.sl 137], []⟩) (cst := []) (outS := ⟨[.int .i64], []⟩) (k := 0) (zb7) (by kernel_rfl) (fun S h => zmZ S h)
theorem ziO : zg Tryz.prog (zgl zaw) :=
 okC (A := ⟨[qo strings_IndexByte], [], [], 0, [], [], []⟩) (exS := ⟨[.bool], []⟩) Tryz.f198 (memC qQ zC) (by kernel_rfl) (by kernel_rfl) fun x => by kernel_rfl
theorem zhX : zg Tryz.prog (zfd QH) :=
 okC (A := ⟨[zgl zaw], [], [], 0, [], [], []⟩) (exS := ⟨[.bool], []⟩) Tryz.f194 (memC ziO zC) (by kernel_rfl) (by kernel_rfl) fun x => by kernel_rfl
theorem zdJ : zg Tryz.prog (zcG qK) :=
 okC (A := ⟨[], [], [], 0, [(3, ⟨[10], ⟨[.int .i64], [(0, .sl 5)]⟩, [2, 3, 8, 9], [], [0], 0, [], ⟨[], [(0, .sl 5)]⟩, [0]⟩)], [(7, ⟨[10], ⟨[.int .i64], [(0, .sl 5)]⟩, [], [], [0], 0, [], ⟨[], []⟩, []⟩)], []⟩) (exS := ⟨[.str], []⟩) Tryz.f64 zC (by kernel_rfl) (by kernel_rfl) fun x => by kernel_rfl
theorem zhY : zg Tryz.prog (zfe QI) :=
 okC (A := ⟨[zfd QH, zcG qK], [], [], 0, [], [], []⟩) (exS := ⟨[.bool], []⟩) Tryz.f176 (memC zhX (memC zdJ zC)) (by kernel_rfl) (by kernel_rfl) fun x => by kernel_rfl
theorem znV : zg Tryz.prog (zii zc7) :=
 okC (A := ⟨[], [], [], 0, [], [(4, ⟨[6], ⟨[.bool], []⟩, [1, 5], [0], [], 0, [], ⟨[], []⟩, []⟩), (7, ⟨[11], ⟨[.bool], []⟩, [], [], [], 0, [], ⟨[], []⟩, []⟩), (10, ⟨[14], ⟨[.bool], []⟩, [], [], [], 0, [], ⟨[], []⟩, []⟩)], []⟩) (exS := ⟨[.bool, .bool], []⟩) Tryz.f195 zC (by kernel_rfl) (by kernel_rfl) fun x => by kernel_rfl
theorem zky : zg Tryz.prog (zfW zaR) :=
 okC (A := ⟨[], [], [], 0, [], [], []⟩) (exS := ⟨[.optr 0, .bool], [(0, .row 148)]⟩) Tryz.f196 zC (by kernel_rfl) (by kernel_rfl) fun x => by kernel_rfl
theorem ztG : zg Tryz.prog (znb zgE) :=
 okC (A := ⟨[], [], [], 0, [], [], []⟩) (exS := ⟨[.bool], []⟩) Tryz.f207 zC (by kernel_rfl) (by kernel_rfl) fun x => by kernel_rfl
theorem zv6 : zg Tryz.prog (zoM zgD) :=
 okC (A := ⟨[znb zgE], [], [], 0, [], [], []⟩) (exS := ⟨[.int .i64], []⟩) Tryz.f199 (memC ztG zC) (by kernel_rfl) (by kernel_rfl) fun x => by kernel_rfl
theorem zkz (zl : zb × zn × Bool → Option Bool) (h_seltext_whole : zg Tryz.prog (Zj zl)) : zg Tryz.prog (zfX (zb6 zl)) :=
 okC (A := ⟨[Zj zl], [], [], 2, [], [], []⟩) (exS := ⟨[.bool], []⟩) Tryz.f197 (memC h_seltext_whole zC) (by kernel_rfl) (by kernel_rfl) fun x => by kernel_rfl
theorem zeq (zl : zb × zn × Bool → Option Bool) (h_seltext_whole : zg Tryz.prog (Zj zl)) : zg Tryz.prog (za3 (qm zl)) :=
 okC (A := ⟨[zfX (zb6 zl)], [], [], 2, [(2, ⟨[8], ⟨[.int .i64], []⟩, [0, 1, 7], [], [], 0, [], ⟨[], []⟩, []⟩)], [], []⟩) (exS := ⟨[.int .i64], []⟩) Tryz.f145 (memC (zkz zl h_seltext_whole) zC) (by kernel_rfl) (by kernel_rfl) fun x => by kernel_rfl
theorem zdc (zl : zb × zn × Bool → Option Bool) (h_seltext_whole : zg Tryz.prog (Zj zl)) : zg Tryz.prog (Q3 (Zq zl)) :=
 okC (A := ⟨[za3 (qm zl)], [], [], 2, [], [], []⟩) (exS := ⟨[.bool], []⟩) Tryz.f94 (memC (zeq zl h_seltext_whole) zC) (by kernel_rfl) (by kernel_rfl) fun x => by kernel_rfl
theorem zmO (zl : zb × zn × Bool → Option Bool) (h_seltext_whole : zg Tryz.prog (Zj zl)) : zg Tryz.prog (zhU (za1 zl)) :=
 okC (A := ⟨[zii zc7, zfW zaR, Q3 (Zq zl), zfd QH, zfe QI, zgl zaw, zoM zgD], [], [], 0, [], [(8, ⟨[], ⟨[], []⟩, [2], [0], [], 0, [], ⟨[], []⟩, []⟩), (15, ⟨[89], ⟨[.bool], []⟩, [10, 88], [], [], 0, [], ⟨[], []⟩, []⟩)], []⟩) (exS := ⟨[.bool], []⟩) Tryz.f177 (memC znV (memC zky (memC (zdc zl h_seltext_whole) (memC zhX (memC zhY (memC ziO (memC zv6 zC))))))) (by kernel_rfl) (by kernel_rfl) fun x => by kernel_rfl
theorem zkx (zl : zb × zn × Bool → Option Bool) (h_seltext_whole : zg Tryz.prog (Zj zl)) : zg Tryz.prog (zfV (zaQ zl)) :=
 okC (A := ⟨[zfe QI, zhU (za1 zl)], [], [], 0, [(4, ⟨[30], ⟨[.int .i64], []⟩, [2, 3, 28, 29], [0, 1], [], 0, [], ⟨[], []⟩, []⟩)], [], []⟩) (exS := ⟨[.bool], []⟩) Tryz.f148 (memC zhY (memC (zmO zl h_seltext_whole) zC)) (by kernel_rfl) (by kernel_rfl) fun x => by kernel_rfl
theorem zlS (zl : zb × zn × Bool → Option Bool) (h_seltext_whole : zg Tryz.prog (Zj zl)) : zg Tryz.prog (zgK (zc8 zl)) :=
 okC (A := ⟨[zfV (zaQ zl)], [], [], 1, [], [], []⟩) (exS := ⟨[.bool], []⟩) Tryz.f147 (memC (zkx zl h_seltext_whole) zC) (by kernel_rfl) (by kernel_rfl) fun x => by kernel_rfl
theorem zeQ (zl : zb × zn × Bool → Option Bool) (h_seltext_whole : zg Tryz.prog (Zj zl)) : zg Tryz.prog (zbd (qC zl)) :=
 okC (A := ⟨[zgK (zc8 zl)], [], [], 1, [(2, ⟨[8], ⟨[.int .i64], []⟩, [0, 1, 7], [], [], 0, [], ⟨[], []⟩, []⟩)], [], []⟩) (exS := ⟨[.int .i64], []⟩) Tryz.f175 (memC (zlS zl h_seltext_whole) zC) (by kernel_rfl) (by kernel_rfl) fun x => by kernel_rfl
theorem zdr (zl : zb × zn × Bool → Option Bool) (h_seltext_whole : zg Tryz.prog (Zj zl)) : zg Tryz.prog (zar (Zw zl)) :=
 okC (A := ⟨[zbd (qC zl)], [], [], 1, [], [], []⟩) (exS := ⟨[.bool], []⟩) Tryz.f146 (memC (zeQ zl h_seltext_whole) zC) (by kernel_rfl) (by kernel_rfl) fun x => by kernel_rfl
theorem zn7 (zl : zb × zn × Bool → Option Bool) (hs : zg Tryz.prog (Zj zl)) : zg Tryz.prog (Zj (zc9 zl)) :=
 okC (A := ⟨[zar (Zw zl)], [], [], 0, [(4, ⟨[38], ⟨[.int .i64], []⟩, [3, 4, 36, 37], [0, 1], [], 0, [], ⟨[], []⟩, []⟩)], [], []⟩) (exS := ⟨[.bool], []⟩) Tryz.f96 (memC (zdr zl hs) zC) (by kernel_rfl) (by kernel_rfl) fun x => by kernel_rfl
theorem znW : zg Tryz.prog (Zj zl) :=
 zg.recE (I := I) (P := Tryz.prog) (f := 96) (inS := ⟨[.val 137, .val 148, .bool], []⟩) (cst := []) (outS := ⟨[.bool], []⟩) (k := 0) (zc9) (by kernel_rfl) (fun S h => zn7 S h)
theorem zlR : zg Tryz.prog (zgJ zc5) :=
 okC (A := ⟨[Zj zl], [], [], 0, [], [], []⟩) (exS := ⟨[.bool], []⟩) Tryz.f95 (memC znW zC) (by kernel_rfl) (by kernel_rfl) fun x => by kernel_rfl
theorem zfw : zg Tryz.prog (zbI qG) :=
 okC (A := ⟨[zgJ zc5], [], [], 0, [(2, ⟨[8], ⟨[.int .i64], []⟩, [0, 1, 7], [], [], 0, [], ⟨[], []⟩, []⟩)], [], []⟩) (exS := ⟨[.int .i64], []⟩) Tryz.f145 (memC zlR zC) (by kernel_rfl) (by kernel_rfl) fun x => by kernel_rfl
theorem zeb : zg Tryz.prog (zaK ZG) :=
 okC (A := ⟨[zbI qG], [], [], 0, [], [], []⟩) (exS := ⟨[.bool], []⟩) Tryz.f94 (memC zfw zC) (by kernel_rfl) (by kernel_rfl) fun x => by kernel_rfl
theorem zn6 (qA : List zb → Option Int) (hs : zg Tryz.prog (zbb qA)) : zg Tryz.prog (zbb (zc6 qA)) :=
 okC (A := ⟨[zbb qA], [], [], 0, [(3, ⟨[3, 14], ⟨[.int .i64, .int .i64], []⟩, [2, 12, 13], [], [], 0, [3], ⟨[.int .i64], []⟩, []⟩), (6, ⟨[3, 21], ⟨[.int .i64, .int .i64], []⟩, [14, 19, 20], [], [], 2, [3], ⟨[.int .i64], []⟩, []⟩), (9, ⟨[3, 28], ⟨[.int .i64, .int .i64], []⟩, [21, 26, 27], [], [], 4, [3], ⟨[.int .i64], []⟩, []⟩)], [], []⟩) (exS := ⟨[.int .i64], []⟩) Tryz.f97 (memC hs zC) (by kernel_rfl) (by kernel_rfl) fun x => by kernel_rfl
theorem znU : zg Tryz.prog (zbb qA) :=
 zg.recE (I := I) (P := Tryz.prog) (f := 97) (inS := ⟨[.sl 137], []⟩) (cst := []) (outS := ⟨[.int .i64], []⟩) (k := 0) (zc6) (by kernel_rfl) (fun S h => zn6 S h)
theorem znT : zg Tryz.prog (zih zc4) :=
 okC (A := ⟨[zaK ZG, zbb qA], [], [], 0, [], [], []⟩) (exS := ⟨[.int .i64], []⟩) Tryz.f50 (memC zeb (memC znU zC)) (by kernel_rfl) (by kernel_rfl) fun x => by kernel_rfl
theorem zrH : zg Tryz.prog (zk7 zch) :=
 okC (A := ⟨[], [], [], 0, [], [], []⟩) (exS := ⟨[.bool], []⟩) Tryz.f51 zC (by kernel_rfl) (by kernel_rfl) fun x => by kernel_rfl
theorem zgp : zg Tryz.prog (zeA zaC) :=
 okC (A := ⟨[], [], [], 0, [], [(7, ⟨[6], ⟨[.bool], []⟩, [0], [], [], 0, [], ⟨[], []⟩, []⟩)], []⟩) (exS := ⟨[.int .u8], []⟩) Tryz.f129 zC (by kernel_rfl) (by kernel_rfl) fun x => by kernel_rfl
theorem zwG (zaN : List zf × Int → Option zS) (hs : zg Tryz.prog (zdi zaN)) : zg Tryz.prog (zdi (zhE zaN)) :=
 okC (A := ⟨[zeA zaC, zdi zaN], [], [], 0, [(3, ⟨[12], ⟨[.int .i64], [(1, .row 113)]⟩, [1, 4, 5, 10, 11], [0], [1], 0, [], ⟨[], [(1, .row 113)]⟩, [1]⟩)], [(9, ⟨[], ⟨[], [(1, .row 113)]⟩, [7, 8, 12], [2], [1], 0, [], ⟨[], []⟩, []⟩), (12, ⟨[12], ⟨[.int .i64], [(1, .row 113)]⟩, [], [], [1], 0, [], ⟨[], []⟩, []⟩)], []⟩) (exS := ⟨[.optr 0], [(0, .row 113)]⟩) Tryz.f72 (memC zgp (memC hs zC)) (by kernel_rfl) (by kernel_rfl) fun x => by kernel_rfl
theorem znD : zg Tryz.prog (zdi zaN) :=
 zg.recE (I := I) (P := Tryz.prog) (f := 72) (inS := ⟨[.sl 99, .int .u8], []⟩) (cst := []) (outS := ⟨[.val 113], []⟩) (k := 0) (zhE) (by kernel_rfl) (fun S h => zwG S h)
theorem zlF : zg Tryz.prog (zic zdq) :=
 okC (A := ⟨[zdi zaN], [], [], 0, [], [], []⟩) (exS := ⟨[.int .i64], []⟩) Tryz.f36 (memC znD zC) (by kernel_rfl) (by kernel_rfl) fun x => by kernel_rfl
theorem zhF : zg Tryz.prog (zfT Q9) :=
 okC (A := ⟨[zic zdq, zdi zaN], [], [], 0, [], [], []⟩) (exS := ⟨[.int .i64, .int .i64], []⟩) Tryz.f52 (memC zlF (memC znD zC)) (by kernel_rfl) (by kernel_rfl) fun x => by kernel_rfl
theorem zrY (QN : List zf × List zm → Option (List zm)) (hs : zg Tryz.prog (zcH QN)) : zg Tryz.prog (zcH (zeN QN)) :=
 okC (A := ⟨[zeA zaC, zcH QN], [(4, [3]), (7, [6])], [], 1, [(2, ⟨[0, 10], ⟨[.own 1001, .int .i64], [(1001, .sl 97)]⟩, [4, 8, 9], [], [], 0, [0], ⟨[.own 1001], [(1001, .sl 97)]⟩, [1001]⟩)], [(8, ⟨[0, 10], ⟨[.own 1103, .int .i64], [(1103, .sl 97)]⟩, [], [], [], 0, [], ⟨[], []⟩, []⟩)], []⟩) (exS := ⟨[.own 1], [(1, .sl 97)]⟩) Tryz.f149 (memC zgp (memC hs zC)) (by kernel_rfl) (by kernel_rfl) fun x => by kernel_rfl
theorem zrn : zg Tryz.prog (zcH QN) :=
 zg.recE (I := I) (P := Tryz.prog) (f := 149) (inS := ⟨[.own 0, .sl 99], [(0, .sl 97)]⟩) (cst := []) (outS := ⟨[.own 1], [(1, .sl 97)]⟩) (k := 1) (zeN) (by kernel_rfl) (fun S h => zrY S h)
theorem zrm : zg Tryz.prog (zkP zfq) :=
 okC (A := ⟨[zeA zaC, zcH QN], [(4, [3]), (7, [6])], [], 0, [(2, ⟨[0, 10], ⟨[.own 1105, .int .i64], [(1105, .sl 97)]⟩, [4, 8, 9], [], [], 0, [0], ⟨[.own 1105], [(1105, .sl 97)]⟩, [1105]⟩)], [(8, ⟨[0, 10], ⟨[.own 1207, .int .i64], [(1207, .sl 97)]⟩, [], [], [], 0, [], ⟨[], []⟩, []⟩)], []⟩) (exS := ⟨[.own 0], [(0, .sl 97)]⟩) Tryz.f149 (memC zgp (memC zrn zC)) (by kernel_rfl) (by kernel_rfl) fun x => by kernel_rfl
theorem zwc : zg Tryz.prog (zoR ziE) :=
 okC (A := ⟨[zic zdq, zkP zfq], [], [], 0, [], [], []⟩) (exS := ⟨[.sl 97, .int .i64], []⟩) Tryz.f98 (memC zlF (memC zrm zC)) (by kernel_rfl) (by kernel_rfl) fun x => by kernel_rfl
theorem zcs : zg Tryz.prog (zaA stringslite_HasPrefix) :=
 okC (A := ⟨[], [], [], 0, [], [], []⟩) (exS := ⟨[.bool], []⟩) Tryz.f154 zC (by kernel_rfl) (by kernel_rfl) fun x => by kernel_rfl
theorem zbP : zg Tryz.prog (zaz strings_HasPrefix) :=
 okC (A := ⟨[zaA stringslite_HasPrefix], [], [], 0, [], [], []⟩) (exS := ⟨[.bool], []⟩) Tryz.f106 (memC zcs zC) (by kernel_rfl) (by kernel_rfl) fun x => by kernel_rfl
theorem ztJ : zg Tryz.prog (zne zgN) :=
 okC (A := ⟨[qo strings_IndexByte, zaz strings_HasPrefix, zcG qK], [], [], 0, [], [], []⟩) (exS := ⟨[.bool], []⟩) Tryz.f99 (memC qQ (memC zbP (memC zdJ zC))) (by kernel_rfl) (by kernel_rfl) fun x => by kernel_rfl
theorem zgw : zg Tryz.prog (zcr stringslite_TrimPrefix) :=
 okC (A := ⟨[zaA stringslite_HasPrefix], [], [], 0, [], [], []⟩) (exS := ⟨[.str], []⟩) Tryz.f208 (memC zcs zC) (by kernel_rfl) (by kernel_rfl) fun x => by kernel_rfl
theorem ziR : zg Tryz.prog (zey strings_TrimPrefix) :=
 okC (A := ⟨[zcr stringslite_TrimPrefix], [], [], 0, [], [], []⟩) (exS := ⟨[.str], []⟩) Tryz.f200 (memC zgw zC) (by kernel_rfl) (by kernel_rfl) fun x => by kernel_rfl
theorem zlE : zg Tryz.prog (zib zbu) :=
 okC (A := ⟨[], [], [], 0, [], [], []⟩) (exS := ⟨[.bool], []⟩) Tryz.f201 zC (by kernel_rfl) (by kernel_rfl) fun x => by kernel_rfl
theorem zpU : zg Tryz.prog (zjC zd8) :=
 okC (A := ⟨[zey strings_TrimPrefix, zib zbu], [], [], 0, [], [], []⟩) (exS := ⟨[.bool], []⟩) Tryz.f178 (memC ziR (memC zlE zC)) (by kernel_rfl) (by kernel_rfl) fun x => by kernel_rfl
theorem zrk : zg Tryz.prog (zkN zfk) :=
 okC (A := ⟨[], [], [], 0, [], [], []⟩) (exS := ⟨[.bool], []⟩) Tryz.f202 zC (by kernel_rfl) (by kernel_rfl) fun x => by kernel_rfl
theorem ztL : zg Tryz.prog (zng ze0) :=
 okC (A := ⟨[zkN zfk, zib zbu], [], [], 0, [], [], []⟩) (exS := ⟨[.bool], []⟩) Tryz.f179 (memC zrk (memC zlE zC)) (by kernel_rfl) (by kernel_rfl) fun x => by kernel_rfl
theorem znY : zg Tryz.prog (zik strings_Index) :=
 okC (A := ⟨[zx2 zss], [], [], 0, [], [], []⟩) (exS := ⟨[.int .i64], []⟩) Tryz.f203 (memC zA6 zC) (by kernel_rfl) (by kernel_rfl) fun x => by kernel_rfl
theorem zkA : zg Tryz.prog (zfY strings_Contains) :=
 okC (A := ⟨[zik strings_Index], [], [], 0, [], [], []⟩) (exS := ⟨[.bool], []⟩) Tryz.f180 (memC znY zC) (by kernel_rfl) (by kernel_rfl) fun x => by kernel_rfl
theorem zwb : zg Tryz.prog (zoQ ziw) :=
 okC (A := ⟨[qo strings_IndexByte, zjC zd8, zaz strings_HasPrefix, zng ze0, zfY strings_Contains], [], [], 0, [], [(8, ⟨[3, 4, 5, 6, 7, 25], ⟨[.bool, .bool, .bool, .bool, .bool, .bool], []⟩, [1, 16], [], [], 0, [], ⟨[], []⟩, []⟩), (14, ⟨[3, 4, 5, 6, 7, 63], ⟨[.bool, .bool, .bool, .bool, .bool, .bool], []⟩, [], [], [], 0, [], ⟨[], []⟩, []⟩), (22, ⟨[4, 5, 6, 7, 94], ⟨[.bool, .bool, .bool, .bool, .bool], []⟩, [3], [], [], 0, [], ⟨[], []⟩, []⟩), (24, ⟨[3, 4, 5, 6, 7], ⟨[.bool, .bool, .bool, .bool, .bool], []⟩, [1], [0], [], 0, [], ⟨[], []⟩, []⟩)], []⟩) (exS := ⟨[.bool], []⟩) Tryz.f150 (memC qQ (memC zpU (memC zbP (memC ztL (memC zkA zC))))) (by kernel_rfl) (by kernel_rfl) fun x => by kernel_rfl
theorem zpV : zg Tryz.prog (zjD QC) :=
 okC (A := ⟨[], [], [], 1, [], [], []⟩) (exS := ⟨[.bool], []⟩) Tryz.f181 zC (by kernel_rfl) (by kernel_rfl) fun x => by kernel_rfl
theorem zrl : zg Tryz.prog (zkO zfm) :=
 okC (A := ⟨[zcG qK], [], [], 0, [], [], []⟩) (exS := ⟨[.bool], []⟩) Tryz.f119 (memC zdJ zC) (by kernel_rfl) (by kernel_rfl) fun x => by kernel_rfl
theorem ztM : zg Tryz.prog (znh zgT) :=
 okC (A := ⟨[zjD QC, zkO zfm], [], [], 0, [], [(11, ⟨[5], ⟨[.int .i64], []⟩, [3], [0], [], 0, [], ⟨[], []⟩, []⟩)], []⟩) (exS := ⟨[.int .i64], []⟩) Tryz.f151 (memC zpV (memC zrl zC)) (by kernel_rfl) (by kernel_rfl) fun x => by kernel_rfl
theorem ztK : zg Tryz.prog (znf zeZ) :=
 okC (A := ⟨[zoQ ziw, znh zgT], [], [], 0, [(4, ⟨[10], ⟨[.int .i64], []⟩, [0, 8, 9], [], [], 0, [], ⟨[], []⟩, []⟩)], [], []⟩) (exS := ⟨[.int .i64], []⟩) Tryz.f100 (memC zwb (memC ztM zC)) (by kernel_rfl) (by kernel_rfl) fun x => by kernel_rfl
theorem zji : zg Tryz.prog (zia zbg) :=
 okC (A := ⟨[], [], [], 0, [], [], []⟩) (exS := ⟨[.bool], []⟩) Tryz.f104 zC (by kernel_rfl) (by kernel_rfl) fun x => by kernel_rfl
theorem zmK (zP : List zf → Option Bool) (h_decl_closers : zg Tryz.prog (qY zP)) : zg Tryz.prog (zhR (zaW zP)) :=
 okC (A := ⟨[zia zbg, qY zP], [], [], 0, [], [], []⟩) (exS := ⟨[.bool], []⟩) Tryz.f152 (memC zji (memC h_decl_closers zC)) (by kernel_rfl) (by kernel_rfl) fun x => by kernel_rfl
theorem zgv (zP : List zf → Option Bool) (h_decl_closers : zg Tryz.prog (qY zP)) : zg Tryz.prog (zcq (Qq zP)) :=
 okC (A := ⟨[zhR (zaW zP)], [], [], 0, [(2, ⟨[8], ⟨[.int .i64], []⟩, [0, 1, 7], [], [], 0, [], ⟨[], []⟩, []⟩)], [], []⟩) (exS := ⟨[.int .i64], []⟩) Tryz.f153 (memC (zmK zP h_decl_closers) zC) (by kernel_rfl) (by kernel_rfl) fun x => by kernel_rfl
theorem zeP (zP : List zf → Option Bool) (h_decl_closers : zg Tryz.prog (qY zP)) : zg Tryz.prog (zbc (qB zP)) :=
 okC (A := ⟨[zcq (Qq zP)], [], [], 0, [], [], []⟩) (exS := ⟨[.bool], []⟩) Tryz.f102 (memC (zgv zP h_decl_closers) zC) (by kernel_rfl) (by kernel_rfl) fun x => by kernel_rfl
theorem zqC (zP : List zf → Option Bool) (hs : zg Tryz.prog (qY zP)) : zg Tryz.prog (qY (zdE zP)) :=
 okC (A := ⟨[zbc (qB zP)], [], [], 0, [], [], []⟩) (exS := ⟨[.bool], []⟩) Tryz.f101 (memC (zeP zP hs) zC) (by kernel_rfl) (by kernel_rfl) fun x => by kernel_rfl
theorem zpT : zg Tryz.prog (qY zP) :=
 zg.recE (I := I) (P := Tryz.prog) (f := 101) (inS := ⟨[.sl 99], []⟩) (cst := []) (outS := ⟨[.bool], []⟩) (k := 0) (zdE) (by kernel_rfl) (fun S h => zqC S h)
theorem zwa : zg Tryz.prog (zoP zle) :=
 okC (A := ⟨[zia zbg], [], [], 0, [], [], []⟩) (exS := ⟨[.bool], []⟩) Tryz.f105 (memC zji zC) (by kernel_rfl) (by kernel_rfl) fun x => by kernel_rfl
theorem zpS : zg Tryz.prog (zjB zd6) :=
 okC (A := ⟨[zia zbg, zoP zle], [], [], 0, [], [], []⟩) (exS := ⟨[.bool], []⟩) Tryz.f103 (memC zji (memC zwa zC)) (by kernel_rfl) (by kernel_rfl) fun x => by kernel_rfl
theorem zfx : zg Tryz.prog (zbJ qH) :=
 okC (A := ⟨[zjB zd6], [], [], 0, [(2, ⟨[8], ⟨[.int .i64], []⟩, [0, 1, 7], [], [], 0, [], ⟨[], []⟩, []⟩)], [], []⟩) (exS := ⟨[.int .i64], []⟩) Tryz.f153 (memC zpS zC) (by kernel_rfl) (by kernel_rfl) fun x => by kernel_rfl
theorem zec : zg Tryz.prog (zaL ZH) :=
 okC (A := ⟨[zbJ qH], [], [], 0, [], [], []⟩) (exS := ⟨[.bool], []⟩) Tryz.f102 (memC zfx zC) (by kernel_rfl) (by kernel_rfl) fun x => by kernel_rfl
theorem zlD : zg Tryz.prog (zh9 zbt) :=
 okC (A := ⟨[zoR ziE, zne zgN, znf zeZ, qY zP, zaL ZH, zaz strings_HasPrefix, zia zbg], [], [], 0, [], [], []⟩) (exS := ⟨[.int .i64], []⟩) Tryz.f53 (memC zwc (memC ztJ (memC ztK (memC zpT (memC zec (memC zbP (memC zji zC))))))) (by kernel_rfl) (by kernel_rfl) fun x => by kernel_rfl
theorem zr0 (QT : zk → Option Int) (hs : zg Tryz.prog (zcK QT)) : zg Tryz.prog (zcK (zeV QT)) :=
 okC (A := ⟨[zcK QT], [], [], 0, [(5, ⟨[3, 17], ⟨[.int .i64, .int .i64], []⟩, [15, 16], [], [], 0, [3], ⟨[.int .i64], []⟩, []⟩)], [(4, ⟨[3], ⟨[.int .i64], []⟩, [1], [0], [], 0, [], ⟨[], []⟩, []⟩)], []⟩) (exS := ⟨[.int .i64], []⟩) Tryz.f54 (memC hs zC) (by kernel_rfl) (by kernel_rfl) fun x => by kernel_rfl
theorem zrG : zg Tryz.prog (zcK QT) :=
 zg.recE (I := I) (P := Tryz.prog) (f := 54) (inS := ⟨[.val 32], []⟩) (cst := []) (outS := ⟨[.int .i64], []⟩) (k := 0) (zeV) (by kernel_rfl) (fun S h => zr0 S h)
theorem zf1 : zg Tryz.prog (ze7 QB) :=
 okC (A := ⟨[], [], [], 0, [], [], []⟩) (exS := ⟨[.bool], []⟩) Tryz.f110 zC (by kernel_rfl) (by kernel_rfl) fun x => by kernel_rfl
theorem zh6 : zg Tryz.prog (zd5 slices_Index_string) :=
 okC (A := ⟨[], [], [], 0, [(2, ⟨[8], ⟨[.int .i64], []⟩, [0, 1, 7], [], [], 0, [], ⟨[], []⟩, []⟩)], [], []⟩) (exS := ⟨[.int .i64], []⟩) Tryz.f166 zC (by kernel_rfl) (by kernel_rfl) fun x => by kernel_rfl
theorem zgu : zg Tryz.prog (zcp slices_Contains_string) :=
 okC (A := ⟨[zd5 slices_Index_string], [], [], 0, [], [], []⟩) (exS := ⟨[.bool], []⟩) Tryz.f120 (memC zh6 zC) (by kernel_rfl) (by kernel_rfl) fun x => by kernel_rfl
theorem zrh : zg Tryz.prog (zkK zdk) :=
 okC (A := ⟨[zcp slices_Contains_string, zcG qK, qo strings_IndexByte], [(1, [0])], [], 0, [], [], []⟩) (exS := ⟨[.bool], []⟩) Tryz.f65 (memC zgu (memC zdJ (memC qQ zC))) (by kernel_rfl) (by kernel_rfl) fun x => by kernel_rfl
theorem zrj : zg Tryz.prog (zkM zhv) :=
 okC (A := ⟨[], [], [], 0, [(2, ⟨[7], ⟨[.int .i64], []⟩, [5, 6], [], [], 0, [], ⟨[], []⟩, []⟩)], [], []⟩) (exS := ⟨[.int .i64], []⟩) Tryz.f167 zC (by kernel_rfl) (by kernel_rfl) fun x => by kernel_rfl
theorem zri : zg Tryz.prog (zkL zdm) :=
 okC (A := ⟨[zkM zhv], [(1, [1])], [], 0, [], [], []⟩) (exS := ⟨[.int .i64], []⟩) Tryz.f121 (memC zrj zC) (by kernel_rfl) (by kernel_rfl) fun x => by kernel_rfl
theorem ztI : zg Tryz.prog (znd zeY) :=
 okC (A := ⟨[ze7 QB, zkK zdk, zkL zdm], [], [], 0, [(4, ⟨[23], ⟨[.int .i64], []⟩, [21, 22], [], [], 0, [], ⟨[], []⟩, []⟩)], [(17, ⟨[57], ⟨[.bool], []⟩, [4, 23], [1], [], 0, [], ⟨[], []⟩, []⟩), (19, ⟨[23], ⟨[.int .i64], []⟩, [], [], [], 0, [], ⟨[], []⟩, []⟩)], []⟩) (exS := ⟨[.bool], []⟩) Tryz.f156 (memC zf1 (memC zrh (memC zri zC))) (by kernel_rfl) (by kernel_rfl) fun x => by kernel_rfl
theorem ztH : zg Tryz.prog (znc zgM) :=
 okC (A := ⟨[], [], [], 0, [], [], []⟩) (exS := ⟨[.bool], []⟩) Tryz.f157 zC (by kernel_rfl) (by kernel_rfl) fun x => by kernel_rfl
theorem zv7 : zg Tryz.prog (zoN ziq) :=
 okC (A := ⟨[ze7 QB, znd zeY, znc zgM], [], [], 0, [], [], []⟩) (exS := ⟨[.bool], []⟩) Tryz.f109 (memC zf1 (memC ztI (memC ztH zC))) (by kernel_rfl) (by kernel_rfl) fun x => by kernel_rfl
theorem zjq : zg Tryz.prog (ze6 Q4) :=
 okC (A := ⟨[zoN ziq], [], [], 0, [], [], []⟩) (exS := ⟨[.bool], []⟩) Tryz.f108 (memC zv7 zC) (by kernel_rfl) (by kernel_rfl) fun x => by kernel_rfl
theorem zg0 : zg Tryz.prog (zcN QK) :=
 okC (A := ⟨[ze6 Q4], [], [], 0, [(2, ⟨[8], ⟨[.int .i64], []⟩, [0, 1, 7], [], [], 0, [], ⟨[], []⟩, []⟩)], [], []⟩) (exS := ⟨[.int .i64], []⟩) Tryz.f155 (memC zjq zC) (by kernel_rfl) (by kernel_rfl) fun x => by kernel_rfl
theorem zfv : zg Tryz.prog (zbH Z5) :=
 okC (A := ⟨[zcN QK], [], [], 0, [], [], []⟩) (exS := ⟨[.bool], []⟩) Tryz.f107 (memC zg0 zC) (by kernel_rfl) (by kernel_rfl) fun x => by kernel_rfl
theorem zlC : zg Tryz.prog (zgF zbf) :=
 okC (A := ⟨[zbH Z5, ze7 QB], [], [], 0, [], [], []⟩) (exS := ⟨[.int .i64], []⟩) Tryz.f55 (memC zfv (memC zf1 zC)) (by kernel_rfl) (by kernel_rfl) fun x => by kernel_rfl
theorem zuC (zam : zk → Option Int) (hs : zg Tryz.prog (zd2 zam)) : zg Tryz.prog (zd2 (zcB zam)) :=
 okC (A := ⟨[zfT Q9, zd2 zam], [], [], 0, [(9, ⟨[5, 27], ⟨[.int .i64, .int .i64], []⟩, [2, 25, 26], [], [], 1, [5], ⟨[.int .i64], []⟩, []⟩)], [(14, ⟨[5, 8], ⟨[.int .i64, .int .i64], []⟩, [27], [], [], 0, [], ⟨[], []⟩, []⟩)], []⟩) (exS := ⟨[.int .i64], []⟩) Tryz.f56 (memC zhF (memC hs zC)) (by kernel_rfl) (by kernel_rfl) fun x => by kernel_rfl
theorem zt3 : zg Tryz.prog (zd2 zam) :=
 zg.recE (I := I) (P := Tryz.prog) (f := 56) (inS := ⟨[.val 32], []⟩) (cst := []) (outS := ⟨[.int .i64], []⟩) (k := 0) (zcB) (by kernel_rfl) (fun S h => zuC S h)
theorem zv8 : zg Tryz.prog (zoO zir) :=
 okC (A := ⟨[], [], [], 0, [], [], []⟩) (exS := ⟨[.bool], []⟩) Tryz.f131 zC (by kernel_rfl) (by kernel_rfl) fun x => by kernel_rfl
theorem zwF (Q5 : zk × Int → Option ((Int × Bool) × Int)) (hs : zg Tryz.prog (ze8 Q5)) : zg Tryz.prog (ze8 (zdj Q5)) :=
 okC (A := ⟨[zfT Q9, zh9 zbt, ze7 QB, ze8 Q5, zoO zir], [], [], 1, [(19, ⟨[9, 97], ⟨[.int .i64, .int .i64], [(0, .row 3)]⟩, [1, 95, 96], [], [0], 1, [9], ⟨[.int .i64], [(0, .row 3)]⟩, [0]⟩)], [(15, ⟨[69], ⟨[.bool], []⟩, [1, 2, 6], [0, 1], [], 0, [], ⟨[], []⟩, []⟩), (26, ⟨[9, 12], ⟨[.int .i64, .int .i64], []⟩, [97], [0], [], 0, [], ⟨[], []⟩, []⟩)], []⟩) (exS := ⟨[.int .i64, .bool], [(0, .row 3)]⟩) Tryz.f74 (memC zhF (memC zlD (memC zf1 (memC hs (memC zv8 zC))))) (by kernel_rfl) (by kernel_rfl) fun x => by kernel_rfl
theorem zv9 : zg Tryz.prog (ze8 Q5) :=
 zg.recE (I := I) (P := Tryz.prog) (f := 74) (inS := ⟨[.val 32, .optr 0], [(0, .row 3)]⟩) (cst := []) (outS := ⟨[.int .i64, .bool], [(0, .row 3)]⟩) (k := 0) (zdj) (by kernel_rfl) (fun S h => zwF S h)
theorem ziH : zg Tryz.prog (zev QA) :=
 okC (A := ⟨[ze8 Q5], [], [], 0, [], [], []⟩) (exS := ⟨[.int .i64], []⟩) Tryz.f38 (memC zv9 zC) (by kernel_rfl) (by kernel_rfl) fun x => by kernel_rfl
theorem zuB (zal : List zu → Option zo) (hs : zg Tryz.prog (zd1 zal)) : zg Tryz.prog (zd1 (zcA zal)) :=
 okC (A := ⟨[zd1 zal, za2 ZK, zaJ qa, zih zc4, zk7 zch, zfT Q9, zh9 zbt, zcK QT, zgF zbf, zd2 zam, zev QA], [], [], 0, [(3, ⟨[18], ⟨[.int .i64], [(1, .row 64)]⟩, [2, 3, 16, 17], [0], [1], 0, [], ⟨[], [(1, .row 64)]⟩, [1]⟩), (17, ⟨[10, 87], ⟨[.bool, .int .i64], [(3, .row 64)]⟩, [6, 7, 18, 85, 86], [1], [3], 3, [10], ⟨[.bool], [(3, .row 64)]⟩, [3]⟩)], [(35, ⟨[7, 10], ⟨[.int .i64, .bool], [(1, .row 64), (3, .row 64)]⟩, [6, 18], [], [1, 3], 0, [], ⟨[], []⟩, []⟩)], []⟩) (exS := ⟨[.optr 0], [(0, .row 64)]⟩) Tryz.f26 (memC hs (memC zep (memC zmP (memC znT (memC zrH (memC zhF (memC zlD (memC zrG (memC zlC (memC zt3 (memC ziH zC))))))))))) (by kernel_rfl) (by kernel_rfl) fun x => by kernel_rfl
theorem zt2 : zg Tryz.prog (zd1 zal) :=
 zg.recE (I := I) (P := Tryz.prog) (f := 26) (inS := ⟨[.sl 35], []⟩) (cst := []) (outS := ⟨[.val 64], []⟩) (k := 0) (zcA) (by kernel_rfl) (fun S h => zuB S h)
theorem zj7 : zg Tryz.prog (zhr zcg) :=
 okC (A := ⟨[zd1 zal], [], [], 0, [], [], []⟩) (exS := ⟨[.int .i64], []⟩) Tryz.f27 (memC zt2 zC) (by kernel_rfl) (by kernel_rfl) fun x => by kernel_rfl
theorem zj6 : zg Tryz.prog (zhq zaF) :=
 okC (A := ⟨[zhr zcg], [], [], 0, [], [], []⟩) (exS := ⟨[.int .i64], []⟩) Tryz.f9 (memC zj7 zC) (by kernel_rfl) (by kernel_rfl) fun x => by kernel_rfl
theorem zlT : zg Tryz.prog (zgL zbs) :=
 okC (A := ⟨[zhr zcg], [(1, [1])], [], 0, [], [], []⟩) (exS := ⟨[.int .i64], []⟩) Tryz.f11 (memC zj7 zC) (by kernel_rfl) (by kernel_rfl) fun x => by kernel_rfl
theorem zjx : zg Tryz.prog (zfh zbG) :=
 okC (A := ⟨[], [], [], 0, [], [], []⟩) (exS := ⟨[.own 0], [(0, .sl 35)]⟩) Tryz.f78 zC (by kernel_rfl) (by kernel_rfl) fun x => by kernel_rfl
theorem zhG : zg Tryz.prog (zde QW) :=
 okC (A := ⟨[], [], [], 0, [], [], []⟩) (exS := ⟨[.own 0], [(0, .sl 137)]⟩) Tryz.f135 zC (by kernel_rfl) (by kernel_rfl) fun x => by kernel_rfl
theorem zgY : zg Tryz.prog (zcL QJ) :=
 okC (A := ⟨[], [], [], 0, [], [], []⟩) (exS := ⟨[.own 0], [(0, .sl 140)]⟩) Tryz.f136 zC (by kernel_rfl) (by kernel_rfl) fun x => by kernel_rfl
theorem ziQ : zg Tryz.prog (zex za5) :=
 okC (A := ⟨[], [], [], 0, [], [], []⟩) (exS := ⟨[.own 0], [(0, .sl 5)]⟩) Tryz.f137 zC (by kernel_rfl) (by kernel_rfl) fun x => by kernel_rfl
theorem zh4 : zg Tryz.prog (zd3 Qo) :=
 okC (A := ⟨[], [], [], 0, [], [], []⟩) (exS := ⟨[.own 0], [(0, .sl 144)]⟩) Tryz.f138 zC (by kernel_rfl) (by kernel_rfl) fun x => by kernel_rfl
theorem zl6 (ZF : List zb → Option (List zb)) (hs : zg Tryz.prog (Q0 ZF)) : zg Tryz.prog (Q0 (zbC ZF)) :=
 okC (A := ⟨[zde QW, zcL QJ, zex za5, zd3 Qo, Q0 ZF], [], [], 0, [(3, ⟨[12], ⟨[.int .i64], [(0, .sl 137)]⟩, [0, 2, 11], [], [0], 0, [], ⟨[], [(0, .sl 137)]⟩, [0]⟩), (8, ⟨[39], ⟨[.int .i64], [(1, .sl 140)]⟩, [4, 12, 38], [0, 2], [1], 2, [], ⟨[], [(1, .sl 140)]⟩, [1]⟩), (12, ⟨[53], ⟨[.int .i64], [(3, .sl 144)]⟩, [5, 6, 39, 52], [1], [3], 4, [], ⟨[], [(3, .sl 144)]⟩, [3]⟩)], [], []⟩) (exS := ⟨[.sl 137], []⟩) Tryz.f79 (memC zhG (memC zgY (memC ziQ (memC zh4 (memC hs zC))))) (by kernel_rfl) (by kernel_rfl) fun x => by kernel_rfl
theorem zlP : zg Tryz.prog (Q0 ZF) :=
 zg.recE (I := I) (P := Tryz.prog) (f := 79) (inS := ⟨[.sl 137], []⟩) (cst := []) (outS := ⟨[.sl 137], []⟩) (k := 0) (zbC) (by kernel_rfl) (fun S h => zl6 S h)
theorem zjw : zg Tryz.prog (zfg zbF) :=
 okC (A := ⟨[], [], [], 0, [], [], []⟩) (exS := ⟨[.own 0], [(0, .sl 29)]⟩) Tryz.f139 zC (by kernel_rfl) (by kernel_rfl) fun x => by kernel_rfl
theorem ziP : zg Tryz.prog (zew za4) :=
 okC (A := ⟨[], [], [], 0, [], [], []⟩) (exS := ⟨[.own 0], [(0, .sl 99)]⟩) Tryz.f118 zC (by kernel_rfl) (by kernel_rfl) fun x => by kernel_rfl
theorem zqI (ZO : List zf → Option (List zf)) (hs : zg Tryz.prog (zaV ZO)) : zg Tryz.prog (zaV (zdT ZO)) :=
 okC (A := ⟨[zew za4, zaV ZO], [], [], 0, [(3, ⟨[8], ⟨[.int .i64], [(0, .sl 99)]⟩, [0, 2, 7], [], [0], 0, [], ⟨[], [(0, .sl 99)]⟩, [0]⟩)], [], []⟩) (exS := ⟨[.sl 99], []⟩) Tryz.f140 (memC ziP (memC hs zC)) (by kernel_rfl) (by kernel_rfl) fun x => by kernel_rfl
theorem ziN : zg Tryz.prog (zaV ZO) :=
 zg.recE (I := I) (P := Tryz.prog) (f := 140) (inS := ⟨[.sl 99], []⟩) (cst := []) (outS := ⟨[.sl 99], []⟩) (k := 0) (zdT) (by kernel_rfl) (fun S h => zqI S h)
theorem zrF : zg Tryz.prog (zk6 zdz) :=
 okC (A := ⟨[zfg zbF, zaV ZO], [], [], 0, [(3, ⟨[8], ⟨[.int .i64], [(0, .sl 29)]⟩, [0, 2, 7], [], [0], 0, [], ⟨[], [(0, .sl 29)]⟩, [0]⟩)], [], []⟩) (exS := ⟨[.sl 29], []⟩) Tryz.f80 (memC zjw (memC ziN zC)) (by kernel_rfl) (by kernel_rfl) fun x => by kernel_rfl
theorem zjv : zg Tryz.prog (zff zbE) :=
 okC (A := ⟨[], [], [], 0, [], [], []⟩) (exS := ⟨[.own 0], [(0, .sl 32)]⟩) Tryz.f141 zC (by kernel_rfl) (by kernel_rfl) fun x => by kernel_rfl
theorem zl5 (ZE : zk → Option zk) (hs : zg Tryz.prog (QZ ZE)) : zg Tryz.prog (QZ (zbB ZE)) :=
 okC (A := ⟨[zaV ZO, zff zbE, QZ ZE], [], [], 0, [(4, ⟨[17], ⟨[.int .i64], [(2, .sl 32)]⟩, [1, 2, 16], [0, 1], [2], 0, [], ⟨[], [(2, .sl 32)]⟩, [2]⟩)], [], []⟩) (exS := ⟨[.optr 0], [(0, .row 32)]⟩) Tryz.f81 (memC ziN (memC zjv (memC hs zC))) (by kernel_rfl) (by kernel_rfl) fun x => by kernel_rfl
theorem zlO : zg Tryz.prog (QZ ZE) :=
 zg.recE (I := I) (P := Tryz.prog) (f := 81) (inS := ⟨[.val 32], []⟩) (cst := []) (outS := ⟨[.val 32], []⟩) (k := 0) (zbB) (by kernel_rfl) (fun S h => zl5 S h)
theorem zh5 : zg Tryz.prog (zd4 slices_Clone_string) :=
 okC (A := ⟨[], [], [], 0, [], [], []⟩) (exS := ⟨[.own 0], [(0, .sl 87)]⟩) Tryz.f82 zC (by kernel_rfl) (by kernel_rfl) fun x => by kernel_rfl
theorem zgZ : zg Tryz.prog (zcM qD) :=
 okC (A := ⟨[], [], [], 0, [], [], []⟩) (exS := ⟨[.own 0], [(0, .sl 9)]⟩) Tryz.f83 zC (by kernel_rfl) (by kernel_rfl) fun x => by kernel_rfl
theorem zuA (Qh : List zu → Option (List zu)) (hs : zg Tryz.prog (zco Qh)) : zg Tryz.prog (zco (zgb Qh)) :=
 okC (A := ⟨[zfh zbG, Q0 ZF, zk6 zdz, QZ ZE, zco Qh, zd4 slices_Clone_string, zcM qD], [], [], 0, [(3, ⟨[10], ⟨[.int .i64], [(0, .sl 35)]⟩, [0, 2, 9], [], [0], 0, [], ⟨[], [(0, .sl 35)]⟩, [0]⟩), (9, ⟨[61], ⟨[.int .i64], [(1, .sl 87)]⟩, [4, 10, 60], [0], [1], 2, [], ⟨[], [(1, .sl 87)]⟩, [1]⟩)], [], []⟩) (exS := ⟨[.sl 35], []⟩) Tryz.f41 (memC zjx (memC zlP (memC zrF (memC zlO (memC hs (memC zh5 (memC zgZ zC))))))) (by kernel_rfl) (by kernel_rfl) fun x => by kernel_rfl
theorem zlQ : zg Tryz.prog (zco Qh) :=
 zg.recE (I := I) (P := Tryz.prog) (f := 41) (inS := ⟨[.sl 35], []⟩) (cst := []) (outS := ⟨[.sl 35], []⟩) (k := 0) (zgb) (by kernel_rfl) (fun S h => zuA S h)
theorem zqb : zg Tryz.prog (zjQ zem) :=
 okC (A := ⟨[zhq zaF, zgL zbs, zco Qh], [], [(10, [(54, none)])], 0, [], [], []⟩) (exS := ⟨[.optr 0, .int .i64], [(0, .row 24)]⟩) Tryz.f19 (memC zj6 (memC zlT (memC zlQ zC))) (by kernel_rfl) (by kernel_rfl) fun x => by kernel_rfl
theorem zj4 : zg Tryz.prog (zho zce) :=
 okC (A := ⟨[], [], [], 0, [(2, ⟨[5], ⟨[.int .i64], []⟩, [0, 1], [], [], 0, [], ⟨[], []⟩, []⟩)], [], []⟩) (exS := ⟨[.bool], []⟩) Tryz.f188 zC (by kernel_rfl) (by kernel_rfl) fun x => by kernel_rfl
theorem zgs : zg Tryz.prog (zeD QS) :=
 okC (A := ⟨[zho zce], [], [], 0, [], [], []⟩) (exS := ⟨[.bool], []⟩) Tryz.f164 (memC zj4 zC) (by kernel_rfl) (by kernel_rfl) fun x => by kernel_rfl
theorem zgq : zg Tryz.prog (zeB Qk) :=
 okC (A := ⟨[], [], [], 0, [], [], []⟩) (exS := ⟨[.int .u8], []⟩) Tryz.f169 zC (by kernel_rfl) (by kernel_rfl) fun x => by kernel_rfl
theorem zdK : zg Tryz.prog (zcI ZZ) :=
 okC (A := ⟨[zeB Qk], [], [], 0, [(3, ⟨[4], ⟨[.int .i64], [(0, .sl 5)]⟩, [2, 3], [], [0], 0, [], ⟨[], [(0, .sl 5)]⟩, [0]⟩)], [], []⟩) (exS := ⟨[.str], []⟩) Tryz.f126 (memC zgq zC) (by kernel_rfl) (by kernel_rfl) fun x => by kernel_rfl
theorem zj3 : zg Tryz.prog (zhn zcd) :=
 okC (A := ⟨[zeD QS, zcI ZZ], [], [], 0, [], [], []⟩) (exS := ⟨[.bool], []⟩) Tryz.f210 (memC zgs (memC zdK zC)) (by kernel_rfl) (by kernel_rfl) fun x => by kernel_rfl
theorem ziM : zg Tryz.prog (zgk zav) :=
 okC (A := ⟨[], [], [], 0, [], [], []⟩) (exS := ⟨[.optr 0], [(0, .row 208)]⟩) Tryz.f193 zC (by kernel_rfl) (by kernel_rfl) fun x => by kernel_rfl
theorem zrt : zg Tryz.prog (zkV zfD) :=
 okC (A := ⟨[], [], [], 0, [], [], []⟩) (exS := ⟨[.bool], []⟩) Tryz.f218 zC (by kernel_rfl) (by kernel_rfl) fun x => by kernel_rfl
theorem zry : zg Tryz.prog (zk0 zfH) :=
 okC (A := ⟨[], [], [], 0, [], [], []⟩) (exS := ⟨[.optr 0, .bool], [(0, .row 197)]⟩) Tryz.f223 zC (by kernel_rfl) (by kernel_rfl) fun x => by kernel_rfl
theorem zp2 (zQ : zb × zK × Bool → Option Bool) (h_ref08_whole : zg Tryz.prog (Qz zQ)) : zg Tryz.prog (zjI (zbo zQ)) :=
 okC (A := ⟨[zk0 zfH, Qz zQ], [], [], 0, [(5, ⟨[9], ⟨[.int .i64], []⟩, [0, 2, 7], [1], [], 0, [], ⟨[], []⟩, []⟩)], [], []⟩) (exS := ⟨[.bool], []⟩) Tryz.f219 (memC zry (memC h_ref08_whole zC)) (by kernel_rfl) (by kernel_rfl) fun x => by kernel_rfl
theorem zp3 (zQ : zb × zK × Bool → Option Bool) (h_ref08_whole : zg Tryz.prog (Qz zQ)) : zg Tryz.prog (zjJ (zcv zQ)) :=
 okC (A := ⟨[zgk zav, zeD QS, zhn zcd, zho zce, zkV zfD, zjI (zbo zQ)], [], [], 0, [], [(5, ⟨[11], ⟨[.bool], []⟩, [2, 3, 5, 10], [0, 1, 2], [], 0, [], ⟨[], []⟩, []⟩), (14, ⟨[84], ⟨[.bool], []⟩, [], [], [], 0, [], ⟨[], []⟩, []⟩), (17, ⟨[101], ⟨[.bool], []⟩, [], [], [], 0, [], ⟨[], []⟩, []⟩), (24, ⟨[138], ⟨[.bool], []⟩, [], [], [], 0, [], ⟨[], []⟩, []⟩), (27, ⟨[154], ⟨[.bool], []⟩, [], [], [], 0, [], ⟨[], []⟩, []⟩)], []⟩) (exS := ⟨[.bool], []⟩) Tryz.f211 (memC ziM (memC zgs (memC zj3 (memC zj4 (memC zrt (memC (zp2 zQ h_ref08_whole) zC)))))) (by kernel_rfl) (by kernel_rfl) fun x => by kernel_rfl
theorem zmM (zQ : zb × zK × Bool → Option Bool) (h_ref08_whole : zg Tryz.prog (Qz zQ)) : zg Tryz.prog (zhT (zaZ zQ)) :=
 okC (A := ⟨[zhn zcd, zjJ (zcv zQ)], [], [], 0, [(4, ⟨[5], ⟨[.int .i64], []⟩, [2, 3], [0, 1], [], 0, [], ⟨[], []⟩, []⟩)], [], []⟩) (exS := ⟨[.bool], []⟩) Tryz.f204 (memC zj3 (memC (zp3 zQ h_ref08_whole) zC)) (by kernel_rfl) (by kernel_rfl) fun x => by kernel_rfl
theorem zrZ (zQ : zb × zK × Bool → Option Bool) (hs : zg Tryz.prog (Qz zQ)) : zg Tryz.prog (Qz (zeT zQ)) :=
 okC (A := ⟨[zhT (zaZ zQ)], [], [], 0, [(4, ⟨[7], ⟨[.int .i64], []⟩, [3, 4], [0, 1], [], 0, [], ⟨[], []⟩, []⟩)], [], []⟩) (exS := ⟨[.bool], []⟩) Tryz.f182 (memC (zmM zQ hs) zC) (by kernel_rfl) (by kernel_rfl) fun x => by kernel_rfl
theorem zrz : zg Tryz.prog (Qz zQ) :=
 zg.recE (I := I) (P := Tryz.prog) (f := 182) (inS := ⟨[.val 137, .val 197, .bool], []⟩) (cst := []) (outS := ⟨[.bool], []⟩) (k := 0) (zeT) (by kernel_rfl) (fun S h => zrZ S h)
theorem ztV : zg Tryz.prog (zno zha) :=
 okC (A := ⟨[Qz zQ], [], [], 0, [(2, ⟨[3], ⟨[.int .i64], []⟩, [0], [], [], 0, [], ⟨[], []⟩, []⟩)], [], []⟩) (exS := ⟨[.bool], []⟩) Tryz.f158 (memC zrz zC) (by kernel_rfl) (by kernel_rfl) fun x => by kernel_rfl
theorem zqF (Qc : List zb → Option Int) (hs : zg Tryz.prog (zbR Qc)) : zg Tryz.prog (zbR (zdP Qc)) :=
 okC (A := ⟨[zbR Qc], [], [], 0, [(3, ⟨[3, 4], ⟨[.int .i64, .int .i64], []⟩, [0, 2], [], [], 0, [3], ⟨[.int .i64], []⟩, []⟩), (6, ⟨[3, 5], ⟨[.int .i64, .int .i64], []⟩, [4], [], [], 2, [3], ⟨[.int .i64], []⟩, []⟩), (10, ⟨[3, 7], ⟨[.int .i64, .int .i64], []⟩, [5, 6], [], [], 4, [3], ⟨[.int .i64], []⟩, []⟩)], [], []⟩) (exS := ⟨[.int .i64], []⟩) Tryz.f159 (memC hs zC) (by kernel_rfl) (by kernel_rfl) fun x => by kernel_rfl
theorem zp1 : zg Tryz.prog (zbR Qc) :=
 zg.recE (I := I) (P := Tryz.prog) (f := 159) (inS := ⟨[.sl 137], []⟩) (cst := []) (outS := ⟨[.int .i64], []⟩) (k := 0) (zdP) (by kernel_rfl) (fun S h => zqF S h)
theorem zru : zg Tryz.prog (zkW zfE) :=
 okC (A := ⟨[zno zha, zbR Qc], [], [], 0, [], [], []⟩) (exS := ⟨[.int .i64], []⟩) Tryz.f111 (memC ztV (memC zp1 zC)) (by kernel_rfl) (by kernel_rfl) fun x => by kernel_rfl
theorem zuq (zad : List zf × List zf → Option Bool) (hs : zg Tryz.prog (zdW zad)) : zg Tryz.prog (zdW (zee zad)) :=
 okC (A := ⟨[zdW zad], [], [], 0, [(4, ⟨[5], ⟨[.int .i64], []⟩, [0, 1], [], [], 0, [], ⟨[], []⟩, []⟩)], [], []⟩) (exS := ⟨[.bool], []⟩) Tryz.f77 (memC hs zC) (by kernel_rfl) (by kernel_rfl) fun x => by kernel_rfl
theorem ztS : zg Tryz.prog (zdW zad) :=
 zg.recE (I := I) (P := Tryz.prog) (f := 77) (inS := ⟨[.sl 99, .sl 99], []⟩) (cst := []) (outS := ⟨[.bool], []⟩) (k := 0) (zee) (by kernel_rfl) (fun S h => zuq S h)
theorem zj2 : zg Tryz.prog (zhm QR) :=
 okC (A := ⟨[zdW zad], [], [], 0, [], [], []⟩) (exS := ⟨[.bool], []⟩) Tryz.f40 (memC ztS zC) (by kernel_rfl) (by kernel_rfl) fun x => by kernel_rfl
theorem zuv (qF : zk × zk → Option Bool) (hs : zg Tryz.prog (zcl qF)) : zg Tryz.prog (zcl (zei qF)) :=
 okC (A := ⟨[zhm QR, zcl qF], [], [], 0, [(4, ⟨[5], ⟨[.int .i64], []⟩, [2, 3], [0, 1], [], 0, [], ⟨[], []⟩, []⟩)], [], []⟩) (exS := ⟨[.bool], []⟩) Tryz.f18 (memC zj2 (memC hs zC)) (by kernel_rfl) (by kernel_rfl) fun x => by kernel_rfl
theorem zlJ : zg Tryz.prog (zcl qF) :=
 zg.recE (I := I) (P := Tryz.prog) (f := 18) (inS := ⟨[.val 32, .val 32], []⟩) (cst := []) (outS := ⟨[.bool], []⟩) (k := 0) (zei) (by kernel_rfl) (fun S h => zuv S h)
theorem zt1 : zg Tryz.prog (znp zdy) :=
 okC (A := ⟨[zcl qF], [], [], 0, [], [], []⟩) (exS := ⟨[.bool], []⟩) Tryz.f112 (memC zlJ zC) (by kernel_rfl) (by kernel_rfl) fun x => by kernel_rfl
theorem zrs : zg Tryz.prog (zkU zfC) :=
 okC (A := ⟨[zcI ZZ], [], [], 0, [(4, ⟨[3], ⟨[.int .i64], []⟩, [0], [], [], 0, [], ⟨[], []⟩, []⟩)], [], []⟩) (exS := ⟨[.bool], []⟩) Tryz.f160 (memC zdK zC) (by kernel_rfl) (by kernel_rfl) fun x => by kernel_rfl
theorem zqD (qi : List zf → Option (List zm)) (hs : zg Tryz.prog (zaU qi)) : zg Tryz.prog (zaU (zdN qi)) :=
 okC (A := ⟨[zdC QG, zaU qi], [(5, [6]), (9, [3])], [], 0, [(3, ⟨[3, 4], ⟨[.own 1208, .int .i64], [(1208, .sl 97)]⟩, [0, 2], [], [], 0, [3], ⟨[.own 1208], [(1208, .sl 97)]⟩, [1208]⟩)], [(4, ⟨[3, 4], ⟨[.own 1310, .int .i64], [(1310, .sl 97)]⟩, [], [], [], 0, [], ⟨[], []⟩, []⟩)], []⟩) (exS := ⟨[.sl 97], []⟩) Tryz.f67 (memC zft (memC hs zC)) (by kernel_rfl) (by kernel_rfl) fun x => by kernel_rfl
theorem ziL : zg Tryz.prog (zaU qi) :=
 zg.recE (I := I) (P := Tryz.prog) (f := 67) (inS := ⟨[.sl 99], []⟩) (cst := []) (outS := ⟨[.sl 97], []⟩) (k := 0) (zdN) (by kernel_rfl) (fun S h => zqD S h)
theorem zqE (Qb : List zf × Int → Option Bool) (hs : zg Tryz.prog (zbQ Qb)) : zg Tryz.prog (zbQ (zdO Qb)) :=
 okC (A := ⟨[zdC QG, zbQ Qb], [], [], 0, [(2, ⟨[5], ⟨[.int .i64], []⟩, [0, 1], [], [], 0, [], ⟨[], []⟩, []⟩)], [], []⟩) (exS := ⟨[.bool], []⟩) Tryz.f68 (memC zft (memC hs zC)) (by kernel_rfl) (by kernel_rfl) fun x => by kernel_rfl
theorem zpY : zg Tryz.prog (zbQ Qb) :=
 zg.recE (I := I) (P := Tryz.prog) (f := 68) (inS := ⟨[.sl 99, .int .u8], []⟩) (cst := []) (outS := ⟨[.bool], []⟩) (k := 0) (zdO) (by kernel_rfl) (fun S h => zqE S h)
theorem zrr : zg Tryz.prog (zkT zfB) :=
 okC (A := ⟨[zaq ZP, zaU qi, zbQ Qb], [], [], 0, [], [], []⟩) (exS := ⟨[.int .i64], []⟩) Tryz.f34 (memC zeO (memC ziL (memC zpY zC))) (by kernel_rfl) (by kernel_rfl) fun x => by kernel_rfl
theorem zrq : zg Tryz.prog (zkS zbl) :=
 okC (A := ⟨[], [], [], 0, [(2, ⟨[3], ⟨[.int .i64], []⟩, [0], [], [], 0, [], ⟨[], []⟩, []⟩)], [], []⟩) (exS := ⟨[.bool], []⟩) Tryz.f212 zC (by kernel_rfl) (by kernel_rfl) fun x => by kernel_rfl
theorem QP : zg Tryz.prog (Qy Zi) :=
 okC (A := ⟨[], [], [], 0, [], [], []⟩) (exS := ⟨[.bool], []⟩) Tryz.f220 zC (by kernel_rfl) (by kernel_rfl) fun x => by kernel_rfl
theorem ztQ : zg Tryz.prog (znl zg8) :=
 okC (A := ⟨[Qy Zi], [], [], 0, [], [], []⟩) (exS := ⟨[.bool], []⟩) Tryz.f213 (memC QP zC) (by kernel_rfl) (by kernel_rfl) fun x => by kernel_rfl
theorem zdL : zg Tryz.prog (zcJ Ql) :=
 okC (A := ⟨[], [], [], 0, [], [], []⟩) (exS := ⟨[.bool], []⟩) Tryz.f224 zC (by kernel_rfl) (by kernel_rfl) fun x => by kernel_rfl
theorem QO : zg Tryz.prog (QX Za) :=
 okC (A := ⟨[], [], [], 0, [], [], []⟩) (exS := ⟨[.int .u8], []⟩) Tryz.f236 zC (by kernel_rfl) (by kernel_rfl) fun x => by kernel_rfl
theorem zfs : zg Tryz.prog (zdB Qa) :=
 okC (A := ⟨[QX Za, zcJ Ql], [], [], 0, [(1, ⟨[1], ⟨[.int .i64], []⟩, [0, 4], [], [], 0, [1], ⟨[.int .i64], []⟩, []⟩)], [], []⟩) (exS := ⟨[.int .i64], []⟩) Tryz.f225 (memC QO (memC zdL zC)) (by kernel_rfl) (by kernel_rfl) fun x => by kernel_rfl
theorem zlH : zg Tryz.prog (zid zdu) :=
 okC (A := ⟨[], [(1, [0])], [], 0, [], [], []⟩) (exS := ⟨[.str], []⟩) Tryz.f242 zC (by kernel_rfl) (by kernel_rfl) fun x => by kernel_rfl
theorem zwd : zg Tryz.prog (zoS zfy) :=
 okC (A := ⟨[Qy Zi, zeB Qk], [], [], 0, [], [], []⟩) (exS := ⟨[.int .i64], []⟩) Tryz.f243 (memC QP (memC zgq zC)) (by kernel_rfl) (by kernel_rfl) fun x => by kernel_rfl
theorem ztN : zg Tryz.prog (zni zg4) :=
 okC (A := ⟨[zid zdu], [(4, [2]), (6, [8]), (8, [13]), (9, [18])], [], 0, [], [], []⟩) (exS := ⟨[.str], []⟩) Tryz.f244 (memC zlH zC) (by kernel_rfl) (by kernel_rfl) fun x => by kernel_rfl
theorem zb4 : zg Tryz.prog (za7 qd) :=
 okC (A := ⟨[zid zdu, zoS zfy, QX Za, zcJ Ql, zni zg4], [], [], 0, [(7, ⟨[6, 7], ⟨[.int .i64, .int .i64], []⟩, [0, 1, 4, 5], [], [], 0, [6, 7], ⟨[.int .i64, .int .i64], []⟩, []⟩)], [(12, ⟨[7], ⟨[.int .i64], []⟩, [6], [], [], 0, [], ⟨[], []⟩, []⟩)], []⟩) (exS := ⟨[.str, .int .i64], []⟩) Tryz.f237 (memC zlH (memC zwd (memC QO (memC zdL (memC ztN zC))))) (by kernel_rfl) (by kernel_rfl) fun x => by kernel_rfl
theorem zpX : zg Tryz.prog (zjF zed) :=
 okC (A := ⟨[za7 qd], [], [], 0, [(4, ⟨[1], ⟨[.int .i64], [(0, .row 97), (1, .row 97)]⟩, [0, 4, 6, 7], [], [0, 1], 0, [1], ⟨[.int .i64], [(0, .row 97), (1, .row 97)]⟩, [0, 1]⟩)], [], []⟩) (exS := ⟨[.optr 0, .int .i64], [(0, .row 97)]⟩) Tryz.f226 (memC zb4 zC) (by kernel_rfl) (by kernel_rfl) fun x => by kernel_rfl
theorem ziK : zg Tryz.prog (zgj zau) :=
 okC (A := ⟨[zeB Qk], [], [], 0, [], [], []⟩) (exS := ⟨[.bool], []⟩) Tryz.f238 (memC zgq zC) (by kernel_rfl) (by kernel_rfl) fun x => by kernel_rfl
theorem ziI : zg Tryz.prog (zgh zbi) :=
 okC (A := ⟨[zgj zau, Qy Zi], [], [], 0, [], [], []⟩) (exS := ⟨[.bool], []⟩) Tryz.f227 (memC ziK (memC QP zC)) (by kernel_rfl) (by kernel_rfl) fun x => by kernel_rfl
theorem zbh : zg Tryz.prog (zaT ZN) :=
 okC (A := ⟨[QX Za], [], [], 0, [], [], []⟩) (exS := ⟨[.bool], []⟩) Tryz.f228 (memC QO zC) (by kernel_rfl) (by kernel_rfl) fun x => by kernel_rfl
theorem zgr : zg Tryz.prog (zeC QQ) :=
 okC (A := ⟨[zgh zbi, zaT ZN, za7 qd], [], [], 0, [(2, ⟨[1, 6], ⟨[.int .i64, .str], []⟩, [0], [], [], 0, [], ⟨[], []⟩, []⟩)], [], []⟩) (exS := ⟨[.str, .int .i64], []⟩) Tryz.f229 (memC ziI (memC zbh (memC zb4 zC))) (by kernel_rfl) (by kernel_rfl) fun x => by kernel_rfl
theorem ziJ : zg Tryz.prog (zgi QF) :=
 okC (A := ⟨[QX Za, zgj zau, zaT ZN], [], [], 0, [], [], []⟩) (exS := ⟨[.bool], []⟩) Tryz.f230 (memC QO (memC ziK (memC zbh zC))) (by kernel_rfl) (by kernel_rfl) fun x => by kernel_rfl
theorem zmL : zg Tryz.prog (zhS zbY) :=
 okC (A := ⟨[QX Za, Qy Zi], [], [], 0, [], [(4, ⟨[1], ⟨[.int .i64], []⟩, [0], [], [], 0, [], ⟨[], []⟩, []⟩), (6, ⟨[1], ⟨[.int .i64], []⟩, [], [], [], 0, [], ⟨[], []⟩, []⟩)], []⟩) (exS := ⟨[.bool], []⟩) Tryz.f231 (memC QO (memC QP zC)) (by kernel_rfl) (by kernel_rfl) fun x => by kernel_rfl
theorem zpW : zg Tryz.prog (zjE zbk) :=
 okC (A := ⟨[QX Za, Qy Zi], [], [], 0, [(1, ⟨[1], ⟨[.int .i64], []⟩, [0, 4], [], [], 0, [1], ⟨[.int .i64], []⟩, []⟩)], [], []⟩) (exS := ⟨[.int .i64], []⟩) Tryz.f245 (memC QO (memC QP zC)) (by kernel_rfl) (by kernel_rfl) fun x => by kernel_rfl
theorem zlG : zg Tryz.prog (zgG zbj) :=
 okC (A := ⟨[QX Za, zjE zbk, Qy Zi], [], [], 0, [], [(4, ⟨[1], ⟨[.int .i64], []⟩, [0], [], [], 0, [], ⟨[], []⟩, []⟩), (9, ⟨[1, 7], ⟨[.int .i64, .bool], []⟩, [], [], [], 0, [], ⟨[], []⟩, []⟩), (15, ⟨[1, 7, 9], ⟨[.int .i64, .bool, .int .i64], []⟩, [], [], [], 0, [], ⟨[], []⟩, []⟩), (18, ⟨[1, 7], ⟨[.int .i64, .bool], []⟩, [], [], [], 0, [], ⟨[], []⟩, []⟩)], []⟩) (exS := ⟨[.int .i64, .bool], []⟩) Tryz.f239 (memC QO (memC zpW (memC QP zC))) (by kernel_rfl) (by kernel_rfl) fun x => by kernel_rfl
theorem zjr : zg Tryz.prog (ze9 zab) :=
 okC (A := ⟨[QX Za, Qy Zi], [], [], 0, [(5, ⟨[3, 5], ⟨[.str, .int .i64], []⟩, [4], [], [], 0, [3, 5], ⟨[.str, .int .i64], []⟩, []⟩), (10, ⟨[3, 4, 5], ⟨[.str, .int .i64, .int .i64], []⟩, [], [], [], 2, [3, 4, 5], ⟨[.str, .int .i64, .int .i64], []⟩, []⟩), (20, ⟨[5, 8], ⟨[.int .i64, .int .i64], []⟩, [4], [], [], 4, [8], ⟨[.int .i64], []⟩, []⟩), (28, ⟨[9, 10], ⟨[.int .i64, .int .i64], []⟩, [4], [], [], 6, [9], ⟨[.int .i64], []⟩, []⟩), (31, ⟨[4, 9], ⟨[.int .i64, .int .i64], []⟩, [], [], [], 8, [9], ⟨[.int .i64], []⟩, []⟩)], [(5, ⟨[3, 4, 5], ⟨[.str, .int .i64, .int .i64], []⟩, [0, 6], [], [], 0, [], ⟨[], []⟩, []⟩), (14, ⟨[3, 4, 5], ⟨[.str, .int .i64, .int .i64], []⟩, [], [], [], 0, [], ⟨[], []⟩, []⟩), (19, ⟨[4, 5], ⟨[.int .i64, .int .i64], []⟩, [3, 7], [], [], 0, [], ⟨[], []⟩, []⟩), (25, ⟨[4, 8], ⟨[.int .i64, .int .i64], []⟩, [], [], [], 0, [], ⟨[], []⟩, []⟩), (26, ⟨[4], ⟨[.int .i64], []⟩, [3], [], [], 0, [], ⟨[], []⟩, []⟩)], []⟩) (exS := ⟨[.int .i64], []⟩) Tryz.f240 (memC QO (memC QP zC)) (by kernel_rfl) (by kernel_rfl) fun x => by kernel_rfl
theorem znP : zg Tryz.prog (zie zc0) :=
 okC (A := ⟨[zgG zbj, ze9 zab, zgi QF, zeC QQ, QX Za], [], [], 0, [], [(9, ⟨[6], ⟨[.int .i64], [(0, .row 97), (1, .row 97)]⟩, [4, 8], [], [0, 1], 0, [], ⟨[], []⟩, []⟩)], []⟩) (exS := ⟨[.optr 0, .int .i64], [(0, .row 97)]⟩) Tryz.f232 (memC zlG (memC zjr (memC ziJ (memC zgr (memC QO zC))))) (by kernel_rfl) (by kernel_rfl) fun x => by kernel_rfl
theorem zwg : zg Tryz.prog (zoV zg6) :=
 okC (A := ⟨[], [], [], 0, [], [], []⟩) (exS := ⟨[.bool], []⟩) Tryz.f233 zC (by kernel_rfl) (by kernel_rfl) fun x => by kernel_rfl
theorem zjZ : zg Tryz.prog (zhj Qj) :=
 okC (A := ⟨[zcI ZZ], [], [], 0, [], [], []⟩) (exS := ⟨[.bool], []⟩) Tryz.f168 (memC zdK zC) (by kernel_rfl) (by kernel_rfl) fun x => by kernel_rfl
theorem zwf : zg Tryz.prog (zoU zg5) :=
 okC (A := ⟨[zaT ZN, za7 qd], [], [], 0, [(1, ⟨[1], ⟨[.int .i64], []⟩, [0, 4, 5], [0], [], 0, [1], ⟨[.int .i64], []⟩, []⟩)], [], []⟩) (exS := ⟨[.optr 0, .int .i64], [(0, .row 97)]⟩) Tryz.f246 (memC zbh (memC zb4 zC)) (by kernel_rfl) (by kernel_rfl) fun x => by kernel_rfl
theorem zjs : zg Tryz.prog (zfa zac) :=
 okC (A := ⟨[], [], [], 0, [], [], []⟩) (exS := ⟨[.bool], []⟩) Tryz.f247 zC (by kernel_rfl) (by kernel_rfl) fun x => by kernel_rfl
theorem zwh : zg Tryz.prog (zoW ziW) :=
 okC (A := ⟨[zdB Qa, zcJ Ql, zoU zg5, zfa zac, zaT ZN, za7 qd], [], [], 0, [(3, ⟨[1], ⟨[.int .i64], [(0, .row 97), (1, .row 97)]⟩, [0, 4, 6], [], [0, 1], 0, [1], ⟨[.int .i64], [(0, .row 97), (1, .row 97)]⟩, [0, 1]⟩)], [], []⟩) (exS := ⟨[.optr 0, .int .i64], [(0, .row 97)]⟩) Tryz.f241 (memC zfs (memC zdL (memC zwf (memC zjs (memC zbh (memC zb4 zC)))))) (by kernel_rfl) (by kernel_rfl) fun x => by kernel_rfl
theorem ztP : zg Tryz.prog (znk zg7) :=
 okC (A := ⟨[zeC QQ, QX Za, zhj Qj, zdB Qa, zoW ziW], [], [], 0, [], [(8, ⟨[], ⟨[], [(0, .row 97)]⟩, [4, 6, 7], [], [0], 0, [], ⟨[], []⟩, []⟩)], []⟩) (exS := ⟨[.optr 0, .int .i64], [(0, .row 97)]⟩) Tryz.f234 (memC zgr (memC QO (memC zjZ (memC zfs (memC zwh zC))))) (by kernel_rfl) (by kernel_rfl) fun x => by kernel_rfl
theorem ztO : zg Tryz.prog (znj ze2) :=
 okC (A := ⟨[], [], [], 0, [], [], []⟩) (exS := ⟨[.int .u8], []⟩) Tryz.f235 zC (by kernel_rfl) (by kernel_rfl) fun x => by kernel_rfl
theorem zwe : zg Tryz.prog (zoT ziU) :=
 okC (A := ⟨[zcJ Ql, zdB Qa, zjF zed, zgh zbi, zaT ZN, zeC QQ, zgi QF, zhS zbY, zie zc0, zoV zg6, znk zg7, znj ze2], [], [], 0, [], [], []⟩) (exS := ⟨[.optr 0, .int .i64], [(0, .row 97)]⟩) Tryz.f221 (memC zdL (memC zfs (memC zpX (memC ziI (memC zbh (memC zgr (memC ziJ (memC zmL (memC znP (memC zwg (memC ztP (memC ztO zC)))))))))))) (by kernel_rfl) (by kernel_rfl) fun x => by kernel_rfl
theorem zrp : zg Tryz.prog (zkR Qm) :=
 okC (A := ⟨[zoT ziU], [(1, [1])], [], 0, [], [], []⟩) (exS := ⟨[.bool], []⟩) Tryz.f214 (memC zwe zC) (by kernel_rfl) (by kernel_rfl) fun x => by kernel_rfl
theorem ztR : zg Tryz.prog (znm zg9) :=
 okC (A := ⟨[zkS zbl, znl zg8, zkR Qm], [], [], 0, [], [(6, ⟨[8], ⟨[.bool], [(1, .row 97)]⟩, [1, 3, 7], [0], [1], 0, [], ⟨[], []⟩, []⟩), (13, ⟨[56], ⟨[.bool], [(1, .row 97)]⟩, [], [], [1], 0, [], ⟨[], []⟩, []⟩), (21, ⟨[90], ⟨[.bool], [(1, .row 97)]⟩, [], [], [1], 0, [], ⟨[], []⟩, []⟩), (26, ⟨[148], ⟨[.bool], []⟩, [], [1], [], 0, [], ⟨[], []⟩, []⟩)], []⟩) (exS := ⟨[.bool], []⟩) Tryz.f205 (memC zrq (memC ztQ (memC zrp zC))) (by kernel_rfl) (by kernel_rfl) fun x => by kernel_rfl
theorem zro : zg Tryz.prog (zkQ zdv) :=
 okC (A := ⟨[znm zg9, zhj Qj], [], [], 0, [(4, ⟨[3], ⟨[.int .i64], []⟩, [0], [], [], 0, [], ⟨[], []⟩, []⟩)], [(12, ⟨[4], ⟨[.int .i64], []⟩, [3], [], [], 0, [], ⟨[], []⟩, []⟩), (14, ⟨[], ⟨[], []⟩, [3], [], [], 0, [], ⟨[], []⟩, []⟩)], []⟩) (exS := ⟨[.int .i64], []⟩) Tryz.f183 (memC ztR (memC zjZ zC)) (by kernel_rfl) (by kernel_rfl) fun x => by kernel_rfl
theorem zn4 (qz : List zf → Option Bool) (hs : zg Tryz.prog (za8 qz)) : zg Tryz.prog (za8 (zc2 qz)) :=
 okC (A := ⟨[za8 qz], [], [], 0, [(2, ⟨[3], ⟨[.int .i64], []⟩, [0], [], [], 0, [], ⟨[], []⟩, []⟩)], [], []⟩) (exS := ⟨[.bool], []⟩) Tryz.f184 (memC hs zC) (by kernel_rfl) (by kernel_rfl) fun x => by kernel_rfl
theorem znR : zg Tryz.prog (za8 qz) :=
 zg.recE (I := I) (P := Tryz.prog) (f := 184) (inS := ⟨[.sl 99], []⟩) (cst := []) (outS := ⟨[.bool], []⟩) (k := 0) (zc2) (by kernel_rfl) (fun S h => zn4 S h)
theorem znQ : zg Tryz.prog (zif zc1) :=
 okC (A := ⟨[], [], [], 0, [(1, ⟨[0], ⟨[.sl 99], []⟩, [2], [], [], 0, [0], ⟨[.sl 99], []⟩, []⟩), (3, ⟨[0], ⟨[.sl 99], []⟩, [2], [], [], 2, [0], ⟨[.sl 99], []⟩, []⟩)], [], []⟩) (exS := ⟨[.sl 99], []⟩) Tryz.f69 zC (by kernel_rfl) (by kernel_rfl) fun x => by kernel_rfl
theorem zpZ : zg Tryz.prog (zjG zef) :=
 okC (A := ⟨[], [], [], 0, [], [], []⟩) (exS := ⟨[.bool], []⟩) Tryz.f185 zC (by kernel_rfl) (by kernel_rfl) fun x => by kernel_rfl
theorem zp0 : zg Tryz.prog (zjH zeg) :=
 okC (A := ⟨[zkT zfB, zaU qi, zkQ zdv, za8 qz, zif zc1, zjG zef], [], [], 0, [(6, ⟨[5], ⟨[.int .i64], []⟩, [1], [], [], 0, [], ⟨[], []⟩, []⟩)], [], []⟩) (exS := ⟨[.bool], []⟩) Tryz.f161 (memC zrr (memC ziL (memC zro (memC znR (memC znQ (memC zpZ zC)))))) (by kernel_rfl) (by kernel_rfl) fun x => by kernel_rfl
theorem zj0 : zg Tryz.prog (zhk zbm) :=
 okC (A := ⟨[zkU zfC, zjH zeg], [], [], 0, [], [], []⟩) (exS := ⟨[.int .i64], []⟩) Tryz.f113 (memC zrs (memC zp0 zC)) (by kernel_rfl) (by kernel_rfl) fun x => by kernel_rfl
theorem zj5 : zg Tryz.prog (zhp zbp) :=
 okC (A := ⟨[], [], [], 0, [], [], []⟩) (exS := ⟨[.bool], []⟩) Tryz.f186 zC (by kernel_rfl) (by kernel_rfl) fun x => by kernel_rfl
theorem zcY : zg Tryz.prog (zbS Z4) :=
 okC (A := ⟨[zhp zbp], [], [], 0, [], [], []⟩) (exS := ⟨[.bool], []⟩) Tryz.f162 (memC zj5 zC) (by kernel_rfl) (by kernel_rfl) fun x => by kernel_rfl
theorem zp5 : zg Tryz.prog (zjL zcz) :=
 okC (A := ⟨[zcI ZZ], [], [], 0, [(4, ⟨[3], ⟨[.int .i64], []⟩, [0], [], [], 0, [], ⟨[], []⟩, []⟩)], [], []⟩) (exS := ⟨[.bool], []⟩) Tryz.f127 (memC zdK zC) (by kernel_rfl) (by kernel_rfl) fun x => by kernel_rfl
theorem zxz : zg Tryz.prog (zr4 zjj) :=
 okC (A := ⟨[], [], [], 0, [], [], []⟩) (exS := ⟨[.bool], []⟩) Tryz.f170 zC (by kernel_rfl) (by kernel_rfl) fun x => by kernel_rfl
theorem zwi : zg Tryz.prog (zoX zhb) :=
 okC (A := ⟨[zbS Z4, zhp zbp, zjL zcz, zr4 zjj], [], [], 0, [(4, ⟨[4], ⟨[.int .i64], []⟩, [1], [0], [], 0, [], ⟨[], []⟩, []⟩)], [(5, ⟨[4], ⟨[.int .i64], []⟩, [], [], [], 0, [], ⟨[], []⟩, []⟩)], []⟩) (exS := ⟨[.bool, .bool], []⟩) Tryz.f187 (memC zcY (memC zj5 (memC zp5 (memC zxz zC)))) (by kernel_rfl) (by kernel_rfl) fun x => by kernel_rfl
theorem zrB : zg Tryz.prog (zk2 zdw) :=
 okC (A := ⟨[zbS Z4, zoX zhb], [], [], 0, [], [], []⟩) (exS := ⟨[.bool], []⟩) Tryz.f163 (memC zcY (memC zwi zC)) (by kernel_rfl) (by kernel_rfl) fun x => by kernel_rfl
theorem zp4 : zg Tryz.prog (zjK zeh) :=
 okC (A := ⟨[zbS Z4, zk2 zdw], [], [], 0, [(8, ⟨[3], ⟨[.int .i64], []⟩, [1], [0], [], 0, [], ⟨[], []⟩, []⟩)], [], []⟩) (exS := ⟨[.bool], []⟩) Tryz.f114 (memC zcY (memC zrB zC)) (by kernel_rfl) (by kernel_rfl) fun x => by kernel_rfl
theorem zuu (Qw : zk → Option Int) (hs : zg Tryz.prog (zck Qw)) : zg Tryz.prog (zck (zf7 Qw)) :=
 okC (A := ⟨[zaq ZP, zck Qw], [], [], 0, [(7, ⟨[3, 4], ⟨[.int .i64, .int .i64], []⟩, [1, 2], [0], [], 0, [3], ⟨[.int .i64], []⟩, []⟩)], [(13, ⟨[3, 6], ⟨[.int .i64, .int .i64], []⟩, [4], [], [], 0, [], ⟨[], []⟩, []⟩)], []⟩) (exS := ⟨[.int .i64], []⟩) Tryz.f133 (memC zeO (memC hs zC)) (by kernel_rfl) (by kernel_rfl) fun x => by kernel_rfl
theorem zlI : zg Tryz.prog (zck Qw) :=
 zg.recE (I := I) (P := Tryz.prog) (f := 133) (inS := ⟨[.val 32], []⟩) (cst := []) (outS := ⟨[.int .i64], []⟩) (k := 0) (zf7) (by kernel_rfl) (fun S h => zuu S h)
theorem zl4 (ZB : zk → Option Bool) (hs : zg Tryz.prog (QY ZB)) : zg Tryz.prog (QY (zbz ZB)) :=
 okC (A := ⟨[zhk zbm, zbS Z4, QY ZB], [], [], 0, [(13, ⟨[3], ⟨[.int .i64], []⟩, [], [], [], 1, [], ⟨[], []⟩, []⟩)], [(10, ⟨[55], ⟨[.bool], []⟩, [1], [0], [], 0, [], ⟨[], []⟩, []⟩)], []⟩) (exS := ⟨[.bool], []⟩) Tryz.f134 (memC zj0 (memC zcY (memC hs zC))) (by kernel_rfl) (by kernel_rfl) fun x => by kernel_rfl
theorem zlL : zg Tryz.prog (QY ZB) :=
 zg.recE (I := I) (P := Tryz.prog) (f := 134) (inS := ⟨[.val 32], []⟩) (cst := []) (outS := ⟨[.bool], []⟩) (k := 0) (zbz) (by kernel_rfl) (fun S h => zl4 S h)
theorem zkw : zg Tryz.prog (zfU zaO) :=
 okC (A := ⟨[zcm qg, zck Qw, QY ZB], [], [], 0, [], [], []⟩) (exS := ⟨[.bool], []⟩) Tryz.f76 (memC zlK (memC zlI (memC zlL zC))) (by kernel_rfl) (by kernel_rfl) fun x => by kernel_rfl
theorem zp6 : zg Tryz.prog (zjM zbr) :=
 okC (A := ⟨[zeD QS], [], [], 0, [(4, ⟨[3], ⟨[.int .i64], []⟩, [0], [], [], 0, [], ⟨[], []⟩, []⟩)], [], []⟩) (exS := ⟨[.bool], []⟩) Tryz.f115 (memC zgs zC) (by kernel_rfl) (by kernel_rfl) fun x => by kernel_rfl
theorem zqH (Qd : zu → Option Bool) (hs : zg Tryz.prog (zbT Qd)) : zg Tryz.prog (zbT (zdR Qd)) :=
 okC (A := ⟨[zkW zfE, znp zdy, zhk zbm, zjK zeh, zfU zaO, zjM zbr, zbT Qd], [], [], 0, [(8, ⟨[4], ⟨[.int .i64], []⟩, [1], [], [], 1, [], ⟨[], []⟩, []⟩), (26, ⟨[5], ⟨[.int .i64], []⟩, [], [], [], 3, [], ⟨[], []⟩, []⟩), (31, ⟨[6], ⟨[.int .i64], []⟩, [], [], [], 5, [], ⟨[], []⟩, []⟩)], [(25, ⟨[], ⟨[], []⟩, [1], [0], [], 0, [], ⟨[], []⟩, []⟩)], []⟩) (exS := ⟨[.bool], []⟩) Tryz.f57 (memC zru (memC zt1 (memC zj0 (memC zp4 (memC zkw (memC zp6 (memC hs zC))))))) (by kernel_rfl) (by kernel_rfl) fun x => by kernel_rfl
theorem zp7 : zg Tryz.prog (zbT Qd) :=
 zg.recE (I := I) (P := Tryz.prog) (f := 57) (inS := ⟨[.val 35], []⟩) (cst := []) (outS := ⟨[.bool], []⟩) (k := 0) (zdR) (by kernel_rfl) (fun S h => zqH S h)
theorem zrv : zg Tryz.prog (zkX zhN) :=
 okC (A := ⟨[], [], [], 0, [], [], []⟩) (exS := ⟨[.bool], []⟩) Tryz.f165 zC (by kernel_rfl) (by kernel_rfl) fun x => by kernel_rfl
theorem zmY (Z9 : List zb → Option Int) (hs : zg Tryz.prog (zaI Z9)) : zg Tryz.prog (zaI (zb5 Z9)) :=
 okC (A := ⟨[zkX zhN, zaI Z9], [], [], 0, [(3, ⟨[3, 4], ⟨[.int .i64, .int .i64], []⟩, [0, 2], [], [], 0, [3], ⟨[.int .i64], []⟩, []⟩), (6, ⟨[3, 5], ⟨[.int .i64, .int .i64], []⟩, [4], [], [], 2, [3], ⟨[.int .i64], []⟩, []⟩), (10, ⟨[3, 7], ⟨[.int .i64, .int .i64], []⟩, [5, 6], [], [], 4, [3], ⟨[.int .i64], []⟩, []⟩)], [(11, ⟨[3, 7], ⟨[.int .i64, .int .i64], []⟩, [], [], [], 0, [], ⟨[], []⟩, []⟩)], []⟩) (exS := ⟨[.int .i64], []⟩) Tryz.f116 (memC zrv (memC hs zC)) (by kernel_rfl) (by kernel_rfl) fun x => by kernel_rfl
theorem zmN : zg Tryz.prog (zaI Z9) :=
 zg.recE (I := I) (P := Tryz.prog) (f := 116) (inS := ⟨[.sl 137], []⟩) (cst := []) (outS := ⟨[.int .i64], []⟩) (k := 0) (zb5) (by kernel_rfl) (fun S h => zmY S h)
theorem zju : zg Tryz.prog (zfc zah) :=
 okC (A := ⟨[zck Qw], [], [], 0, [(5, ⟨[3, 4], ⟨[.int .i64, .int .i64], []⟩, [1, 2], [0], [], 0, [3], ⟨[.int .i64], []⟩, []⟩), (11, ⟨[3, 6], ⟨[.int .i64, .int .i64], []⟩, [], [1], [], 2, [3], ⟨[.int .i64], []⟩, []⟩)], [(10, ⟨[3], ⟨[.int .i64], [(1, .row 32)]⟩, [4, 5], [], [1], 0, [], ⟨[], []⟩, []⟩), (12, ⟨[3, 6], ⟨[.int .i64, .int .i64], []⟩, [], [], [], 0, [], ⟨[], []⟩, []⟩)], []⟩) (exS := ⟨[.int .i64], []⟩) Tryz.f117 (memC zlI zC) (by kernel_rfl) (by kernel_rfl) fun x => by kernel_rfl
theorem zuy (za0 : List zu → Option Int) (hs : zg Tryz.prog (zd0 za0)) : zg Tryz.prog (zd0 (zf8 za0)) :=
 okC (A := ⟨[zd0 za0, zaq ZP, zaI Z9, zfc zah], [], [], 0, [(3, ⟨[3, 4], ⟨[.int .i64, .int .i64], []⟩, [0, 2], [], [], 0, [3], ⟨[.int .i64], []⟩, []⟩), (8, ⟨[5, 6], ⟨[.int .i64, .int .i64], []⟩, [3, 4], [], [], 2, [5], ⟨[.int .i64], []⟩, []⟩)], [(4, ⟨[3, 4], ⟨[.int .i64, .int .i64], []⟩, [], [], [], 0, [], ⟨[], []⟩, []⟩)], []⟩) (exS := ⟨[.int .i64], []⟩) Tryz.f58 (memC hs (memC zeO (memC zmN (memC zju zC)))) (by kernel_rfl) (by kernel_rfl) fun x => by kernel_rfl
theorem ztZ : zg Tryz.prog (zd0 za0) :=
 zg.recE (I := I) (P := Tryz.prog) (f := 58) (inS := ⟨[.sl 35], []⟩) (cst := []) (outS := ⟨[.int .i64], []⟩) (k := 0) (zf8) (by kernel_rfl) (fun S h => zuy S h)
theorem zrE : zg Tryz.prog (zk5 zfK) :=
 okC (A := ⟨[QM ZC, zbT Qd, zd0 za0], [], [], 0, [(4, ⟨[3], ⟨[.int .i64], []⟩, [0], [], [], 0, [], ⟨[], []⟩, []⟩)], [], []⟩) (exS := ⟨[.bool], []⟩) Tryz.f28 (memC zfu (memC zp7 (memC ztZ zC))) (by kernel_rfl) (by kernel_rfl) fun x => by kernel_rfl
theorem zgt : zg Tryz.prog (zeE zaD) :=
 okC (A := ⟨[zk5 zfK], [], [], 0, [], [], []⟩) (exS := ⟨[.int .i64], []⟩) Tryz.f10 (memC zrE zC) (by kernel_rfl) (by kernel_rfl) fun x => by kernel_rfl
theorem zlM : zg Tryz.prog (zgH zbq) :=
 okC (A := ⟨[zeE zaD], [(1, [1])], [], 0, [], [], []⟩) (exS := ⟨[.int .i64], []⟩) Tryz.f12 (memC zgt zC) (by kernel_rfl) (by kernel_rfl) fun x => by kernel_rfl
theorem zp9 : zg Tryz.prog (zjO zek) :=
 okC (A := ⟨[zeE zaD, zgH zbq, QM ZC], [(5, [4]), (9, [2])], [], 0, [], [], []⟩) (exS := ⟨[.optr 0, .int .i64], [(0, .row 24)]⟩) Tryz.f20 (memC zgt (memC zlM (memC zfu zC))) (by kernel_rfl) (by kernel_rfl) fun x => by kernel_rfl
theorem zqa : zg Tryz.prog (zjP zel) :=
 okC (A := ⟨[zhq zaF, zco Qh], [], [], 0, [], [], []⟩) (exS := ⟨[.optr 0, .int .i64], [(0, .row 24)]⟩) Tryz.f21 (memC zj6 (memC zlQ zC)) (by kernel_rfl) (by kernel_rfl) fun x => by kernel_rfl
theorem zp8 : zg Tryz.prog (zjN zej) :=
 okC (A := ⟨[zeE zaD], [], [], 0, [], [], []⟩) (exS := ⟨[.optr 0, .int .i64], [(0, .row 24)]⟩) Tryz.f22 (memC zgt zC) (by kernel_rfl) (by kernel_rfl) fun x => by kernel_rfl
theorem zjt (Ze : List zb × List zb → Option Bool) (h_ref08_Same : zg Tryz.prog (za9 Ze)) : zg Tryz.prog (zfb (zae Ze)) :=
 okC (A := ⟨[zgk zav, za9 Ze], [], [], 0, [(4, ⟨[5], ⟨[.int .i64], []⟩, [0, 1], [], [], 0, [], ⟨[], []⟩, []⟩)], [], []⟩) (exS := ⟨[.bool], []⟩) Tryz.f173 (memC ziM (memC h_ref08_Same zC)) (by kernel_rfl) (by kernel_rfl) fun x => by kernel_rfl
theorem zrx (Ze : List zb × List zb → Option Bool) (h_ref08_Same : zg Tryz.prog (za9 Ze)) : zg Tryz.prog (zkZ (zfG Ze)) :=
 okC (A := ⟨[zfb (zae Ze)], [], [], 0, [(4, ⟨[5], ⟨[.int .i64], []⟩, [2, 3], [0, 1], [], 0, [], ⟨[], []⟩, []⟩)], [], []⟩) (exS := ⟨[.bool], []⟩) Tryz.f142 (memC (zjt Ze h_ref08_Same) zC) (by kernel_rfl) (by kernel_rfl) fun x => by kernel_rfl
theorem zus (Ze : List zb × List zb → Option Bool) (hs : zg Tryz.prog (za9 Ze)) : zg Tryz.prog (za9 (zf6 Ze)) :=
 okC (A := ⟨[zkZ (zfG Ze)], [], [], 0, [(4, ⟨[5], ⟨[.int .i64], []⟩, [0, 1], [], [], 0, [], ⟨[], []⟩, []⟩)], [], []⟩) (exS := ⟨[.bool], []⟩) Tryz.f84 (memC (zrx Ze hs) zC) (by kernel_rfl) (by kernel_rfl) fun x => by kernel_rfl
theorem ztW : zg Tryz.prog (za9 Ze) :=
 zg.recE (I := I) (P := Tryz.prog) (f := 84) (inS := ⟨[.sl 137, .sl 137], []⟩) (cst := []) (outS := ⟨[.bool], []⟩) (k := 0) (zf6) (by kernel_rfl) (fun S h => zus S h)
theorem ztU : zg Tryz.prog (znn ze3) :=
 okC (A := ⟨[zhm QR], [], [], 0, [(4, ⟨[5], ⟨[.int .i64], []⟩, [0, 1], [], [], 0, [], ⟨[], []⟩, []⟩)], [], []⟩) (exS := ⟨[.bool], []⟩) Tryz.f85 (memC zj2 zC) (by kernel_rfl) (by kernel_rfl) fun x => by kernel_rfl
theorem zlN : zg Tryz.prog (zgI zai) :=
 okC (A := ⟨[], [], [], 0, [(4, ⟨[5], ⟨[.int .i64], []⟩, [0, 1], [], [], 0, [], ⟨[], []⟩, []⟩), (9, ⟨[6], ⟨[.int .i64], []⟩, [5], [], [], 2, [], ⟨[], []⟩, []⟩)], [], []⟩) (exS := ⟨[.bool], []⟩) Tryz.f86 zC (by kernel_rfl) (by kernel_rfl) fun x => by kernel_rfl
theorem zrD (ZQ : List zu × List zu → Option Bool) (h_ref11_Same : zg Tryz.prog (zcn ZQ)) : zg Tryz.prog (zk4 (zfJ ZQ)) :=
 okC (A := ⟨[za9 Ze, znn ze3, zcl qF, zgI zai, zcn ZQ], [], [], 0, [], [], []⟩) (exS := ⟨[.bool], []⟩) Tryz.f42 (memC ztW (memC ztU (memC zlJ (memC zlN (memC h_ref11_Same zC))))) (by kernel_rfl) (by kernel_rfl) fun x => by kernel_rfl
theorem zuz (ZQ : List zu × List zu → Option Bool) (hs : zg Tryz.prog (zcn ZQ)) : zg Tryz.prog (zcn (zf9 ZQ)) :=
 okC (A := ⟨[zk4 (zfJ ZQ)], [], [], 0, [(4, ⟨[5], ⟨[.int .i64], []⟩, [0, 1], [], [], 0, [], ⟨[], []⟩, []⟩)], [], []⟩) (exS := ⟨[.bool], []⟩) Tryz.f23 (memC (zrD ZQ hs) zC) (by kernel_rfl) (by kernel_rfl) fun x => by kernel_rfl
theorem zt0 : zg Tryz.prog (zcn ZQ) :=
 zg.recE (I := I) (P := Tryz.prog) (f := 23) (inS := ⟨[.sl 35, .sl 35], []⟩) (cst := []) (outS := ⟨[.bool], []⟩) (k := 0) (zf9) (by kernel_rfl) (fun S h => zuz S h)
theorem zkv : zg Tryz.prog (zfS zb1) :=
 okC (A := ⟨[zk3 zdx, zjQ zem, zjO zek, zjP zel, zjN zej, zcn ZQ], [(1, [1])], [], 0, [], [], []⟩) (exS := ⟨[.bool], []⟩) Tryz.f5 (memC zrC (memC zqb (memC zp9 (memC zqa (memC zp8 (memC zt0 zC)))))) (by kernel_rfl) (by kernel_rfl) fun x => by kernel_rfl
end Go.Lv.VT
