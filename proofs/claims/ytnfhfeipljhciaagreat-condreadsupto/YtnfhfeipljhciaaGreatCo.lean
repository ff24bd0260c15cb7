/- DERIVED: LAID BY THE SHELF's contract.sh OFF ITS TEMPLATE 'internal/stringslite.IndexByte' FOR THE PROGRAM 'Tryz' (the function's number there: 144). THE LIBRARY's OWN TEXT IS WALKED: nothing is assumed of it; where it calls a function without a Go body (internal/bytealg), THE MODEL's OWN ENTRY stands in, by its law (Derived/Lib/Bytealg.lean). Behind the contract: ONE FALSE NEIGHBOUR, a contract that says a little too much, REFUTED. (The template: the authors, an AI agent; Sun.) -/
import Derived.Test.YtnfhfeipljhciaaGreatChecked
import Derived.Lib.Strings
import Derived.Lib.Slices
import Derived.Lib.Walk
import Derived.Lib.Bytealg
import Derived.Test.YtnfhfeipljhciaaGreatTx
import Derived.Test.YtnfhfeipljhciaaGreatIp
import Derived.Test.YtnfhfeipljhciaaGreatLf
namespace Go.Proofs
set_option maxHeartbeats 1000000 in
set_option maxRecDepth 100000 in
theorem Tryz.stringslite_IndexByte (s : ByteArray) (c : Int) (w : World) :
    Calls Tryz.prog 144 #[.string s, .int .u8 c] w fun e w' => e = .returned (.int .i64 (Lib.indexByte s.data.toList c.toNat.toUInt8)) ∧ w' = w := by
  go_enter Tryz.func144, Tryz.ntmps144
  go_wp2
  rw [run_callFunc_extern Tryz.func174 (by kernel_rfl) (by kernel_rfl) (by kernel_rfl) (e := Extern.BytealgIndexByte.indexByte) (by kernel_rfl), Lib.run_indexByteString]
  simp only [Result.andThen]
  rw [Oper.upon_value]
  go_wp2
  go_ret
  exact ⟨rfl, rfl⟩

#print axioms Tryz.stringslite_IndexByte
end Go.Proofs

namespace Go.Proofs
set_option maxHeartbeats 2000000 in
set_option maxRecDepth 100000 in
theorem Tryz.stringslite_Index_one (s : ByteArray) (c : UInt8) (w : World) :
    Calls Tryz.prog 209 #[.string s, .string ⟨#[c]⟩] w fun e w' => e = .returned (.int .i64 (Lib.indexByte s.data.toList c)) ∧ w' = w := by
  go_enter Tryz.func209, Tryz.ntmps209
  go_wp2_with (go_at_call 144; refine (Tryz.stringslite_IndexByte _ _ _).mono ?_; rintro e w' ⟨rfl, rfl⟩)
  · have h : ([c] == s.toList) = true := by assumption
    go_ret
    refine ⟨?_, rfl⟩
    have e : s.data.toList = [c] := by rw [← Lib.toList_data]; exact (beq_iff_eq.1 h).symm
    rw [e]
    simp [Lib.indexByte]
  · go_ret
    exact ⟨rfl, rfl⟩

theorem Tryz.stringslite_Index_one_not : ¬ ∀ (s : ByteArray) (c : UInt8) (w : World),
    Calls Tryz.prog 209 #[.string s, .string ⟨#[c]⟩] w fun e w' => e = .returned (.int .i64 ((s.size : Int) - 1 - Lib.indexByte s.data.toList.reverse c)) ∧ w' = w := by
  intro h
  have e := Lib.agree (by kernel_rfl) (Tryz.stringslite_Index_one ⟨#[97, 97]⟩ 97 default) (h ⟨#[97, 97]⟩ 97 default)
  injection e with _ e
  revert e
  decide

#print axioms Tryz.stringslite_Index_one
#print axioms Tryz.stringslite_Index_one_not
end Go.Proofs

namespace Go.Lv.VT
set_option maxRecDepth 100000
open Go.Proofs
theorem okC {con : Con I} {A : Env0 I} {exS : StSh} (f : Go.Func) (hS : ∀ c ∈ A.S, ConOK Tryz.prog c) (hf : Tryz.prog.funcs[con.f]? = some f) (h : chk con A f = true) (he : ∀ x, evF2 A T FK f.ntmps (rsl f) (body f) con exS x = con.F x) : ConOK Tryz.prog con :=
  okC0 mixed ipOK tok rfl rfl hS hf h he
noncomputable def c_ref04_Size (F : List VValue × Int → Option Int) : Con I := ⟨29, ⟨[.sl 99, .int .i64], []⟩, [], ⟨[.int .i64], []⟩, 0, F⟩
noncomputable def c_ref04_Closer (F : Int → Option Int) : Con I := ⟨59, ⟨[.int .u8], []⟩, [], ⟨[.int .u8], []⟩, 0, F⟩
noncomputable def c_ref04_Deep (F : List VValue → Option Int) : Con I := ⟨30, ⟨[.sl 99], []⟩, [], ⟨[.int .i64], []⟩, 0, F⟩
noncomputable def c_ref04_Great (F : List VValue → Option Bool) : Con I := ⟨13, ⟨[.sl 99], []⟩, [], ⟨[.bool], []⟩, 0, F⟩
noncomputable def c_nest_closer (F : Int → Option Int) : Con I := ⟨129, ⟨[.int .u8], []⟩, [], ⟨[.int .u8], []⟩, 0, F⟩
noncomputable def c_nest_look (F : List VValue × Int → Option Vnest_found) : Con I := ⟨72, ⟨[.sl 99, .int .u8], []⟩, [], ⟨[.val 113], []⟩, 0, F⟩
noncomputable def c_nest_Check (F : List VValue → Option Int) : Con I := ⟨36, ⟨[.sl 99], []⟩, [], ⟨[.int .i64], []⟩, 0, F⟩
noncomputable def c_slices_Clone_Value (F : List VValue → Option (List VValue)) : Con I := ⟨118, ⟨[.sl 99], []⟩, [], ⟨[.own 0], [(0, .sl 99)]⟩, 1, F⟩
noncomputable def c_nest_twin (F : List VValue → Option (List VValue)) : Con I := ⟨60, ⟨[.sl 99], []⟩, [], ⟨[.sl 99], []⟩, 0, F⟩
noncomputable def c_nest_Split (F : List VValue × Int → Option (List (List VValue) × Int)) : Con I := ⟨31, ⟨[.sl 99, .int .u8], []⟩, [], ⟨[.sl 27, .int .i64], []⟩, 0, F⟩
noncomputable def c_cond_reader_kind (F : Vcond_reader → Option Int) : Con I := ⟨61, ⟨[.optr 0], [(0, .row 74)]⟩, [0], ⟨[.int .u8], []⟩, 0, F⟩
noncomputable def c_cond_reader_next (F : Vcond_reader → Option (VValue × Vcond_reader)) : Con I := ⟨62, ⟨[.optr 0], [(0, .row 74)]⟩, [], ⟨[.val 99], [(0, .row 74)]⟩, 0, F⟩
noncomputable def c_cond_reader_spaces (F : Vcond_reader → Option (Bool × Vcond_reader)) : Con I := ⟨32, ⟨[.optr 0], [(0, .row 74)]⟩, [], ⟨[.bool], [(0, .row 74)]⟩, 0, F⟩
noncomputable def c_input_Lower (F : Str → Option Str) : Con I := ⟨64, ⟨[.str], []⟩, [], ⟨[.str], []⟩, 0, F⟩
noncomputable def c_input_Alike (F : Str × Str → Option Bool) : Con I := ⟨119, ⟨[.str, .str], []⟩, [], ⟨[.bool], []⟩, 0, F⟩
noncomputable def c_cond_reader_word (F : List Str × Vcond_reader → Option (Str × Vcond_reader)) : Con I := ⟨63, ⟨[.optr 0, .sl 9], [(0, .row 74)]⟩, [], ⟨[.str], [(0, .row 74)]⟩, 0, F⟩
noncomputable def c_slices_Index_string (F : List Str × Str → Option Int) : Con I := ⟨166, ⟨[.sl 9, .str], []⟩, [], ⟨[.int .i64], []⟩, 0, F⟩
noncomputable def c_slices_Contains_string (F : List Str × Str → Option Bool) : Con I := ⟨120, ⟨[.sl 9, .str], []⟩, [], ⟨[.bool], []⟩, 0, F⟩
noncomputable def c_strings_IndexByte (F : Str × Int → Option Int) : Con I := ⟨93, ⟨[.str, .int .u8], []⟩, [], ⟨[.int .i64], []⟩, 0, F⟩
noncomputable def c_cond_medium (F : Str → Option Bool) : Con I := ⟨65, ⟨[.str], []⟩, [], ⟨[.bool], []⟩, 0, F⟩
noncomputable def c_fixed_check (F : List Int → Option Int) : Con I := ⟨167, ⟨[.sl 2], []⟩, [], ⟨[.int .i64], []⟩, 0, F⟩
noncomputable def c_fixed_Check (F : Int → Option Int) : Con I := ⟨121, ⟨[.int .i64], []⟩, [], ⟨[.int .i64], []⟩, 0, F⟩
noncomputable def c_cond_reader_feature (F : Vcond_reader → Option ((VCond × Bool) × Vcond_reader)) : Con I := ⟨66, ⟨[.optr 0], [(0, .row 74)]⟩, [], ⟨[.val 32, .bool], [(0, .row 74)]⟩, 0, F⟩
noncomputable def c_cond_reader_query (F : Vcond_reader → Option ((VCond × Bool) × Vcond_reader)) : Con I := ⟨33, ⟨[.optr 0], [(0, .row 74)]⟩, [], ⟨[.val 32, .bool], [(0, .row 74)]⟩, 0, F⟩
noncomputable def c_cond_Media (F : List VValue → Option (VCond × Int)) : Con I := ⟨14, ⟨[.sl 99], []⟩, [], ⟨[.val 32, .int .i64], []⟩, 0, F⟩
noncomputable def c_ref04_Tokens (F : List VValue → Option (List VToken)) : Con I := ⟨67, ⟨[.sl 99], []⟩, [], ⟨[.sl 97], []⟩, 0, F⟩
noncomputable def c_ref04_shaped (F : List VValue × Int → Option Bool) : Con I := ⟨68, ⟨[.sl 99, .int .u8], []⟩, [], ⟨[.bool], []⟩, 0, F⟩
noncomputable def c_ref04_Check (F : List VValue → Option Int) : Con I := ⟨34, ⟨[.sl 99], []⟩, [], ⟨[.int .i64], []⟩, 0, F⟩
noncomputable def c_ref04_Trimmed (F : List VValue → Option (List VValue)) : Con I := ⟨69, ⟨[.sl 99], []⟩, [], ⟨[.sl 99], []⟩, 0, F⟩
noncomputable def c_ref04_Parts (F : List VValue × Int → Option (List (List VValue))) : Con I := ⟨70, ⟨[.sl 99, .int .u8], []⟩, [], ⟨[.sl 27], []⟩, 0, F⟩
noncomputable def c_ref01_Small (F : Int → Option Int) : Con I := ⟨169, ⟨[.int .u8], []⟩, [], ⟨[.int .u8], []⟩, 0, F⟩
noncomputable def c_ref01_Lower (F : Str → Option Str) : Con I := ⟨126, ⟨[.str], []⟩, [], ⟨[.str], []⟩, 0, F⟩
noncomputable def c_ref01_Alike (F : Str × Str → Option Bool) : Con I := ⟨168, ⟨[.str, .str], []⟩, [], ⟨[.bool], []⟩, 0, F⟩
noncomputable def c_ref10_word (F : List VValue × Int × Str → Option Bool) : Con I := ⟨122, ⟨[.sl 99, .int .i64, .str], []⟩, [], ⟨[.bool], []⟩, 0, F⟩
noncomputable def c_ref10_kind (F : List VValue × Int × Int → Option Bool) : Con I := ⟨124, ⟨[.sl 99, .int .i64, .int .u8], []⟩, [], ⟨[.bool], []⟩, 0, F⟩
noncomputable def c_ref10_spaces (F : List VValue × Int → Option Int) : Con I := ⟨123, ⟨[.sl 99, .int .i64], []⟩, [], ⟨[.int .i64], []⟩, 0, F⟩
noncomputable def c_ref10_never (F : Unit → Option VCond) : Con I := ⟨125, ⟨[], []⟩, [], ⟨[.val 32], []⟩, 0, F⟩
noncomputable def c_ref10_medium (F : Str → Option Bool) : Con I := ⟨127, ⟨[.str], []⟩, [], ⟨[.bool], []⟩, 0, F⟩
noncomputable def c_ref06_Is (F : Int → Option Bool) : Con I := ⟨170, ⟨[.int .i64], []⟩, [], ⟨[.bool], []⟩, 0, F⟩
noncomputable def c_ref10_feature (F : List VValue × Int → Option (VCond × Bool)) : Con I := ⟨128, ⟨[.sl 99, .int .i64], []⟩, [], ⟨[.val 32, .bool], []⟩, 0, F⟩
noncomputable def c_ref10_asked (F : List VValue → Option VCond) : Con I := ⟨71, ⟨[.sl 99], []⟩, [], ⟨[.val 32], []⟩, 0, F⟩
noncomputable def c_ref10_Asked (F : List VValue → Option (VCond × Bool)) : Con I := ⟨35, ⟨[.sl 99], []⟩, [], ⟨[.val 32, .bool], []⟩, 0, F⟩
noncomputable def c_ref10_Media (F : List VValue → Option (VCond × Int)) : Con I := ⟨15, ⟨[.sl 99], []⟩, [], ⟨[.val 32, .int .i64], []⟩, 0, F⟩
noncomputable def c_decl_is (F : VValue × Int → Option Bool) : Con I := ⟨104, ⟨[.val 99, .int .u8], []⟩, [], ⟨[.bool], []⟩, 0, F⟩
noncomputable def c_decl_left (F : List VValue → Option (List VValue)) : Con I := ⟨190, ⟨[.sl 99], []⟩, [], ⟨[.sl 99], []⟩, 0, F⟩
noncomputable def c_decl_right (F : List VValue → Option (List VValue)) : Con I := ⟨189, ⟨[.sl 99], []⟩, [], ⟨[.sl 99], []⟩, 0, F⟩
noncomputable def c_stringslite_HasPrefix (F : Str × Str → Option Bool) : Con I := ⟨154, ⟨[.str, .str], []⟩, [], ⟨[.bool], []⟩, 0, F⟩
noncomputable def c_strings_HasPrefix (F : Str × Str → Option Bool) : Con I := ⟨106, ⟨[.str, .str], []⟩, [], ⟨[.bool], []⟩, 0, F⟩
noncomputable def c_decl_bang (F : VValue → Option Bool) : Con I := ⟨105, ⟨[.val 99], []⟩, [], ⟨[.bool], []⟩, 0, F⟩
noncomputable def c_nest_Trim_1 (F : Int × List VValue → Option Bool) : Con I := ⟨206, ⟨[.int .i64, .optr 0], [(0, .row 27)]⟩, [0], ⟨[.bool], []⟩, 0, F⟩
noncomputable def c_nest_Trim (F : List VValue → Option (List VValue × Int)) : Con I := ⟨191, ⟨[.sl 99], []⟩, [], ⟨[.sl 99, .int .i64], []⟩, 0, F⟩
noncomputable def c_nest_flat_3 (F : List VValue × List VToken → Option (List VToken)) : Con I := ⟨149, ⟨[.own 0, .sl 99], [(0, .sl 97)]⟩, [], ⟨[.own 1], [(1, .sl 97)]⟩, 1, F⟩
noncomputable def c_nest_flat_2 (F : List VValue → Option (List VToken)) : Con I := ⟨149, ⟨[.nilv, .sl 99], []⟩, [], ⟨[.own 0], [(0, .sl 97)]⟩, 1, F⟩
noncomputable def c_nest_Flat (F : List VValue → Option (List VToken × Int)) : Con I := ⟨98, ⟨[.sl 99], []⟩, [], ⟨[.sl 97, .int .i64], []⟩, 0, F⟩
noncomputable def c_decl_named (F : Str → Option Bool) : Con I := ⟨99, ⟨[.str], []⟩, [], ⟨[.bool], []⟩, 0, F⟩
noncomputable def c_stringslite_TrimPrefix (F : Str × Str → Option Str) : Con I := ⟨208, ⟨[.str, .str], []⟩, [], ⟨[.str], []⟩, 0, F⟩
noncomputable def c_strings_TrimPrefix (F : Str × Str → Option Str) : Con I := ⟨200, ⟨[.str, .str], []⟩, [], ⟨[.str], []⟩, 0, F⟩
noncomputable def c_glue_digit (F : Int → Option Bool) : Con I := ⟨201, ⟨[.int .u8], []⟩, [], ⟨[.bool], []⟩, 0, F⟩
noncomputable def c_glue_numeric (F : Str → Option Bool) : Con I := ⟨178, ⟨[.str], []⟩, [], ⟨[.bool], []⟩, 0, F⟩
noncomputable def c_glue_letter (F : Int → Option Bool) : Con I := ⟨202, ⟨[.int .u8], []⟩, [], ⟨[.bool], []⟩, 0, F⟩
noncomputable def c_glue_named (F : Int → Option Bool) : Con I := ⟨179, ⟨[.int .u8], []⟩, [], ⟨[.bool], []⟩, 0, F⟩
noncomputable def c_strings_Index (F : Str × Str → Option Int) : Con I := ⟨203, ⟨[.str, .str], []⟩, [], ⟨[.int .i64], []⟩, 0, F⟩
noncomputable def c_strings_Contains (F : Str × Str → Option Bool) : Con I := ⟨180, ⟨[.str, .str], []⟩, [], ⟨[.bool], []⟩, 0, F⟩
noncomputable def c_glue_fine (F : VToken → Option Bool) : Con I := ⟨150, ⟨[.val 97], []⟩, [], ⟨[.bool], []⟩, 0, F⟩
noncomputable def c_glue_piece_1 (F : (Int × Int) × List VToken → Option Bool) : Con I := ⟨181, ⟨[.int .i64, .int .u8, .optr 0], [(0, .row 107)]⟩, [0], ⟨[.bool], []⟩, 0, F⟩
noncomputable def c_glue_piece (F : List VToken → Option Int) : Con I := ⟨151, ⟨[.sl 97], []⟩, [], ⟨[.int .i64], []⟩, 0, F⟩
noncomputable def c_glue_Check (F : List VToken → Option Int) : Con I := ⟨100, ⟨[.sl 97], []⟩, [], ⟨[.int .i64], []⟩, 0, F⟩
noncomputable def c_decl_closers_1 (F : VValue → Option Bool) : Con I := ⟨152, ⟨[.val 99], []⟩, [], ⟨[.bool], []⟩, 0, F⟩
noncomputable def c_slices_IndexFunc_Value (F : List VValue → Option Int) : Con I := ⟨153, ⟨[.sl 99, .clo 152 []], []⟩, [], ⟨[.int .i64], []⟩, 0, F⟩
noncomputable def c_slices_ContainsFunc_Value (F : List VValue → Option Bool) : Con I := ⟨102, ⟨[.sl 99, .clo 152 []], []⟩, [], ⟨[.bool], []⟩, 0, F⟩
noncomputable def c_decl_closers (F : List VValue → Option Bool) : Con I := ⟨101, ⟨[.sl 99], []⟩, [], ⟨[.bool], []⟩, 0, F⟩
noncomputable def c_decl_Check_1 (F : VValue → Option Bool) : Con I := ⟨103, ⟨[.val 99], []⟩, [], ⟨[.bool], []⟩, 0, F⟩
noncomputable def c_slices_IndexFunc_Value_2 (F : List VValue → Option Int) : Con I := ⟨153, ⟨[.sl 99, .clo 103 []], []⟩, [], ⟨[.int .i64], []⟩, 0, F⟩
noncomputable def c_slices_ContainsFunc_Value_2 (F : List VValue → Option Bool) : Con I := ⟨102, ⟨[.sl 99, .clo 103 []], []⟩, [], ⟨[.bool], []⟩, 0, F⟩
noncomputable def c_decl_Check (F : VDecl → Option Int) : Con I := ⟨53, ⟨[.val 29], []⟩, [], ⟨[.int .i64], []⟩, 0, F⟩
noncomputable def c_decl_one (F : List VValue → Option (VDecl × Bool)) : Con I := ⟨171, ⟨[.sl 99], []⟩, [], ⟨[.val 29, .bool], []⟩, 0, F⟩
noncomputable def c_decl_One (F : List VValue → Option (VDecl × Bool × Int)) : Con I := ⟨130, ⟨[.sl 99], []⟩, [], ⟨[.val 29, .bool, .int .i64], []⟩, 0, F⟩
noncomputable def c_cond_reader_term (F : Vcond_reader → Option ((VCond × Bool) × Vcond_reader)) : Con I := ⟨73, ⟨[.optr 0], [(0, .row 74)]⟩, [], ⟨[.val 32, .bool], [(0, .row 74)]⟩, 0, F⟩
noncomputable def c_cond_reader_told (F : Vcond_reader → Option ((VCond × Bool) × Vcond_reader)) : Con I := ⟨37, ⟨[.optr 0], [(0, .row 74)]⟩, [], ⟨[.val 32, .bool], [(0, .row 74)]⟩, 0, F⟩
noncomputable def c_nest_Depth (F : List VValue → Option (Int × Int)) : Con I := ⟨52, ⟨[.sl 99], []⟩, [], ⟨[.int .i64, .int .i64], []⟩, 0, F⟩
noncomputable def c_cond_bare (F : VCond → Option Bool) : Con I := ⟨110, ⟨[.val 32], []⟩, [], ⟨[.bool], []⟩, 0, F⟩
noncomputable def c_cond_leaf (F : VCond → Option Bool) : Con I := ⟨131, ⟨[.val 32], []⟩, [], ⟨[.bool], []⟩, 0, F⟩
noncomputable def c_cond_look (F : VCond × Int → Option ((Int × Bool) × Int)) : Con I := ⟨74, ⟨[.val 32, .optr 0], [(0, .row 3)]⟩, [], ⟨[.int .i64, .bool], [(0, .row 3)]⟩, 0, F⟩
noncomputable def c_cond_CheckSupports (F : VCond → Option Int) : Con I := ⟨38, ⟨[.val 32], []⟩, [], ⟨[.int .i64], []⟩, 0, F⟩
noncomputable def c_cond_Supports (F : List VValue → Option (VCond × Int)) : Con I := ⟨16, ⟨[.sl 99], []⟩, [], ⟨[.val 32, .int .i64], []⟩, 0, F⟩
noncomputable def c_ref05_marked (F : List VValue → Option (List VValue × Bool)) : Con I := ⟨192, ⟨[.sl 99], []⟩, [], ⟨[.sl 99, .bool], []⟩, 0, F⟩
noncomputable def c_ref05_Named (F : Str → Option Bool) : Con I := ⟨160, ⟨[.str], []⟩, [], ⟨[.bool], []⟩, 0, F⟩
noncomputable def c_ref03_whole (F : Str → Option Bool) : Con I := ⟨212, ⟨[.str], []⟩, [], ⟨[.bool], []⟩, 0, F⟩
noncomputable def c_ref02_Digit (F : Int → Option Bool) : Con I := ⟨220, ⟨[.int .u8], []⟩, [], ⟨[.bool], []⟩, 0, F⟩
noncomputable def c_ref03_Bare (F : Str → Option Bool) : Con I := ⟨213, ⟨[.str], []⟩, [], ⟨[.bool], []⟩, 0, F⟩
noncomputable def c_ref02_Space (F : Int → Option Bool) : Con I := ⟨224, ⟨[.int .u8], []⟩, [], ⟨[.bool], []⟩, 0, F⟩
noncomputable def c_ref02_At (F : Str × Int → Option Int) : Con I := ⟨236, ⟨[.str, .int .i64], []⟩, [], ⟨[.int .u8], []⟩, 0, F⟩
noncomputable def c_ref02_spaces (F : Str × Int → Option Int) : Con I := ⟨225, ⟨[.str, .int .i64], []⟩, [], ⟨[.int .i64], []⟩, 0, F⟩
noncomputable def c_ref02_lost (F : Unit → Option Str) : Con I := ⟨242, ⟨[], []⟩, [], ⟨[.str], []⟩, 0, F⟩
noncomputable def c_ref02_Hex (F : Int → Option Int) : Con I := ⟨243, ⟨[.int .u8], []⟩, [], ⟨[.int .i64], []⟩, 0, F⟩
noncomputable def c_ref02_UTF8 (F : Int → Option Str) : Con I := ⟨244, ⟨[.int .i64], []⟩, [], ⟨[.str], []⟩, 0, F⟩
noncomputable def c_ref02_Escaped (F : Str × Int → Option (Str × Int)) : Con I := ⟨237, ⟨[.str, .int .i64], []⟩, [], ⟨[.str, .int .i64], []⟩, 0, F⟩
noncomputable def c_ref02_quoted (F : Str × Int → Option (VToken × Int)) : Con I := ⟨226, ⟨[.str, .int .i64], []⟩, [], ⟨[.val 97, .int .i64], []⟩, 0, F⟩
noncomputable def c_ref02_Starts (F : Int → Option Bool) : Con I := ⟨238, ⟨[.int .u8], []⟩, [], ⟨[.bool], []⟩, 0, F⟩
noncomputable def c_ref02_Letter (F : Int → Option Bool) : Con I := ⟨227, ⟨[.int .u8], []⟩, [], ⟨[.bool], []⟩, 0, F⟩
noncomputable def c_ref02_Escape (F : Str × Int → Option Bool) : Con I := ⟨228, ⟨[.str, .int .i64], []⟩, [], ⟨[.bool], []⟩, 0, F⟩
noncomputable def c_ref02_Named (F : Str × Int → Option (Str × Int)) : Con I := ⟨229, ⟨[.str, .int .i64], []⟩, [], ⟨[.str, .int .i64], []⟩, 0, F⟩
noncomputable def c_ref02_NameAt (F : Str × Int → Option Bool) : Con I := ⟨230, ⟨[.str, .int .i64], []⟩, [], ⟨[.bool], []⟩, 0, F⟩
noncomputable def c_ref02_NumberAt (F : Str × Int → Option Bool) : Con I := ⟨231, ⟨[.str, .int .i64], []⟩, [], ⟨[.bool], []⟩, 0, F⟩
noncomputable def c_ref02_digits (F : Str × Int → Option Int) : Con I := ⟨245, ⟨[.str, .int .i64], []⟩, [], ⟨[.int .i64], []⟩, 0, F⟩
noncomputable def c_ref02_NumberEnd (F : Str × Int → Option (Int × Bool)) : Con I := ⟨239, ⟨[.str, .int .i64], []⟩, [], ⟨[.int .i64, .bool], []⟩, 0, F⟩
noncomputable def c_ref02_Thousandths (F : Str → Option Int) : Con I := ⟨240, ⟨[.str], []⟩, [], ⟨[.int .i64], []⟩, 0, F⟩
noncomputable def c_ref02_numeric (F : Str × Int → Option (VToken × Int)) : Con I := ⟨232, ⟨[.str, .int .i64], []⟩, [], ⟨[.val 97, .int .i64], []⟩, 0, F⟩
noncomputable def c_ref02_has (F : Str × Int × Str → Option Bool) : Con I := ⟨233, ⟨[.str, .int .i64, .str], []⟩, [], ⟨[.bool], []⟩, 0, F⟩
noncomputable def c_ref02_bad (F : Str × Int → Option (VToken × Int)) : Con I := ⟨246, ⟨[.str, .int .i64], []⟩, [], ⟨[.val 97, .int .i64], []⟩, 0, F⟩
noncomputable def c_ref02_Unprintable (F : Int → Option Bool) : Con I := ⟨247, ⟨[.int .u8], []⟩, [], ⟨[.bool], []⟩, 0, F⟩
noncomputable def c_ref02_url (F : Str × Int → Option (VToken × Int)) : Con I := ⟨241, ⟨[.str, .int .i64], []⟩, [], ⟨[.val 97, .int .i64], []⟩, 0, F⟩
noncomputable def c_ref02_word (F : Str × Int → Option (VToken × Int)) : Con I := ⟨234, ⟨[.str, .int .i64], []⟩, [], ⟨[.val 97, .int .i64], []⟩, 0, F⟩
noncomputable def c_ref02_mark (F : Int → Option Int) : Con I := ⟨235, ⟨[.int .u8], []⟩, [], ⟨[.int .u8], []⟩, 0, F⟩
noncomputable def c_ref02_One (F : Str × Int → Option (VToken × Int)) : Con I := ⟨221, ⟨[.str, .int .i64], []⟩, [], ⟨[.val 97, .int .i64], []⟩, 0, F⟩
noncomputable def c_ref03_Delim (F : Int → Option Bool) : Con I := ⟨214, ⟨[.int .u8], []⟩, [], ⟨[.bool], []⟩, 0, F⟩
noncomputable def c_ref03_Fine (F : VToken → Option Bool) : Con I := ⟨205, ⟨[.val 97], []⟩, [], ⟨[.bool], []⟩, 0, F⟩
noncomputable def c_ref03_Check (F : List VToken → Option Int) : Con I := ⟨183, ⟨[.sl 97], []⟩, [], ⟨[.int .i64], []⟩, 0, F⟩
noncomputable def c_ref05_closers (F : List VValue → Option Bool) : Con I := ⟨184, ⟨[.sl 99], []⟩, [], ⟨[.bool], []⟩, 0, F⟩
noncomputable def c_ref05_Custom (F : Str → Option Bool) : Con I := ⟨185, ⟨[.str], []⟩, [], ⟨[.bool], []⟩, 0, F⟩
noncomputable def c_ref05_Valued (F : Str × List VValue → Option Bool) : Con I := ⟨161, ⟨[.str, .sl 99], []⟩, [], ⟨[.bool], []⟩, 0, F⟩
noncomputable def c_ref05_Check (F : VDecl → Option Int) : Con I := ⟨113, ⟨[.val 29], []⟩, [], ⟨[.int .i64], []⟩, 0, F⟩
noncomputable def c_ref05_Read1 (F : List VValue → Option (VDecl × Bool)) : Con I := ⟨172, ⟨[.sl 99], []⟩, [], ⟨[.val 29, .bool], []⟩, 0, F⟩
noncomputable def c_ref10_term (F : List VValue × Int → Option (VCond × Bool)) : Con I := ⟨132, ⟨[.sl 99, .int .i64], []⟩, [], ⟨[.val 32, .bool], []⟩, 0, F⟩
noncomputable def c_ref10_told (F : List VValue → Option (VCond × Bool)) : Con I := ⟨75, ⟨[.sl 99], []⟩, [], ⟨[.val 32, .bool], []⟩, 0, F⟩
noncomputable def c_ref10_Size (F : VCond × Int → Option Int) : Con I := ⟨88, ⟨[.val 32, .int .i64], []⟩, [], ⟨[.int .i64], []⟩, 0, F⟩
noncomputable def c_ref10_Deep (F : VCond → Option Int) : Con I := ⟨133, ⟨[.val 32], []⟩, [], ⟨[.int .i64], []⟩, 0, F⟩
noncomputable def c_ref10_plain (F : VDecl → Option Bool) : Con I := ⟨186, ⟨[.val 29], []⟩, [], ⟨[.bool], []⟩, 0, F⟩
noncomputable def c_ref10_listed (F : VCond → Option Bool) : Con I := ⟨162, ⟨[.val 32], []⟩, [], ⟨[.bool], []⟩, 0, F⟩
noncomputable def c_ref10_supported (F : VCond → Option Bool) : Con I := ⟨134, ⟨[.val 32], []⟩, [], ⟨[.bool], []⟩, 0, F⟩
noncomputable def c_ref10_Supportive (F : VCond → Option Bool) : Con I := ⟨76, ⟨[.val 32], []⟩, [], ⟨[.bool], []⟩, 0, F⟩
noncomputable def c_ref10_Told (F : List VValue → Option (VCond × Bool)) : Con I := ⟨39, ⟨[.sl 99], []⟩, [], ⟨[.val 32, .bool], []⟩, 0, F⟩
noncomputable def c_ref10_Supports (F : List VValue → Option (VCond × Int)) : Con I := ⟨17, ⟨[.sl 99], []⟩, [], ⟨[.val 32, .int .i64], []⟩, 0, F⟩
noncomputable def c_ref04_Same (F : List VValue × List VValue → Option Bool) : Con I := ⟨77, ⟨[.sl 99, .sl 99], []⟩, [], ⟨[.bool], []⟩, 0, F⟩
noncomputable def c_ref05_Same1 (F : VDecl × VDecl → Option Bool) : Con I := ⟨40, ⟨[.val 29, .val 29], []⟩, [], ⟨[.bool], []⟩, 0, F⟩
noncomputable def c_ref10_Same (F : VCond × VCond → Option Bool) : Con I := ⟨18, ⟨[.val 32, .val 32], []⟩, [], ⟨[.bool], []⟩, 0, F⟩
noncomputable def c_law10_CondReads (F : List VValue → Option Bool) : Con I := ⟨4, ⟨[.sl 99], []⟩, [], ⟨[.bool], []⟩, 0, F⟩
noncomputable def c_index1 (F : Str × Str → Option Int) : Con I := ⟨209, ⟨[.str, .str], []⟩, [], ⟨[.int .i64], []⟩, 0, F⟩
theorem ok_index1 : ConOK Tryz.prog (c_index1 index1) := conOK_index1 (by kernel_rfl : Tryz.prog.funcs[209]? = some Tryz.f209) (by kernel_rfl) (by kernel_rfl) Tryz.stringslite_Index_one
noncomputable def c_idxByte (F : Str × Int → Option Int) : Con I := ⟨144, ⟨[.str, .int .u8], []⟩, [], ⟨[.int .i64], []⟩, 0, F⟩
theorem ok_idxByte : ConOK Tryz.prog (c_idxByte idxByte) := conOK_idx (by kernel_rfl : Tryz.prog.funcs[144]? = some Tryz.f144) (by kernel_rfl) (by kernel_rfl) Tryz.stringslite_IndexByte
theorem st_ref04_Size (ref04_Size : List VValue × Int → Option Int) (hs : ConOK Tryz.prog (c_ref04_Size ref04_Size)) : ConOK Tryz.prog (c_ref04_Size (ref04_Size_B ref04_Size)) :=
  okC (A := ⟨[c_ref04_Size ref04_Size], [], [], 0, [(3, ⟨[5, 6], ⟨[.int .i64, .int .i64], []⟩, [0, 1, 4], [], [], 0, [5], ⟨[.int .i64], []⟩, []⟩)], [], []⟩) (exS := ⟨[.int .i64], []⟩) Tryz.f29 (memC hs memN0) (by kernel_rfl) (by kernel_rfl) fun x => by kernel_rfl
theorem ok_ref04_Size : ConOK Tryz.prog (c_ref04_Size ref04_Size) :=
  ConOK.recE (I := I) (P := Tryz.prog) (f := 29) (inS := ⟨[.sl 99, .int .i64], []⟩) (cst := []) (outS := ⟨[.int .i64], []⟩) (k := 0) (ref04_Size_B) (by kernel_rfl) (fun S h => st_ref04_Size S h)
theorem ok_ref04_Closer : ConOK Tryz.prog (c_ref04_Closer ref04_Closer) :=
  okC (A := ⟨[], [], [], 0, [], [(6, ⟨[6], ⟨[.bool], []⟩, [3], [], [], 0, [], ⟨[], []⟩, []⟩)], []⟩) (exS := ⟨[.int .u8], []⟩) Tryz.f59 memN0 (by kernel_rfl) (by kernel_rfl) fun x => by kernel_rfl
theorem st_ref04_Deep (ref04_Deep : List VValue → Option Int) (hs : ConOK Tryz.prog (c_ref04_Deep ref04_Deep)) : ConOK Tryz.prog (c_ref04_Deep (ref04_Deep_B ref04_Deep)) :=
  okC (A := ⟨[c_ref04_Closer ref04_Closer, c_ref04_Deep ref04_Deep], [], [], 0, [(3, ⟨[3, 4], ⟨[.int .i64, .int .i64], []⟩, [0, 2], [], [], 0, [3], ⟨[.int .i64], []⟩, []⟩)], [(4, ⟨[3, 4], ⟨[.int .i64, .int .i64], []⟩, [], [], [], 0, [], ⟨[], []⟩, []⟩)], []⟩) (exS := ⟨[.int .i64], []⟩) Tryz.f30 (memC ok_ref04_Closer (memC hs memN0)) (by kernel_rfl) (by kernel_rfl) fun x => by kernel_rfl
theorem ok_ref04_Deep : ConOK Tryz.prog (c_ref04_Deep ref04_Deep) :=
  ConOK.recE (I := I) (P := Tryz.prog) (f := 30) (inS := ⟨[.sl 99], []⟩) (cst := []) (outS := ⟨[.int .i64], []⟩) (k := 0) (ref04_Deep_B) (by kernel_rfl) (fun S h => st_ref04_Deep S h)
theorem ok_ref04_Great : ConOK Tryz.prog (c_ref04_Great ref04_Great) :=
  okC (A := ⟨[c_ref04_Size ref04_Size, c_ref04_Deep ref04_Deep], [], [], 0, [], [], []⟩) (exS := ⟨[.bool], []⟩) Tryz.f13 (memC ok_ref04_Size (memC ok_ref04_Deep memN0)) (by kernel_rfl) (by kernel_rfl) fun x => by kernel_rfl
theorem ok_nest_closer : ConOK Tryz.prog (c_nest_closer nest_closer) :=
  okC (A := ⟨[], [], [], 0, [], [(7, ⟨[6], ⟨[.bool], []⟩, [0], [], [], 0, [], ⟨[], []⟩, []⟩)], []⟩) (exS := ⟨[.int .u8], []⟩) Tryz.f129 memN0 (by kernel_rfl) (by kernel_rfl) fun x => by kernel_rfl
theorem st_nest_look (nest_look : List VValue × Int → Option Vnest_found) (hs : ConOK Tryz.prog (c_nest_look nest_look)) : ConOK Tryz.prog (c_nest_look (nest_look_B nest_look)) :=
  okC (A := ⟨[c_nest_closer nest_closer, c_nest_look nest_look], [], [], 0, [(3, ⟨[12], ⟨[.int .i64], [(1, .row 113)]⟩, [1, 4, 5, 10, 11], [0], [1], 0, [], ⟨[], [(1, .row 113)]⟩, [1]⟩)], [(9, ⟨[], ⟨[], [(1, .row 113)]⟩, [7, 8, 12], [2], [1], 0, [], ⟨[], []⟩, []⟩), (12, ⟨[12], ⟨[.int .i64], [(1, .row 113)]⟩, [], [], [1], 0, [], ⟨[], []⟩, []⟩)], []⟩) (exS := ⟨[.optr 0], [(0, .row 113)]⟩) Tryz.f72 (memC ok_nest_closer (memC hs memN0)) (by kernel_rfl) (by kernel_rfl) fun x => by kernel_rfl
theorem ok_nest_look : ConOK Tryz.prog (c_nest_look nest_look) :=
  ConOK.recE (I := I) (P := Tryz.prog) (f := 72) (inS := ⟨[.sl 99, .int .u8], []⟩) (cst := []) (outS := ⟨[.val 113], []⟩) (k := 0) (nest_look_B) (by kernel_rfl) (fun S h => st_nest_look S h)
theorem ok_nest_Check : ConOK Tryz.prog (c_nest_Check nest_Check) :=
  okC (A := ⟨[c_nest_look nest_look], [], [], 0, [], [], []⟩) (exS := ⟨[.int .i64], []⟩) Tryz.f36 (memC ok_nest_look memN0) (by kernel_rfl) (by kernel_rfl) fun x => by kernel_rfl
theorem ok_slices_Clone_Value : ConOK Tryz.prog (c_slices_Clone_Value slices_Clone_Value) :=
  okC (A := ⟨[], [], [], 0, [], [], []⟩) (exS := ⟨[.own 0], [(0, .sl 99)]⟩) Tryz.f118 memN0 (by kernel_rfl) (by kernel_rfl) fun x => by kernel_rfl
theorem st_nest_twin (nest_twin : List VValue → Option (List VValue)) (hs : ConOK Tryz.prog (c_nest_twin nest_twin)) : ConOK Tryz.prog (c_nest_twin (nest_twin_B nest_twin)) :=
  okC (A := ⟨[c_slices_Clone_Value slices_Clone_Value, c_nest_twin nest_twin], [], [], 0, [(3, ⟨[8], ⟨[.int .i64], [(0, .sl 99)]⟩, [0, 2, 7], [], [0], 0, [], ⟨[], [(0, .sl 99)]⟩, [0]⟩)], [], []⟩) (exS := ⟨[.sl 99], []⟩) Tryz.f60 (memC ok_slices_Clone_Value (memC hs memN0)) (by kernel_rfl) (by kernel_rfl) fun x => by kernel_rfl
theorem ok_nest_twin : ConOK Tryz.prog (c_nest_twin nest_twin) :=
  ConOK.recE (I := I) (P := Tryz.prog) (f := 60) (inS := ⟨[.sl 99], []⟩) (cst := []) (outS := ⟨[.sl 99], []⟩) (k := 0) (nest_twin_B) (by kernel_rfl) (fun S h => st_nest_twin S h)
theorem ok_nest_Split : ConOK Tryz.prog (c_nest_Split nest_Split) :=
  okC (A := ⟨[c_nest_Check nest_Check, c_nest_twin nest_twin], [(12, [7]), (15, [5])], [], 0, [(9, ⟨[7, 8, 24], ⟨[.own 1002, .int .i64, .int .i64], [(1002, .sl 27)]⟩, [0, 1, 4, 5, 22, 23], [], [], 0, [7, 8], ⟨[.own 1002, .int .i64], [(1002, .sl 27)]⟩, [1002]⟩)], [(14, ⟨[7, 8, 24], ⟨[.own 1104, .int .i64, .int .i64], [(1104, .sl 27)]⟩, [], [], [], 0, [], ⟨[], []⟩, []⟩)], []⟩) (exS := ⟨[.sl 27, .int .i64], []⟩) Tryz.f31 (memC ok_nest_Check (memC ok_nest_twin memN0)) (by kernel_rfl) (by kernel_rfl) fun x => by kernel_rfl
theorem ok_cond_reader_kind : ConOK Tryz.prog (c_cond_reader_kind cond_reader_kind) :=
  okC (A := ⟨[], [], [], 1, [], [], []⟩) (exS := ⟨[.int .u8], []⟩) Tryz.f61 memN0 (by kernel_rfl) (by kernel_rfl) fun x => by kernel_rfl
theorem ok_cond_reader_next : ConOK Tryz.prog (c_cond_reader_next cond_reader_next) :=
  okC (A := ⟨[], [], [], 1, [], [], []⟩) (exS := ⟨[.optr 1], [(0, .row 74), (1, .row 99)]⟩) Tryz.f62 memN0 (by kernel_rfl) (by kernel_rfl) fun x => by kernel_rfl
theorem ok_cond_reader_spaces : ConOK Tryz.prog (c_cond_reader_spaces cond_reader_spaces) :=
  okC (A := ⟨[c_cond_reader_kind cond_reader_kind, c_cond_reader_next cond_reader_next], [], [], 1, [(2, ⟨[], ⟨[], [(0, .row 74)]⟩, [0, 2, 3], [], [0], 0, [], ⟨[], [(0, .row 74)]⟩, [0]⟩)], [], []⟩) (exS := ⟨[.bool], [(0, .row 74)]⟩) Tryz.f32 (memC ok_cond_reader_kind (memC ok_cond_reader_next memN0)) (by kernel_rfl) (by kernel_rfl) fun x => by kernel_rfl
theorem ok_input_Lower : ConOK Tryz.prog (c_input_Lower input_Lower) :=
  okC (A := ⟨[], [], [], 0, [(3, ⟨[10], ⟨[.int .i64], [(0, .sl 5)]⟩, [2, 3, 8, 9], [], [0], 0, [], ⟨[], [(0, .sl 5)]⟩, [0]⟩)], [(7, ⟨[10], ⟨[.int .i64], [(0, .sl 5)]⟩, [], [], [0], 0, [], ⟨[], []⟩, []⟩)], []⟩) (exS := ⟨[.str], []⟩) Tryz.f64 memN0 (by kernel_rfl) (by kernel_rfl) fun x => by kernel_rfl
theorem ok_input_Alike : ConOK Tryz.prog (c_input_Alike input_Alike) :=
  okC (A := ⟨[c_input_Lower input_Lower], [], [], 0, [], [], []⟩) (exS := ⟨[.bool], []⟩) Tryz.f119 (memC ok_input_Lower memN0) (by kernel_rfl) (by kernel_rfl) fun x => by kernel_rfl
theorem ok_cond_reader_word : ConOK Tryz.prog (c_cond_reader_word cond_reader_word) :=
  okC (A := ⟨[c_cond_reader_kind cond_reader_kind, c_input_Alike input_Alike, c_cond_reader_next cond_reader_next], [], [], 1, [(2, ⟨[9], ⟨[.int .i64], [(0, .row 74)]⟩, [0, 7, 8], [], [0], 0, [], ⟨[], [(0, .row 74)]⟩, [0]⟩)], [], []⟩) (exS := ⟨[.str], [(0, .row 74)]⟩) Tryz.f63 (memC ok_cond_reader_kind (memC ok_input_Alike (memC ok_cond_reader_next memN0))) (by kernel_rfl) (by kernel_rfl) fun x => by kernel_rfl
theorem ok_slices_Index_string : ConOK Tryz.prog (c_slices_Index_string slices_Index_string) :=
  okC (A := ⟨[], [], [], 0, [(2, ⟨[8], ⟨[.int .i64], []⟩, [0, 1, 7], [], [], 0, [], ⟨[], []⟩, []⟩)], [], []⟩) (exS := ⟨[.int .i64], []⟩) Tryz.f166 memN0 (by kernel_rfl) (by kernel_rfl) fun x => by kernel_rfl
theorem ok_slices_Contains_string : ConOK Tryz.prog (c_slices_Contains_string slices_Contains_string) :=
  okC (A := ⟨[c_slices_Index_string slices_Index_string], [], [], 0, [], [], []⟩) (exS := ⟨[.bool], []⟩) Tryz.f120 (memC ok_slices_Index_string memN0) (by kernel_rfl) (by kernel_rfl) fun x => by kernel_rfl
theorem ok_strings_IndexByte : ConOK Tryz.prog (c_strings_IndexByte strings_IndexByte) :=
  okC (A := ⟨[c_idxByte idxByte], [], [], 0, [], [], []⟩) (exS := ⟨[.int .i64], []⟩) Tryz.f93 (memC ok_idxByte memN0) (by kernel_rfl) (by kernel_rfl) fun x => by kernel_rfl
theorem ok_cond_medium : ConOK Tryz.prog (c_cond_medium cond_medium) :=
  okC (A := ⟨[c_slices_Contains_string slices_Contains_string, c_input_Lower input_Lower, c_strings_IndexByte strings_IndexByte], [(1, [0])], [], 0, [], [], []⟩) (exS := ⟨[.bool], []⟩) Tryz.f65 (memC ok_slices_Contains_string (memC ok_input_Lower (memC ok_strings_IndexByte memN0))) (by kernel_rfl) (by kernel_rfl) fun x => by kernel_rfl
theorem ok_fixed_check : ConOK Tryz.prog (c_fixed_check fixed_check) :=
  okC (A := ⟨[], [], [], 0, [(2, ⟨[7], ⟨[.int .i64], []⟩, [5, 6], [], [], 0, [], ⟨[], []⟩, []⟩)], [], []⟩) (exS := ⟨[.int .i64], []⟩) Tryz.f167 memN0 (by kernel_rfl) (by kernel_rfl) fun x => by kernel_rfl
theorem ok_fixed_Check : ConOK Tryz.prog (c_fixed_Check fixed_Check) :=
  okC (A := ⟨[c_fixed_check fixed_check], [(1, [1])], [], 0, [], [], []⟩) (exS := ⟨[.int .i64], []⟩) Tryz.f121 (memC ok_fixed_check memN0) (by kernel_rfl) (by kernel_rfl) fun x => by kernel_rfl
theorem ok_cond_reader_feature : ConOK Tryz.prog (c_cond_reader_feature cond_reader_feature) :=
  okC (A := ⟨[c_cond_reader_kind cond_reader_kind, c_cond_reader_next cond_reader_next, c_cond_reader_spaces cond_reader_spaces, c_cond_reader_word cond_reader_word, c_input_Alike input_Alike, c_fixed_Check fixed_Check], [(6, [1])], [], 1, [], [(11, ⟨[], ⟨[], [(1, .cells 32 [.int .u8, .str, .int .i64, .str, .nilv, .bool, .nilv]), (2, .row 74), (3, .cells 32 [.int .u8, .str, .int .i64, .str, .nilv, .bool, .nilv])]⟩, [2, 4, 5], [0], [1, 2, 3], 0, [], ⟨[], []⟩, []⟩)], []⟩) (exS := ⟨[.optr 1, .bool], [(0, .row 74), (1, .row 32)]⟩) Tryz.f66 (memC ok_cond_reader_kind (memC ok_cond_reader_next (memC ok_cond_reader_spaces (memC ok_cond_reader_word (memC ok_input_Alike (memC ok_fixed_Check memN0)))))) (by kernel_rfl) (by kernel_rfl) fun x => by kernel_rfl
theorem ok_cond_reader_query : ConOK Tryz.prog (c_cond_reader_query cond_reader_query) :=
  okC (A := ⟨[c_cond_reader_spaces cond_reader_spaces, c_cond_reader_word cond_reader_word, c_cond_reader_kind cond_reader_kind, c_cond_reader_next cond_reader_next, c_input_Lower input_Lower, c_cond_medium cond_medium, c_cond_reader_feature cond_reader_feature], [(3, [1]), (9, [4]), (13, [3]), (17, [1]), (23, [3]), (25, [1])], [(25, [(4, some 6)])], 1, [(15, ⟨[], ⟨[], [(0, .row 74), (1, .cells 32 [.int .u8, .str, .int .i64, .str, .nilv, .bool, .nilv]), (2, .cells 32 [.int .u8, .str, .int .i64, .str, .nilv, .bool, .own 1207]), (1207, .sl 32)]⟩, [], [], [0, 1, 2], 0, [], ⟨[], [(0, .row 74), (1, .cells 32 [.int .u8, .str, .int .i64, .str, .nilv, .bool, .nilv]), (2, .cells 32 [.int .u8, .str, .int .i64, .str, .nilv, .bool, .own 1207]), (1207, .sl 32)]⟩, [0, 1, 2, 1207]⟩)], [(14, ⟨[], ⟨[], [(0, .row 74), (1, .cells 32 [.int .u8, .str, .int .i64, .str, .nilv, .bool, .nilv]), (2, .cells 32 [.int .u8, .str, .int .i64, .str, .nilv, .bool, .own 1105]), (1105, .sl 32)]⟩, [0, 2, 4, 5], [], [0, 1, 2], 0, [], ⟨[], []⟩, []⟩)], []⟩) (exS := ⟨[.optr 1, .bool], [(0, .row 74), (1, .row 32)]⟩) Tryz.f33 (memC ok_cond_reader_spaces (memC ok_cond_reader_word (memC ok_cond_reader_kind (memC ok_cond_reader_next (memC ok_input_Lower (memC ok_cond_medium (memC ok_cond_reader_feature memN0))))))) (by kernel_rfl) (by kernel_rfl) fun x => by kernel_rfl
theorem ok_cond_Media : ConOK Tryz.prog (c_cond_Media cond_Media) :=
  okC (A := ⟨[c_nest_Split nest_Split, c_cond_reader_spaces cond_reader_spaces, c_cond_reader_query cond_reader_query], [(17, [1]), (18, [1]), (19, [3])], [], 0, [(13, ⟨[44], ⟨[.int .i64], [(1, .cells 32 [.int .u8, .str, .int .i64, .str, .nilv, .bool, .own 1208]), (1208, .sl 32)]⟩, [7, 42, 43], [0], [1], 0, [], ⟨[], [(1, .cells 32 [.int .u8, .str, .int .i64, .str, .nilv, .bool, .own 1208]), (1208, .sl 32)]⟩, [1, 1208]⟩)], [(9, ⟨[], ⟨[], [(0, .cells 32 [.int .u8, .str, .int .i64, .str, .nilv, .bool, .nilv])]⟩, [2, 4], [], [0], 0, [], ⟨[], []⟩, []⟩), (19, ⟨[], ⟨[], [(1, .cells 32 [.int .u8, .str, .int .i64, .str, .nilv, .bool, .own 1208]), (1208, .sl 32), (1210, .row 32)]⟩, [10, 44], [], [1, 1208, 1210], 0, [], ⟨[], []⟩, []⟩)], []⟩) (exS := ⟨[.optr 0, .int .i64], [(0, .row 32)]⟩) Tryz.f14 (memC ok_nest_Split (memC ok_cond_reader_spaces (memC ok_cond_reader_query memN0))) (by kernel_rfl) (by kernel_rfl) fun x => by kernel_rfl
theorem st_ref04_Tokens (ref04_Tokens : List VValue → Option (List VToken)) (hs : ConOK Tryz.prog (c_ref04_Tokens ref04_Tokens)) : ConOK Tryz.prog (c_ref04_Tokens (ref04_Tokens_B ref04_Tokens)) :=
  okC (A := ⟨[c_ref04_Closer ref04_Closer, c_ref04_Tokens ref04_Tokens], [(5, [6]), (9, [3])], [], 0, [(3, ⟨[3, 4], ⟨[.own 1209, .int .i64], [(1209, .sl 97)]⟩, [0, 2], [], [], 0, [3], ⟨[.own 1209], [(1209, .sl 97)]⟩, [1209]⟩)], [(4, ⟨[3, 4], ⟨[.own 1311, .int .i64], [(1311, .sl 97)]⟩, [], [], [], 0, [], ⟨[], []⟩, []⟩)], []⟩) (exS := ⟨[.sl 97], []⟩) Tryz.f67 (memC ok_ref04_Closer (memC hs memN0)) (by kernel_rfl) (by kernel_rfl) fun x => by kernel_rfl
theorem ok_ref04_Tokens : ConOK Tryz.prog (c_ref04_Tokens ref04_Tokens) :=
  ConOK.recE (I := I) (P := Tryz.prog) (f := 67) (inS := ⟨[.sl 99], []⟩) (cst := []) (outS := ⟨[.sl 97], []⟩) (k := 0) (ref04_Tokens_B) (by kernel_rfl) (fun S h => st_ref04_Tokens S h)
theorem st_ref04_shaped (ref04_shaped : List VValue × Int → Option Bool) (hs : ConOK Tryz.prog (c_ref04_shaped ref04_shaped)) : ConOK Tryz.prog (c_ref04_shaped (ref04_shaped_B ref04_shaped)) :=
  okC (A := ⟨[c_ref04_Closer ref04_Closer, c_ref04_shaped ref04_shaped], [], [], 0, [(2, ⟨[5], ⟨[.int .i64], []⟩, [0, 1], [], [], 0, [], ⟨[], []⟩, []⟩)], [], []⟩) (exS := ⟨[.bool], []⟩) Tryz.f68 (memC ok_ref04_Closer (memC hs memN0)) (by kernel_rfl) (by kernel_rfl) fun x => by kernel_rfl
theorem ok_ref04_shaped : ConOK Tryz.prog (c_ref04_shaped ref04_shaped) :=
  ConOK.recE (I := I) (P := Tryz.prog) (f := 68) (inS := ⟨[.sl 99, .int .u8], []⟩) (cst := []) (outS := ⟨[.bool], []⟩) (k := 0) (ref04_shaped_B) (by kernel_rfl) (fun S h => st_ref04_shaped S h)
theorem ok_ref04_Check : ConOK Tryz.prog (c_ref04_Check ref04_Check) :=
  okC (A := ⟨[c_ref04_Deep ref04_Deep, c_ref04_Tokens ref04_Tokens, c_ref04_shaped ref04_shaped], [], [], 0, [], [], []⟩) (exS := ⟨[.int .i64], []⟩) Tryz.f34 (memC ok_ref04_Deep (memC ok_ref04_Tokens (memC ok_ref04_shaped memN0))) (by kernel_rfl) (by kernel_rfl) fun x => by kernel_rfl
theorem ok_ref04_Trimmed : ConOK Tryz.prog (c_ref04_Trimmed ref04_Trimmed) :=
  okC (A := ⟨[], [], [], 0, [(1, ⟨[0], ⟨[.sl 99], []⟩, [2], [], [], 0, [0], ⟨[.sl 99], []⟩, []⟩), (3, ⟨[0], ⟨[.sl 99], []⟩, [2], [], [], 2, [0], ⟨[.sl 99], []⟩, []⟩)], [], []⟩) (exS := ⟨[.sl 99], []⟩) Tryz.f69 memN0 (by kernel_rfl) (by kernel_rfl) fun x => by kernel_rfl
theorem ok_ref04_Parts : ConOK Tryz.prog (c_ref04_Parts ref04_Parts) :=
  okC (A := ⟨[], [(1, [100000]), (6, [100001]), (8, [15]), (10, [14])], [], 0, [(3, ⟨[5, 6], ⟨[.own 1314, .int .i64], [(1314, .slo 27 [.own 1418]), (1418, .sl 99)]⟩, [0, 1, 4], [], [], 0, [5], ⟨[.own 1314], [(1314, .slo 27 [.own 1418]), (1418, .sl 99)]⟩, [1314, 1418]⟩)], [(4, ⟨[5, 6], ⟨[.own 1520, .int .i64], [(1520, .slo 27 [.own 1521]), (1521, .sl 99)]⟩, [], [], [], 0, [], ⟨[], []⟩, []⟩)], [(6, [5])]⟩) (exS := ⟨[.sl 27], []⟩) Tryz.f70 memN0 (by kernel_rfl) (by kernel_rfl) fun x => by kernel_rfl
theorem ok_ref01_Small : ConOK Tryz.prog (c_ref01_Small ref01_Small) :=
  okC (A := ⟨[], [], [], 0, [], [], []⟩) (exS := ⟨[.int .u8], []⟩) Tryz.f169 memN0 (by kernel_rfl) (by kernel_rfl) fun x => by kernel_rfl
theorem ok_ref01_Lower : ConOK Tryz.prog (c_ref01_Lower ref01_Lower) :=
  okC (A := ⟨[c_ref01_Small ref01_Small], [], [], 0, [(3, ⟨[4], ⟨[.int .i64], [(0, .sl 5)]⟩, [2, 3], [], [0], 0, [], ⟨[], [(0, .sl 5)]⟩, [0]⟩)], [], []⟩) (exS := ⟨[.str], []⟩) Tryz.f126 (memC ok_ref01_Small memN0) (by kernel_rfl) (by kernel_rfl) fun x => by kernel_rfl
theorem ok_ref01_Alike : ConOK Tryz.prog (c_ref01_Alike ref01_Alike) :=
  okC (A := ⟨[c_ref01_Lower ref01_Lower], [], [], 0, [], [], []⟩) (exS := ⟨[.bool], []⟩) Tryz.f168 (memC ok_ref01_Lower memN0) (by kernel_rfl) (by kernel_rfl) fun x => by kernel_rfl
theorem ok_ref10_word : ConOK Tryz.prog (c_ref10_word ref10_word) :=
  okC (A := ⟨[c_ref01_Alike ref01_Alike], [], [], 0, [], [], []⟩) (exS := ⟨[.bool], []⟩) Tryz.f122 (memC ok_ref01_Alike memN0) (by kernel_rfl) (by kernel_rfl) fun x => by kernel_rfl
theorem ok_ref10_kind : ConOK Tryz.prog (c_ref10_kind ref10_kind) :=
  okC (A := ⟨[], [], [], 0, [], [], []⟩) (exS := ⟨[.bool], []⟩) Tryz.f124 memN0 (by kernel_rfl) (by kernel_rfl) fun x => by kernel_rfl
theorem ok_ref10_spaces : ConOK Tryz.prog (c_ref10_spaces ref10_spaces) :=
  okC (A := ⟨[c_ref10_kind ref10_kind], [], [], 0, [(1, ⟨[1], ⟨[.int .i64], []⟩, [0, 4], [], [], 0, [1], ⟨[.int .i64], []⟩, []⟩)], [], []⟩) (exS := ⟨[.int .i64], []⟩) Tryz.f123 (memC ok_ref10_kind memN0) (by kernel_rfl) (by kernel_rfl) fun x => by kernel_rfl
theorem ok_ref10_never : ConOK Tryz.prog (c_ref10_never ref10_never) :=
  okC (A := ⟨[], [(1, [1, 3])], [], 0, [], [], []⟩) (exS := ⟨[.optr 0], [(0, .row 32)]⟩) Tryz.f125 memN0 (by kernel_rfl) (by kernel_rfl) fun x => by kernel_rfl
theorem ok_ref10_medium : ConOK Tryz.prog (c_ref10_medium ref10_medium) :=
  okC (A := ⟨[c_ref01_Lower ref01_Lower], [], [], 0, [(4, ⟨[3], ⟨[.int .i64], []⟩, [0], [], [], 0, [], ⟨[], []⟩, []⟩)], [], []⟩) (exS := ⟨[.bool], []⟩) Tryz.f127 (memC ok_ref01_Lower memN0) (by kernel_rfl) (by kernel_rfl) fun x => by kernel_rfl
theorem ok_ref06_Is : ConOK Tryz.prog (c_ref06_Is ref06_Is) :=
  okC (A := ⟨[], [], [], 0, [], [], []⟩) (exS := ⟨[.bool], []⟩) Tryz.f170 memN0 (by kernel_rfl) (by kernel_rfl) fun x => by kernel_rfl
theorem ok_ref10_feature : ConOK Tryz.prog (c_ref10_feature ref10_feature) :=
  okC (A := ⟨[c_ref10_kind ref10_kind, c_ref04_Trimmed ref04_Trimmed, c_ref10_word ref10_word, c_ref10_spaces ref10_spaces, c_ref01_Alike ref01_Alike, c_ref06_Is ref06_Is], [], [], 0, [], [(9, ⟨[], ⟨[], [(0, .cells 32 [.int .u8, .str, .int .i64, .str, .nilv, .bool, .nilv]), (1, .cells 32 [.int .u8, .str, .int .i64, .str, .nilv, .bool, .nilv])]⟩, [0, 4, 6], [], [0, 1], 0, [], ⟨[], []⟩, []⟩)], []⟩) (exS := ⟨[.optr 0, .bool], [(0, .row 32)]⟩) Tryz.f128 (memC ok_ref10_kind (memC ok_ref04_Trimmed (memC ok_ref10_word (memC ok_ref10_spaces (memC ok_ref01_Alike (memC ok_ref06_Is memN0)))))) (by kernel_rfl) (by kernel_rfl) fun x => by kernel_rfl
theorem ok_ref10_asked : ConOK Tryz.prog (c_ref10_asked ref10_asked) :=
  okC (A := ⟨[c_ref04_Trimmed ref04_Trimmed, c_ref10_word ref10_word, c_ref10_spaces ref10_spaces, c_ref10_kind ref10_kind, c_ref10_never ref10_never, c_ref01_Lower ref01_Lower, c_ref10_medium ref10_medium, c_ref10_feature ref10_feature], [(13, [4]), (17, [3]), (27, [3]), (29, [1])], [(29, [(3, some 6)])], 0, [(19, ⟨[4], ⟨[.int .i64], [(0, .cells 32 [.int .u8, .str, .int .i64, .str, .nilv, .bool, .nilv]), (1, .cells 32 [.int .u8, .str, .int .i64, .str, .nilv, .bool, .own 1624]), (1624, .sl 32)]⟩, [], [], [0, 1], 0, [], ⟨[], [(0, .cells 32 [.int .u8, .str, .int .i64, .str, .nilv, .bool, .nilv]), (1, .cells 32 [.int .u8, .str, .int .i64, .str, .nilv, .bool, .own 1624]), (1624, .sl 32)]⟩, [0, 1, 1624]⟩)], [(9, ⟨[4], ⟨[.int .i64], [(0, .cells 32 [.int .u8, .str, .int .i64, .str, .nilv, .bool, .nilv]), (1, .cells 32 [.int .u8, .str, .int .i64, .str, .nilv, .bool, .nilv])]⟩, [0, 2, 3, 5], [], [0, 1], 0, [], ⟨[], []⟩, []⟩), (18, ⟨[4], ⟨[.int .i64], [(0, .cells 32 [.int .u8, .str, .int .i64, .str, .nilv, .bool, .nilv]), (1, .cells 32 [.int .u8, .str, .int .i64, .str, .nilv, .bool, .own 1522]), (1522, .sl 32)]⟩, [], [], [0, 1], 0, [], ⟨[], []⟩, []⟩)], []⟩) (exS := ⟨[.optr 0], [(0, .row 32)]⟩) Tryz.f71 (memC ok_ref04_Trimmed (memC ok_ref10_word (memC ok_ref10_spaces (memC ok_ref10_kind (memC ok_ref10_never (memC ok_ref01_Lower (memC ok_ref10_medium (memC ok_ref10_feature memN0)))))))) (by kernel_rfl) (by kernel_rfl) fun x => by kernel_rfl
theorem ok_ref10_Asked : ConOK Tryz.prog (c_ref10_Asked ref10_Asked) :=
  okC (A := ⟨[c_ref04_Trimmed ref04_Trimmed, c_ref04_Parts ref04_Parts, c_ref10_asked ref10_asked], [(8, [7])], [], 0, [(6, ⟨[6], ⟨[.int .i64], [(1, .cells 32 [.int .u8, .str, .int .i64, .str, .nilv, .bool, .own 1625]), (1625, .sl 32)]⟩, [2, 3, 4, 5], [0], [1], 0, [], ⟨[], [(1, .cells 32 [.int .u8, .str, .int .i64, .str, .nilv, .bool, .own 1625]), (1625, .sl 32)]⟩, [1, 1625]⟩)], [], []⟩) (exS := ⟨[.optr 0, .bool], [(0, .row 32)]⟩) Tryz.f35 (memC ok_ref04_Trimmed (memC ok_ref04_Parts (memC ok_ref10_asked memN0))) (by kernel_rfl) (by kernel_rfl) fun x => by kernel_rfl
theorem ok_ref10_Media : ConOK Tryz.prog (c_ref10_Media ref10_Media) :=
  okC (A := ⟨[c_ref04_Check ref04_Check, c_ref10_Asked ref10_Asked], [], [], 0, [], [], []⟩) (exS := ⟨[.optr 0, .int .i64], [(0, .row 32)]⟩) Tryz.f15 (memC ok_ref04_Check (memC ok_ref10_Asked memN0)) (by kernel_rfl) (by kernel_rfl) fun x => by kernel_rfl
theorem ok_decl_is : ConOK Tryz.prog (c_decl_is decl_is) :=
  okC (A := ⟨[], [], [], 0, [], [], []⟩) (exS := ⟨[.bool], []⟩) Tryz.f104 memN0 (by kernel_rfl) (by kernel_rfl) fun x => by kernel_rfl
theorem ok_decl_left : ConOK Tryz.prog (c_decl_left decl_left) :=
  okC (A := ⟨[c_decl_is decl_is], [], [], 0, [(1, ⟨[0], ⟨[.sl 99], []⟩, [2], [], [], 0, [0], ⟨[.sl 99], []⟩, []⟩)], [], []⟩) (exS := ⟨[.sl 99], []⟩) Tryz.f190 (memC ok_decl_is memN0) (by kernel_rfl) (by kernel_rfl) fun x => by kernel_rfl
theorem ok_decl_right : ConOK Tryz.prog (c_decl_right decl_right) :=
  okC (A := ⟨[c_decl_is decl_is], [], [], 0, [(1, ⟨[0], ⟨[.sl 99], []⟩, [2], [], [], 0, [0], ⟨[.sl 99], []⟩, []⟩)], [], []⟩) (exS := ⟨[.sl 99], []⟩) Tryz.f189 (memC ok_decl_is memN0) (by kernel_rfl) (by kernel_rfl) fun x => by kernel_rfl
theorem ok_stringslite_HasPrefix : ConOK Tryz.prog (c_stringslite_HasPrefix stringslite_HasPrefix) :=
  okC (A := ⟨[], [], [], 0, [], [], []⟩) (exS := ⟨[.bool], []⟩) Tryz.f154 memN0 (by kernel_rfl) (by kernel_rfl) fun x => by kernel_rfl
theorem ok_strings_HasPrefix : ConOK Tryz.prog (c_strings_HasPrefix strings_HasPrefix) :=
  okC (A := ⟨[c_stringslite_HasPrefix stringslite_HasPrefix], [], [], 0, [], [], []⟩) (exS := ⟨[.bool], []⟩) Tryz.f106 (memC ok_stringslite_HasPrefix memN0) (by kernel_rfl) (by kernel_rfl) fun x => by kernel_rfl
theorem ok_decl_bang : ConOK Tryz.prog (c_decl_bang decl_bang) :=
  okC (A := ⟨[c_decl_is decl_is], [], [], 0, [], [], []⟩) (exS := ⟨[.bool], []⟩) Tryz.f105 (memC ok_decl_is memN0) (by kernel_rfl) (by kernel_rfl) fun x => by kernel_rfl
theorem ok_nest_Trim_1 : ConOK Tryz.prog (c_nest_Trim_1 nest_Trim_1) :=
  okC (A := ⟨[], [], [], 1, [], [], []⟩) (exS := ⟨[.bool], []⟩) Tryz.f206 memN0 (by kernel_rfl) (by kernel_rfl) fun x => by kernel_rfl
theorem ok_nest_Trim : ConOK Tryz.prog (c_nest_Trim nest_Trim) :=
  okC (A := ⟨[c_nest_Check nest_Check, c_nest_Trim_1 nest_Trim_1, c_nest_twin nest_twin], [], [], 0, [(6, ⟨[6], ⟨[.int .i64], []⟩, [1, 2, 3, 5, 7], [0], [], 0, [6], ⟨[.int .i64], []⟩, []⟩), (8, ⟨[7], ⟨[.int .i64], []⟩, [1, 2, 3, 5, 6], [0], [], 2, [7], ⟨[.int .i64], []⟩, []⟩)], [], []⟩) (exS := ⟨[.sl 99, .int .i64], []⟩) Tryz.f191 (memC ok_nest_Check (memC ok_nest_Trim_1 (memC ok_nest_twin memN0))) (by kernel_rfl) (by kernel_rfl) fun x => by kernel_rfl
theorem st_nest_flat_3 (nest_flat_3 : List VValue × List VToken → Option (List VToken)) (hs : ConOK Tryz.prog (c_nest_flat_3 nest_flat_3)) : ConOK Tryz.prog (c_nest_flat_3 (nest_flat_3_B nest_flat_3)) :=
  okC (A := ⟨[c_nest_closer nest_closer, c_nest_flat_3 nest_flat_3], [(4, [3]), (7, [6])], [], 1, [(2, ⟨[0, 10], ⟨[.own 1626, .int .i64], [(1626, .sl 97)]⟩, [4, 8, 9], [], [], 0, [0], ⟨[.own 1626], [(1626, .sl 97)]⟩, [1626]⟩)], [(8, ⟨[0, 10], ⟨[.own 1728, .int .i64], [(1728, .sl 97)]⟩, [], [], [], 0, [], ⟨[], []⟩, []⟩)], []⟩) (exS := ⟨[.own 1], [(1, .sl 97)]⟩) Tryz.f149 (memC ok_nest_closer (memC hs memN0)) (by kernel_rfl) (by kernel_rfl) fun x => by kernel_rfl
theorem ok_nest_flat_3 : ConOK Tryz.prog (c_nest_flat_3 nest_flat_3) :=
  ConOK.recE (I := I) (P := Tryz.prog) (f := 149) (inS := ⟨[.own 0, .sl 99], [(0, .sl 97)]⟩) (cst := []) (outS := ⟨[.own 1], [(1, .sl 97)]⟩) (k := 1) (nest_flat_3_B) (by kernel_rfl) (fun S h => st_nest_flat_3 S h)
theorem ok_nest_flat_2 : ConOK Tryz.prog (c_nest_flat_2 nest_flat_2) :=
  okC (A := ⟨[c_nest_closer nest_closer, c_nest_flat_3 nest_flat_3], [(4, [3]), (7, [6])], [], 0, [(2, ⟨[0, 10], ⟨[.own 1730, .int .i64], [(1730, .sl 97)]⟩, [4, 8, 9], [], [], 0, [0], ⟨[.own 1730], [(1730, .sl 97)]⟩, [1730]⟩)], [(8, ⟨[0, 10], ⟨[.own 1832, .int .i64], [(1832, .sl 97)]⟩, [], [], [], 0, [], ⟨[], []⟩, []⟩)], []⟩) (exS := ⟨[.own 0], [(0, .sl 97)]⟩) Tryz.f149 (memC ok_nest_closer (memC ok_nest_flat_3 memN0)) (by kernel_rfl) (by kernel_rfl) fun x => by kernel_rfl
theorem ok_nest_Flat : ConOK Tryz.prog (c_nest_Flat nest_Flat) :=
  okC (A := ⟨[c_nest_Check nest_Check, c_nest_flat_2 nest_flat_2], [], [], 0, [], [], []⟩) (exS := ⟨[.sl 97, .int .i64], []⟩) Tryz.f98 (memC ok_nest_Check (memC ok_nest_flat_2 memN0)) (by kernel_rfl) (by kernel_rfl) fun x => by kernel_rfl
theorem ok_decl_named : ConOK Tryz.prog (c_decl_named decl_named) :=
  okC (A := ⟨[c_strings_IndexByte strings_IndexByte, c_strings_HasPrefix strings_HasPrefix, c_input_Lower input_Lower], [], [], 0, [], [], []⟩) (exS := ⟨[.bool], []⟩) Tryz.f99 (memC ok_strings_IndexByte (memC ok_strings_HasPrefix (memC ok_input_Lower memN0))) (by kernel_rfl) (by kernel_rfl) fun x => by kernel_rfl
theorem ok_stringslite_TrimPrefix : ConOK Tryz.prog (c_stringslite_TrimPrefix stringslite_TrimPrefix) :=
  okC (A := ⟨[c_stringslite_HasPrefix stringslite_HasPrefix], [], [], 0, [], [], []⟩) (exS := ⟨[.str], []⟩) Tryz.f208 (memC ok_stringslite_HasPrefix memN0) (by kernel_rfl) (by kernel_rfl) fun x => by kernel_rfl
theorem ok_strings_TrimPrefix : ConOK Tryz.prog (c_strings_TrimPrefix strings_TrimPrefix) :=
  okC (A := ⟨[c_stringslite_TrimPrefix stringslite_TrimPrefix], [], [], 0, [], [], []⟩) (exS := ⟨[.str], []⟩) Tryz.f200 (memC ok_stringslite_TrimPrefix memN0) (by kernel_rfl) (by kernel_rfl) fun x => by kernel_rfl
theorem ok_glue_digit : ConOK Tryz.prog (c_glue_digit glue_digit) :=
  okC (A := ⟨[], [], [], 0, [], [], []⟩) (exS := ⟨[.bool], []⟩) Tryz.f201 memN0 (by kernel_rfl) (by kernel_rfl) fun x => by kernel_rfl
theorem ok_glue_numeric : ConOK Tryz.prog (c_glue_numeric glue_numeric) :=
  okC (A := ⟨[c_strings_TrimPrefix strings_TrimPrefix, c_glue_digit glue_digit], [], [], 0, [], [], []⟩) (exS := ⟨[.bool], []⟩) Tryz.f178 (memC ok_strings_TrimPrefix (memC ok_glue_digit memN0)) (by kernel_rfl) (by kernel_rfl) fun x => by kernel_rfl
theorem ok_glue_letter : ConOK Tryz.prog (c_glue_letter glue_letter) :=
  okC (A := ⟨[], [], [], 0, [], [], []⟩) (exS := ⟨[.bool], []⟩) Tryz.f202 memN0 (by kernel_rfl) (by kernel_rfl) fun x => by kernel_rfl
theorem ok_glue_named : ConOK Tryz.prog (c_glue_named glue_named) :=
  okC (A := ⟨[c_glue_letter glue_letter, c_glue_digit glue_digit], [], [], 0, [], [], []⟩) (exS := ⟨[.bool], []⟩) Tryz.f179 (memC ok_glue_letter (memC ok_glue_digit memN0)) (by kernel_rfl) (by kernel_rfl) fun x => by kernel_rfl
theorem ok_strings_Index : ConOK Tryz.prog (c_strings_Index strings_Index) :=
  okC (A := ⟨[c_index1 index1], [], [], 0, [], [], []⟩) (exS := ⟨[.int .i64], []⟩) Tryz.f203 (memC ok_index1 memN0) (by kernel_rfl) (by kernel_rfl) fun x => by kernel_rfl
theorem ok_strings_Contains : ConOK Tryz.prog (c_strings_Contains strings_Contains) :=
  okC (A := ⟨[c_strings_Index strings_Index], [], [], 0, [], [], []⟩) (exS := ⟨[.bool], []⟩) Tryz.f180 (memC ok_strings_Index memN0) (by kernel_rfl) (by kernel_rfl) fun x => by kernel_rfl
theorem ok_glue_fine : ConOK Tryz.prog (c_glue_fine glue_fine) :=
  okC (A := ⟨[c_strings_IndexByte strings_IndexByte, c_glue_numeric glue_numeric, c_strings_HasPrefix strings_HasPrefix, c_glue_named glue_named, c_strings_Contains strings_Contains], [], [], 0, [], [(8, ⟨[3, 4, 5, 6, 7, 25], ⟨[.bool, .bool, .bool, .bool, .bool, .bool], []⟩, [1, 16], [], [], 0, [], ⟨[], []⟩, []⟩), (14, ⟨[3, 4, 5, 6, 7, 63], ⟨[.bool, .bool, .bool, .bool, .bool, .bool], []⟩, [], [], [], 0, [], ⟨[], []⟩, []⟩), (22, ⟨[4, 5, 6, 7, 94], ⟨[.bool, .bool, .bool, .bool, .bool], []⟩, [3], [], [], 0, [], ⟨[], []⟩, []⟩), (24, ⟨[3, 4, 5, 6, 7], ⟨[.bool, .bool, .bool, .bool, .bool], []⟩, [1], [0], [], 0, [], ⟨[], []⟩, []⟩)], []⟩) (exS := ⟨[.bool], []⟩) Tryz.f150 (memC ok_strings_IndexByte (memC ok_glue_numeric (memC ok_strings_HasPrefix (memC ok_glue_named (memC ok_strings_Contains memN0))))) (by kernel_rfl) (by kernel_rfl) fun x => by kernel_rfl
theorem ok_glue_piece_1 : ConOK Tryz.prog (c_glue_piece_1 glue_piece_1) :=
  okC (A := ⟨[], [], [], 1, [], [], []⟩) (exS := ⟨[.bool], []⟩) Tryz.f181 memN0 (by kernel_rfl) (by kernel_rfl) fun x => by kernel_rfl
theorem ok_glue_piece : ConOK Tryz.prog (c_glue_piece glue_piece) :=
  okC (A := ⟨[c_glue_piece_1 glue_piece_1, c_input_Alike input_Alike], [], [], 0, [], [(11, ⟨[5], ⟨[.int .i64], []⟩, [3], [0], [], 0, [], ⟨[], []⟩, []⟩)], []⟩) (exS := ⟨[.int .i64], []⟩) Tryz.f151 (memC ok_glue_piece_1 (memC ok_input_Alike memN0)) (by kernel_rfl) (by kernel_rfl) fun x => by kernel_rfl
theorem ok_glue_Check : ConOK Tryz.prog (c_glue_Check glue_Check) :=
  okC (A := ⟨[c_glue_fine glue_fine, c_glue_piece glue_piece], [], [], 0, [(4, ⟨[10], ⟨[.int .i64], []⟩, [0, 8, 9], [], [], 0, [], ⟨[], []⟩, []⟩)], [], []⟩) (exS := ⟨[.int .i64], []⟩) Tryz.f100 (memC ok_glue_fine (memC ok_glue_piece memN0)) (by kernel_rfl) (by kernel_rfl) fun x => by kernel_rfl
theorem ok_decl_closers_1 (decl_closers : List VValue → Option Bool) (h_decl_closers : ConOK Tryz.prog (c_decl_closers decl_closers)) : ConOK Tryz.prog (c_decl_closers_1 (decl_closers_1 decl_closers)) :=
  okC (A := ⟨[c_decl_is decl_is, c_decl_closers decl_closers], [], [], 0, [], [], []⟩) (exS := ⟨[.bool], []⟩) Tryz.f152 (memC ok_decl_is (memC h_decl_closers memN0)) (by kernel_rfl) (by kernel_rfl) fun x => by kernel_rfl
theorem ok_slices_IndexFunc_Value (decl_closers : List VValue → Option Bool) (h_decl_closers : ConOK Tryz.prog (c_decl_closers decl_closers)) : ConOK Tryz.prog (c_slices_IndexFunc_Value (slices_IndexFunc_Value decl_closers)) :=
  okC (A := ⟨[c_decl_closers_1 (decl_closers_1 decl_closers)], [], [], 0, [(2, ⟨[8], ⟨[.int .i64], []⟩, [0, 1, 7], [], [], 0, [], ⟨[], []⟩, []⟩)], [], []⟩) (exS := ⟨[.int .i64], []⟩) Tryz.f153 (memC (ok_decl_closers_1 decl_closers h_decl_closers) memN0) (by kernel_rfl) (by kernel_rfl) fun x => by kernel_rfl
theorem ok_slices_ContainsFunc_Value (decl_closers : List VValue → Option Bool) (h_decl_closers : ConOK Tryz.prog (c_decl_closers decl_closers)) : ConOK Tryz.prog (c_slices_ContainsFunc_Value (slices_ContainsFunc_Value decl_closers)) :=
  okC (A := ⟨[c_slices_IndexFunc_Value (slices_IndexFunc_Value decl_closers)], [], [], 0, [], [], []⟩) (exS := ⟨[.bool], []⟩) Tryz.f102 (memC (ok_slices_IndexFunc_Value decl_closers h_decl_closers) memN0) (by kernel_rfl) (by kernel_rfl) fun x => by kernel_rfl
theorem st_decl_closers (decl_closers : List VValue → Option Bool) (hs : ConOK Tryz.prog (c_decl_closers decl_closers)) : ConOK Tryz.prog (c_decl_closers (decl_closers_B decl_closers)) :=
  okC (A := ⟨[c_slices_ContainsFunc_Value (slices_ContainsFunc_Value decl_closers)], [], [], 0, [], [], []⟩) (exS := ⟨[.bool], []⟩) Tryz.f101 (memC (ok_slices_ContainsFunc_Value decl_closers hs) memN0) (by kernel_rfl) (by kernel_rfl) fun x => by kernel_rfl
theorem ok_decl_closers : ConOK Tryz.prog (c_decl_closers decl_closers) :=
  ConOK.recE (I := I) (P := Tryz.prog) (f := 101) (inS := ⟨[.sl 99], []⟩) (cst := []) (outS := ⟨[.bool], []⟩) (k := 0) (decl_closers_B) (by kernel_rfl) (fun S h => st_decl_closers S h)
theorem ok_decl_Check_1 : ConOK Tryz.prog (c_decl_Check_1 decl_Check_1) :=
  okC (A := ⟨[c_decl_is decl_is, c_decl_bang decl_bang], [], [], 0, [], [], []⟩) (exS := ⟨[.bool], []⟩) Tryz.f103 (memC ok_decl_is (memC ok_decl_bang memN0)) (by kernel_rfl) (by kernel_rfl) fun x => by kernel_rfl
theorem ok_slices_IndexFunc_Value_2 : ConOK Tryz.prog (c_slices_IndexFunc_Value_2 slices_IndexFunc_Value_2) :=
  okC (A := ⟨[c_decl_Check_1 decl_Check_1], [], [], 0, [(2, ⟨[8], ⟨[.int .i64], []⟩, [0, 1, 7], [], [], 0, [], ⟨[], []⟩, []⟩)], [], []⟩) (exS := ⟨[.int .i64], []⟩) Tryz.f153 (memC ok_decl_Check_1 memN0) (by kernel_rfl) (by kernel_rfl) fun x => by kernel_rfl
theorem ok_slices_ContainsFunc_Value_2 : ConOK Tryz.prog (c_slices_ContainsFunc_Value_2 slices_ContainsFunc_Value_2) :=
  okC (A := ⟨[c_slices_IndexFunc_Value_2 slices_IndexFunc_Value_2], [], [], 0, [], [], []⟩) (exS := ⟨[.bool], []⟩) Tryz.f102 (memC ok_slices_IndexFunc_Value_2 memN0) (by kernel_rfl) (by kernel_rfl) fun x => by kernel_rfl
theorem ok_decl_Check : ConOK Tryz.prog (c_decl_Check decl_Check) :=
  okC (A := ⟨[c_nest_Flat nest_Flat, c_decl_named decl_named, c_glue_Check glue_Check, c_decl_closers decl_closers, c_slices_ContainsFunc_Value_2 slices_ContainsFunc_Value_2, c_strings_HasPrefix strings_HasPrefix, c_decl_is decl_is], [], [], 0, [], [], []⟩) (exS := ⟨[.int .i64], []⟩) Tryz.f53 (memC ok_nest_Flat (memC ok_decl_named (memC ok_glue_Check (memC ok_decl_closers (memC ok_slices_ContainsFunc_Value_2 (memC ok_strings_HasPrefix (memC ok_decl_is memN0))))))) (by kernel_rfl) (by kernel_rfl) fun x => by kernel_rfl
theorem ok_decl_one : ConOK Tryz.prog (c_decl_one decl_one) :=
  okC (A := ⟨[c_decl_left decl_left, c_decl_right decl_right, c_decl_is decl_is, c_strings_HasPrefix strings_HasPrefix, c_input_Lower input_Lower, c_input_Alike input_Alike, c_decl_bang decl_bang, c_nest_Trim nest_Trim, c_decl_Check decl_Check], [], [], 0, [], [(7, ⟨[0], ⟨[.sl 99], [(0, .cells 29 [.str, .nilv, .bool]), (1, .cells 29 [.str, .nilv, .bool])]⟩, [2, 4], [], [0, 1], 0, [], ⟨[], []⟩, []⟩), (16, ⟨[0], ⟨[.sl 99], [(0, .cells 29 [.str, .nilv, .bool]), (1, .cells 29 [.str, .nilv, .bool])]⟩, [], [], [0, 1], 0, [], ⟨[], []⟩, []⟩)], []⟩) (exS := ⟨[.optr 0, .bool], [(0, .row 29)]⟩) Tryz.f171 (memC ok_decl_left (memC ok_decl_right (memC ok_decl_is (memC ok_strings_HasPrefix (memC ok_input_Lower (memC ok_input_Alike (memC ok_decl_bang (memC ok_nest_Trim (memC ok_decl_Check memN0))))))))) (by kernel_rfl) (by kernel_rfl) fun x => by kernel_rfl
theorem ok_decl_One : ConOK Tryz.prog (c_decl_One decl_One) :=
  okC (A := ⟨[c_nest_Check nest_Check, c_decl_one decl_one], [], [], 0, [], [], []⟩) (exS := ⟨[.optr 0, .bool, .int .i64], [(0, .row 29)]⟩) Tryz.f130 (memC ok_nest_Check (memC ok_decl_one memN0)) (by kernel_rfl) (by kernel_rfl) fun x => by kernel_rfl
theorem ok_cond_reader_term (cond_reader_told : Vcond_reader → Option ((VCond × Bool) × Vcond_reader)) (h_cond_reader_told : ConOK Tryz.prog (c_cond_reader_told cond_reader_told)) : ConOK Tryz.prog (c_cond_reader_term (cond_reader_term cond_reader_told)) :=
  okC (A := ⟨[c_cond_reader_kind cond_reader_kind, c_cond_reader_next cond_reader_next, c_decl_One decl_One, c_cond_reader_told cond_reader_told], [], [], 1, [], [], []⟩) (exS := ⟨[.optr 1, .bool], [(0, .row 74), (1, .row 32)]⟩) Tryz.f73 (memC ok_cond_reader_kind (memC ok_cond_reader_next (memC ok_decl_One (memC h_cond_reader_told memN0)))) (by kernel_rfl) (by kernel_rfl) fun x => by kernel_rfl
theorem st_cond_reader_told (cond_reader_told : Vcond_reader → Option ((VCond × Bool) × Vcond_reader)) (hs : ConOK Tryz.prog (c_cond_reader_told cond_reader_told)) : ConOK Tryz.prog (c_cond_reader_told (cond_reader_told_B cond_reader_told)) :=
  okC (A := ⟨[c_cond_reader_spaces cond_reader_spaces, c_cond_reader_word cond_reader_word, c_cond_reader_term (cond_reader_term cond_reader_told)], [(2, [1]), (6, [1]), (15, [5]), (23, [3])], [], 1, [(14, ⟨[9], ⟨[.bool], [(0, .row 74), (1, .cells 32 [.int .u8, .str, .int .i64, .str, .nilv, .bool, .nilv]), (5, .cells 32 [.int .u8, .str, .int .i64, .str, .nilv, .bool, .own 1833]), (1833, .sl 32)]⟩, [0, 2, 10], [], [0, 1, 5], 0, [], ⟨[], [(0, .row 74), (1, .cells 32 [.int .u8, .str, .int .i64, .str, .nilv, .bool, .nilv]), (5, .cells 32 [.int .u8, .str, .int .i64, .str, .nilv, .bool, .own 1833]), (1833, .sl 32)]⟩, [0, 1, 5, 1833]⟩)], [], []⟩) (exS := ⟨[.optr 1, .bool], [(0, .row 74), (1, .row 32)]⟩) Tryz.f37 (memC ok_cond_reader_spaces (memC ok_cond_reader_word (memC (ok_cond_reader_term cond_reader_told hs) memN0))) (by kernel_rfl) (by kernel_rfl) fun x => by kernel_rfl
theorem ok_cond_reader_told : ConOK Tryz.prog (c_cond_reader_told cond_reader_told) :=
  ConOK.recE (I := I) (P := Tryz.prog) (f := 37) (inS := ⟨[.optr 0], [(0, .row 74)]⟩) (cst := []) (outS := ⟨[.val 32, .bool], [(0, .row 74)]⟩) (k := 0) (cond_reader_told_B) (by kernel_rfl) (fun S h => st_cond_reader_told S h)
theorem ok_nest_Depth : ConOK Tryz.prog (c_nest_Depth nest_Depth) :=
  okC (A := ⟨[c_nest_Check nest_Check, c_nest_look nest_look], [], [], 0, [], [], []⟩) (exS := ⟨[.int .i64, .int .i64], []⟩) Tryz.f52 (memC ok_nest_Check (memC ok_nest_look memN0)) (by kernel_rfl) (by kernel_rfl) fun x => by kernel_rfl
theorem ok_cond_bare : ConOK Tryz.prog (c_cond_bare cond_bare) :=
  okC (A := ⟨[], [], [], 0, [], [], []⟩) (exS := ⟨[.bool], []⟩) Tryz.f110 memN0 (by kernel_rfl) (by kernel_rfl) fun x => by kernel_rfl
theorem ok_cond_leaf : ConOK Tryz.prog (c_cond_leaf cond_leaf) :=
  okC (A := ⟨[], [], [], 0, [], [], []⟩) (exS := ⟨[.bool], []⟩) Tryz.f131 memN0 (by kernel_rfl) (by kernel_rfl) fun x => by kernel_rfl
theorem st_cond_look (cond_look : VCond × Int → Option ((Int × Bool) × Int)) (hs : ConOK Tryz.prog (c_cond_look cond_look)) : ConOK Tryz.prog (c_cond_look (cond_look_B cond_look)) :=
  okC (A := ⟨[c_nest_Depth nest_Depth, c_decl_Check decl_Check, c_cond_bare cond_bare, c_cond_look cond_look, c_cond_leaf cond_leaf], [], [], 1, [(19, ⟨[9, 97], ⟨[.int .i64, .int .i64], [(0, .row 3)]⟩, [1, 95, 96], [], [0], 1, [9], ⟨[.int .i64], [(0, .row 3)]⟩, [0]⟩)], [(15, ⟨[69], ⟨[.bool], []⟩, [1, 2, 6], [0, 1], [], 0, [], ⟨[], []⟩, []⟩), (26, ⟨[9, 12], ⟨[.int .i64, .int .i64], []⟩, [97], [0], [], 0, [], ⟨[], []⟩, []⟩)], []⟩) (exS := ⟨[.int .i64, .bool], [(0, .row 3)]⟩) Tryz.f74 (memC ok_nest_Depth (memC ok_decl_Check (memC ok_cond_bare (memC hs (memC ok_cond_leaf memN0))))) (by kernel_rfl) (by kernel_rfl) fun x => by kernel_rfl
theorem ok_cond_look : ConOK Tryz.prog (c_cond_look cond_look) :=
  ConOK.recE (I := I) (P := Tryz.prog) (f := 74) (inS := ⟨[.val 32, .optr 0], [(0, .row 3)]⟩) (cst := []) (outS := ⟨[.int .i64, .bool], [(0, .row 3)]⟩) (k := 0) (cond_look_B) (by kernel_rfl) (fun S h => st_cond_look S h)
theorem ok_cond_CheckSupports : ConOK Tryz.prog (c_cond_CheckSupports cond_CheckSupports) :=
  okC (A := ⟨[c_cond_look cond_look], [], [], 0, [], [], []⟩) (exS := ⟨[.int .i64], []⟩) Tryz.f38 (memC ok_cond_look memN0) (by kernel_rfl) (by kernel_rfl) fun x => by kernel_rfl
theorem ok_cond_Supports : ConOK Tryz.prog (c_cond_Supports cond_Supports) :=
  okC (A := ⟨[c_nest_Check nest_Check, c_cond_reader_told cond_reader_told, c_cond_CheckSupports cond_CheckSupports], [], [], 0, [], [], []⟩) (exS := ⟨[.optr 0, .int .i64], [(0, .row 32)]⟩) Tryz.f16 (memC ok_nest_Check (memC ok_cond_reader_told (memC ok_cond_CheckSupports memN0))) (by kernel_rfl) (by kernel_rfl) fun x => by kernel_rfl
theorem ok_ref05_marked : ConOK Tryz.prog (c_ref05_marked ref05_marked) :=
  okC (A := ⟨[c_ref01_Alike ref01_Alike, c_ref04_Trimmed ref04_Trimmed], [], [], 0, [], [], []⟩) (exS := ⟨[.sl 99, .bool], []⟩) Tryz.f192 (memC ok_ref01_Alike (memC ok_ref04_Trimmed memN0)) (by kernel_rfl) (by kernel_rfl) fun x => by kernel_rfl
theorem ok_ref05_Named : ConOK Tryz.prog (c_ref05_Named ref05_Named) :=
  okC (A := ⟨[c_ref01_Lower ref01_Lower], [], [], 0, [(4, ⟨[3], ⟨[.int .i64], []⟩, [0], [], [], 0, [], ⟨[], []⟩, []⟩)], [], []⟩) (exS := ⟨[.bool], []⟩) Tryz.f160 (memC ok_ref01_Lower memN0) (by kernel_rfl) (by kernel_rfl) fun x => by kernel_rfl
theorem ok_ref03_whole : ConOK Tryz.prog (c_ref03_whole ref03_whole) :=
  okC (A := ⟨[], [], [], 0, [(2, ⟨[3], ⟨[.int .i64], []⟩, [0], [], [], 0, [], ⟨[], []⟩, []⟩)], [], []⟩) (exS := ⟨[.bool], []⟩) Tryz.f212 memN0 (by kernel_rfl) (by kernel_rfl) fun x => by kernel_rfl
theorem ok_ref02_Digit : ConOK Tryz.prog (c_ref02_Digit ref02_Digit) :=
  okC (A := ⟨[], [], [], 0, [], [], []⟩) (exS := ⟨[.bool], []⟩) Tryz.f220 memN0 (by kernel_rfl) (by kernel_rfl) fun x => by kernel_rfl
theorem ok_ref03_Bare : ConOK Tryz.prog (c_ref03_Bare ref03_Bare) :=
  okC (A := ⟨[c_ref02_Digit ref02_Digit], [], [], 0, [], [], []⟩) (exS := ⟨[.bool], []⟩) Tryz.f213 (memC ok_ref02_Digit memN0) (by kernel_rfl) (by kernel_rfl) fun x => by kernel_rfl
theorem ok_ref02_Space : ConOK Tryz.prog (c_ref02_Space ref02_Space) :=
  okC (A := ⟨[], [], [], 0, [], [], []⟩) (exS := ⟨[.bool], []⟩) Tryz.f224 memN0 (by kernel_rfl) (by kernel_rfl) fun x => by kernel_rfl
theorem ok_ref02_At : ConOK Tryz.prog (c_ref02_At ref02_At) :=
  okC (A := ⟨[], [], [], 0, [], [], []⟩) (exS := ⟨[.int .u8], []⟩) Tryz.f236 memN0 (by kernel_rfl) (by kernel_rfl) fun x => by kernel_rfl
theorem ok_ref02_spaces : ConOK Tryz.prog (c_ref02_spaces ref02_spaces) :=
  okC (A := ⟨[c_ref02_At ref02_At, c_ref02_Space ref02_Space], [], [], 0, [(1, ⟨[1], ⟨[.int .i64], []⟩, [0, 4], [], [], 0, [1], ⟨[.int .i64], []⟩, []⟩)], [], []⟩) (exS := ⟨[.int .i64], []⟩) Tryz.f225 (memC ok_ref02_At (memC ok_ref02_Space memN0)) (by kernel_rfl) (by kernel_rfl) fun x => by kernel_rfl
theorem ok_ref02_lost : ConOK Tryz.prog (c_ref02_lost ref02_lost) :=
  okC (A := ⟨[], [(1, [0])], [], 0, [], [], []⟩) (exS := ⟨[.str], []⟩) Tryz.f242 memN0 (by kernel_rfl) (by kernel_rfl) fun x => by kernel_rfl
theorem ok_ref02_Hex : ConOK Tryz.prog (c_ref02_Hex ref02_Hex) :=
  okC (A := ⟨[c_ref02_Digit ref02_Digit, c_ref01_Small ref01_Small], [], [], 0, [], [], []⟩) (exS := ⟨[.int .i64], []⟩) Tryz.f243 (memC ok_ref02_Digit (memC ok_ref01_Small memN0)) (by kernel_rfl) (by kernel_rfl) fun x => by kernel_rfl
theorem ok_ref02_UTF8 : ConOK Tryz.prog (c_ref02_UTF8 ref02_UTF8) :=
  okC (A := ⟨[c_ref02_lost ref02_lost], [(4, [2]), (6, [8]), (8, [13]), (9, [18])], [], 0, [], [], []⟩) (exS := ⟨[.str], []⟩) Tryz.f244 (memC ok_ref02_lost memN0) (by kernel_rfl) (by kernel_rfl) fun x => by kernel_rfl
theorem ok_ref02_Escaped : ConOK Tryz.prog (c_ref02_Escaped ref02_Escaped) :=
  okC (A := ⟨[c_ref02_lost ref02_lost, c_ref02_Hex ref02_Hex, c_ref02_At ref02_At, c_ref02_Space ref02_Space, c_ref02_UTF8 ref02_UTF8], [], [], 0, [(7, ⟨[6, 7], ⟨[.int .i64, .int .i64], []⟩, [0, 1, 4, 5], [], [], 0, [6, 7], ⟨[.int .i64, .int .i64], []⟩, []⟩)], [(12, ⟨[7], ⟨[.int .i64], []⟩, [6], [], [], 0, [], ⟨[], []⟩, []⟩)], []⟩) (exS := ⟨[.str, .int .i64], []⟩) Tryz.f237 (memC ok_ref02_lost (memC ok_ref02_Hex (memC ok_ref02_At (memC ok_ref02_Space (memC ok_ref02_UTF8 memN0))))) (by kernel_rfl) (by kernel_rfl) fun x => by kernel_rfl
theorem ok_ref02_quoted : ConOK Tryz.prog (c_ref02_quoted ref02_quoted) :=
  okC (A := ⟨[c_ref02_Escaped ref02_Escaped], [], [], 0, [(4, ⟨[1], ⟨[.int .i64], [(0, .row 97), (1, .row 97)]⟩, [0, 4, 6, 7], [], [0, 1], 0, [1], ⟨[.int .i64], [(0, .row 97), (1, .row 97)]⟩, [0, 1]⟩)], [], []⟩) (exS := ⟨[.optr 0, .int .i64], [(0, .row 97)]⟩) Tryz.f226 (memC ok_ref02_Escaped memN0) (by kernel_rfl) (by kernel_rfl) fun x => by kernel_rfl
theorem ok_ref02_Starts : ConOK Tryz.prog (c_ref02_Starts ref02_Starts) :=
  okC (A := ⟨[c_ref01_Small ref01_Small], [], [], 0, [], [], []⟩) (exS := ⟨[.bool], []⟩) Tryz.f238 (memC ok_ref01_Small memN0) (by kernel_rfl) (by kernel_rfl) fun x => by kernel_rfl
theorem ok_ref02_Letter : ConOK Tryz.prog (c_ref02_Letter ref02_Letter) :=
  okC (A := ⟨[c_ref02_Starts ref02_Starts, c_ref02_Digit ref02_Digit], [], [], 0, [], [], []⟩) (exS := ⟨[.bool], []⟩) Tryz.f227 (memC ok_ref02_Starts (memC ok_ref02_Digit memN0)) (by kernel_rfl) (by kernel_rfl) fun x => by kernel_rfl
theorem ok_ref02_Escape : ConOK Tryz.prog (c_ref02_Escape ref02_Escape) :=
  okC (A := ⟨[c_ref02_At ref02_At], [], [], 0, [], [], []⟩) (exS := ⟨[.bool], []⟩) Tryz.f228 (memC ok_ref02_At memN0) (by kernel_rfl) (by kernel_rfl) fun x => by kernel_rfl
theorem ok_ref02_Named : ConOK Tryz.prog (c_ref02_Named ref02_Named) :=
  okC (A := ⟨[c_ref02_Letter ref02_Letter, c_ref02_Escape ref02_Escape, c_ref02_Escaped ref02_Escaped], [], [], 0, [(2, ⟨[1, 6], ⟨[.int .i64, .str], []⟩, [0], [], [], 0, [], ⟨[], []⟩, []⟩)], [], []⟩) (exS := ⟨[.str, .int .i64], []⟩) Tryz.f229 (memC ok_ref02_Letter (memC ok_ref02_Escape (memC ok_ref02_Escaped memN0))) (by kernel_rfl) (by kernel_rfl) fun x => by kernel_rfl
theorem ok_ref02_NameAt : ConOK Tryz.prog (c_ref02_NameAt ref02_NameAt) :=
  okC (A := ⟨[c_ref02_At ref02_At, c_ref02_Starts ref02_Starts, c_ref02_Escape ref02_Escape], [], [], 0, [], [], []⟩) (exS := ⟨[.bool], []⟩) Tryz.f230 (memC ok_ref02_At (memC ok_ref02_Starts (memC ok_ref02_Escape memN0))) (by kernel_rfl) (by kernel_rfl) fun x => by kernel_rfl
theorem ok_ref02_NumberAt : ConOK Tryz.prog (c_ref02_NumberAt ref02_NumberAt) :=
  okC (A := ⟨[c_ref02_At ref02_At, c_ref02_Digit ref02_Digit], [], [], 0, [], [(4, ⟨[1], ⟨[.int .i64], []⟩, [0], [], [], 0, [], ⟨[], []⟩, []⟩), (6, ⟨[1], ⟨[.int .i64], []⟩, [], [], [], 0, [], ⟨[], []⟩, []⟩)], []⟩) (exS := ⟨[.bool], []⟩) Tryz.f231 (memC ok_ref02_At (memC ok_ref02_Digit memN0)) (by kernel_rfl) (by kernel_rfl) fun x => by kernel_rfl
theorem ok_ref02_digits : ConOK Tryz.prog (c_ref02_digits ref02_digits) :=
  okC (A := ⟨[c_ref02_At ref02_At, c_ref02_Digit ref02_Digit], [], [], 0, [(1, ⟨[1], ⟨[.int .i64], []⟩, [0, 4], [], [], 0, [1], ⟨[.int .i64], []⟩, []⟩)], [], []⟩) (exS := ⟨[.int .i64], []⟩) Tryz.f245 (memC ok_ref02_At (memC ok_ref02_Digit memN0)) (by kernel_rfl) (by kernel_rfl) fun x => by kernel_rfl
theorem ok_ref02_NumberEnd : ConOK Tryz.prog (c_ref02_NumberEnd ref02_NumberEnd) :=
  okC (A := ⟨[c_ref02_At ref02_At, c_ref02_digits ref02_digits, c_ref02_Digit ref02_Digit], [], [], 0, [], [(4, ⟨[1], ⟨[.int .i64], []⟩, [0], [], [], 0, [], ⟨[], []⟩, []⟩), (9, ⟨[1, 7], ⟨[.int .i64, .bool], []⟩, [], [], [], 0, [], ⟨[], []⟩, []⟩), (15, ⟨[1, 7, 9], ⟨[.int .i64, .bool, .int .i64], []⟩, [], [], [], 0, [], ⟨[], []⟩, []⟩), (18, ⟨[1, 7], ⟨[.int .i64, .bool], []⟩, [], [], [], 0, [], ⟨[], []⟩, []⟩)], []⟩) (exS := ⟨[.int .i64, .bool], []⟩) Tryz.f239 (memC ok_ref02_At (memC ok_ref02_digits (memC ok_ref02_Digit memN0))) (by kernel_rfl) (by kernel_rfl) fun x => by kernel_rfl
theorem ok_ref02_Thousandths : ConOK Tryz.prog (c_ref02_Thousandths ref02_Thousandths) :=
  okC (A := ⟨[c_ref02_At ref02_At, c_ref02_Digit ref02_Digit], [], [], 0, [(5, ⟨[3, 5], ⟨[.str, .int .i64], []⟩, [4], [], [], 0, [3, 5], ⟨[.str, .int .i64], []⟩, []⟩), (10, ⟨[3, 4, 5], ⟨[.str, .int .i64, .int .i64], []⟩, [], [], [], 2, [3, 4, 5], ⟨[.str, .int .i64, .int .i64], []⟩, []⟩), (20, ⟨[5, 8], ⟨[.int .i64, .int .i64], []⟩, [4], [], [], 4, [8], ⟨[.int .i64], []⟩, []⟩), (28, ⟨[9, 10], ⟨[.int .i64, .int .i64], []⟩, [4], [], [], 6, [9], ⟨[.int .i64], []⟩, []⟩), (31, ⟨[4, 9], ⟨[.int .i64, .int .i64], []⟩, [], [], [], 8, [9], ⟨[.int .i64], []⟩, []⟩)], [(5, ⟨[3, 4, 5], ⟨[.str, .int .i64, .int .i64], []⟩, [0, 6], [], [], 0, [], ⟨[], []⟩, []⟩), (14, ⟨[3, 4, 5], ⟨[.str, .int .i64, .int .i64], []⟩, [], [], [], 0, [], ⟨[], []⟩, []⟩), (19, ⟨[4, 5], ⟨[.int .i64, .int .i64], []⟩, [3, 7], [], [], 0, [], ⟨[], []⟩, []⟩), (25, ⟨[4, 8], ⟨[.int .i64, .int .i64], []⟩, [], [], [], 0, [], ⟨[], []⟩, []⟩), (26, ⟨[4], ⟨[.int .i64], []⟩, [3], [], [], 0, [], ⟨[], []⟩, []⟩)], []⟩) (exS := ⟨[.int .i64], []⟩) Tryz.f240 (memC ok_ref02_At (memC ok_ref02_Digit memN0)) (by kernel_rfl) (by kernel_rfl) fun x => by kernel_rfl
theorem ok_ref02_numeric : ConOK Tryz.prog (c_ref02_numeric ref02_numeric) :=
  okC (A := ⟨[c_ref02_NumberEnd ref02_NumberEnd, c_ref02_Thousandths ref02_Thousandths, c_ref02_NameAt ref02_NameAt, c_ref02_Named ref02_Named, c_ref02_At ref02_At], [], [], 0, [], [(9, ⟨[6], ⟨[.int .i64], [(0, .row 97), (1, .row 97)]⟩, [4, 8], [], [0, 1], 0, [], ⟨[], []⟩, []⟩)], []⟩) (exS := ⟨[.optr 0, .int .i64], [(0, .row 97)]⟩) Tryz.f232 (memC ok_ref02_NumberEnd (memC ok_ref02_Thousandths (memC ok_ref02_NameAt (memC ok_ref02_Named (memC ok_ref02_At memN0))))) (by kernel_rfl) (by kernel_rfl) fun x => by kernel_rfl
theorem ok_ref02_has : ConOK Tryz.prog (c_ref02_has ref02_has) :=
  okC (A := ⟨[], [], [], 0, [], [], []⟩) (exS := ⟨[.bool], []⟩) Tryz.f233 memN0 (by kernel_rfl) (by kernel_rfl) fun x => by kernel_rfl
theorem ok_ref02_bad : ConOK Tryz.prog (c_ref02_bad ref02_bad) :=
  okC (A := ⟨[c_ref02_Escape ref02_Escape, c_ref02_Escaped ref02_Escaped], [], [], 0, [(1, ⟨[1], ⟨[.int .i64], []⟩, [0, 4, 5], [0], [], 0, [1], ⟨[.int .i64], []⟩, []⟩)], [], []⟩) (exS := ⟨[.optr 0, .int .i64], [(0, .row 97)]⟩) Tryz.f246 (memC ok_ref02_Escape (memC ok_ref02_Escaped memN0)) (by kernel_rfl) (by kernel_rfl) fun x => by kernel_rfl
theorem ok_ref02_Unprintable : ConOK Tryz.prog (c_ref02_Unprintable ref02_Unprintable) :=
  okC (A := ⟨[], [], [], 0, [], [], []⟩) (exS := ⟨[.bool], []⟩) Tryz.f247 memN0 (by kernel_rfl) (by kernel_rfl) fun x => by kernel_rfl
theorem ok_ref02_url : ConOK Tryz.prog (c_ref02_url ref02_url) :=
  okC (A := ⟨[c_ref02_spaces ref02_spaces, c_ref02_Space ref02_Space, c_ref02_bad ref02_bad, c_ref02_Unprintable ref02_Unprintable, c_ref02_Escape ref02_Escape, c_ref02_Escaped ref02_Escaped], [], [], 0, [(3, ⟨[1], ⟨[.int .i64], [(0, .row 97), (1, .row 97)]⟩, [0, 4, 6], [], [0, 1], 0, [1], ⟨[.int .i64], [(0, .row 97), (1, .row 97)]⟩, [0, 1]⟩)], [], []⟩) (exS := ⟨[.optr 0, .int .i64], [(0, .row 97)]⟩) Tryz.f241 (memC ok_ref02_spaces (memC ok_ref02_Space (memC ok_ref02_bad (memC ok_ref02_Unprintable (memC ok_ref02_Escape (memC ok_ref02_Escaped memN0)))))) (by kernel_rfl) (by kernel_rfl) fun x => by kernel_rfl
theorem ok_ref02_word : ConOK Tryz.prog (c_ref02_word ref02_word) :=
  okC (A := ⟨[c_ref02_Named ref02_Named, c_ref02_At ref02_At, c_ref01_Alike ref01_Alike, c_ref02_spaces ref02_spaces, c_ref02_url ref02_url], [], [], 0, [], [(8, ⟨[], ⟨[], [(0, .row 97)]⟩, [4, 6, 7], [], [0], 0, [], ⟨[], []⟩, []⟩)], []⟩) (exS := ⟨[.optr 0, .int .i64], [(0, .row 97)]⟩) Tryz.f234 (memC ok_ref02_Named (memC ok_ref02_At (memC ok_ref01_Alike (memC ok_ref02_spaces (memC ok_ref02_url memN0))))) (by kernel_rfl) (by kernel_rfl) fun x => by kernel_rfl
theorem ok_ref02_mark : ConOK Tryz.prog (c_ref02_mark ref02_mark) :=
  okC (A := ⟨[], [], [], 0, [], [], []⟩) (exS := ⟨[.int .u8], []⟩) Tryz.f235 memN0 (by kernel_rfl) (by kernel_rfl) fun x => by kernel_rfl
theorem ok_ref02_One : ConOK Tryz.prog (c_ref02_One ref02_One) :=
  okC (A := ⟨[c_ref02_Space ref02_Space, c_ref02_spaces ref02_spaces, c_ref02_quoted ref02_quoted, c_ref02_Letter ref02_Letter, c_ref02_Escape ref02_Escape, c_ref02_Named ref02_Named, c_ref02_NameAt ref02_NameAt, c_ref02_NumberAt ref02_NumberAt, c_ref02_numeric ref02_numeric, c_ref02_has ref02_has, c_ref02_word ref02_word, c_ref02_mark ref02_mark], [], [], 0, [], [], []⟩) (exS := ⟨[.optr 0, .int .i64], [(0, .row 97)]⟩) Tryz.f221 (memC ok_ref02_Space (memC ok_ref02_spaces (memC ok_ref02_quoted (memC ok_ref02_Letter (memC ok_ref02_Escape (memC ok_ref02_Named (memC ok_ref02_NameAt (memC ok_ref02_NumberAt (memC ok_ref02_numeric (memC ok_ref02_has (memC ok_ref02_word (memC ok_ref02_mark memN0)))))))))))) (by kernel_rfl) (by kernel_rfl) fun x => by kernel_rfl
theorem ok_ref03_Delim : ConOK Tryz.prog (c_ref03_Delim ref03_Delim) :=
  okC (A := ⟨[c_ref02_One ref02_One], [(1, [1])], [], 0, [], [], []⟩) (exS := ⟨[.bool], []⟩) Tryz.f214 (memC ok_ref02_One memN0) (by kernel_rfl) (by kernel_rfl) fun x => by kernel_rfl
theorem ok_ref03_Fine : ConOK Tryz.prog (c_ref03_Fine ref03_Fine) :=
  okC (A := ⟨[c_ref03_whole ref03_whole, c_ref03_Bare ref03_Bare, c_ref03_Delim ref03_Delim], [], [], 0, [], [(6, ⟨[8], ⟨[.bool], [(1, .row 97)]⟩, [1, 3, 7], [0], [1], 0, [], ⟨[], []⟩, []⟩), (13, ⟨[56], ⟨[.bool], [(1, .row 97)]⟩, [], [], [1], 0, [], ⟨[], []⟩, []⟩), (21, ⟨[90], ⟨[.bool], [(1, .row 97)]⟩, [], [], [1], 0, [], ⟨[], []⟩, []⟩), (26, ⟨[148], ⟨[.bool], []⟩, [], [1], [], 0, [], ⟨[], []⟩, []⟩)], []⟩) (exS := ⟨[.bool], []⟩) Tryz.f205 (memC ok_ref03_whole (memC ok_ref03_Bare (memC ok_ref03_Delim memN0))) (by kernel_rfl) (by kernel_rfl) fun x => by kernel_rfl
theorem ok_ref03_Check : ConOK Tryz.prog (c_ref03_Check ref03_Check) :=
  okC (A := ⟨[c_ref03_Fine ref03_Fine, c_ref01_Alike ref01_Alike], [], [], 0, [(4, ⟨[3], ⟨[.int .i64], []⟩, [0], [], [], 0, [], ⟨[], []⟩, []⟩)], [(12, ⟨[4], ⟨[.int .i64], []⟩, [3], [], [], 0, [], ⟨[], []⟩, []⟩), (14, ⟨[], ⟨[], []⟩, [3], [], [], 0, [], ⟨[], []⟩, []⟩)], []⟩) (exS := ⟨[.int .i64], []⟩) Tryz.f183 (memC ok_ref03_Fine (memC ok_ref01_Alike memN0)) (by kernel_rfl) (by kernel_rfl) fun x => by kernel_rfl
theorem st_ref05_closers (ref05_closers : List VValue → Option Bool) (hs : ConOK Tryz.prog (c_ref05_closers ref05_closers)) : ConOK Tryz.prog (c_ref05_closers (ref05_closers_B ref05_closers)) :=
  okC (A := ⟨[c_ref05_closers ref05_closers], [], [], 0, [(2, ⟨[3], ⟨[.int .i64], []⟩, [0], [], [], 0, [], ⟨[], []⟩, []⟩)], [], []⟩) (exS := ⟨[.bool], []⟩) Tryz.f184 (memC hs memN0) (by kernel_rfl) (by kernel_rfl) fun x => by kernel_rfl
theorem ok_ref05_closers : ConOK Tryz.prog (c_ref05_closers ref05_closers) :=
  ConOK.recE (I := I) (P := Tryz.prog) (f := 184) (inS := ⟨[.sl 99], []⟩) (cst := []) (outS := ⟨[.bool], []⟩) (k := 0) (ref05_closers_B) (by kernel_rfl) (fun S h => st_ref05_closers S h)
theorem ok_ref05_Custom : ConOK Tryz.prog (c_ref05_Custom ref05_Custom) :=
  okC (A := ⟨[], [], [], 0, [], [], []⟩) (exS := ⟨[.bool], []⟩) Tryz.f185 memN0 (by kernel_rfl) (by kernel_rfl) fun x => by kernel_rfl
theorem ok_ref05_Valued : ConOK Tryz.prog (c_ref05_Valued ref05_Valued) :=
  okC (A := ⟨[c_ref04_Check ref04_Check, c_ref04_Tokens ref04_Tokens, c_ref03_Check ref03_Check, c_ref05_closers ref05_closers, c_ref04_Trimmed ref04_Trimmed, c_ref05_Custom ref05_Custom], [], [], 0, [(6, ⟨[5], ⟨[.int .i64], []⟩, [1], [], [], 0, [], ⟨[], []⟩, []⟩)], [], []⟩) (exS := ⟨[.bool], []⟩) Tryz.f161 (memC ok_ref04_Check (memC ok_ref04_Tokens (memC ok_ref03_Check (memC ok_ref05_closers (memC ok_ref04_Trimmed (memC ok_ref05_Custom memN0)))))) (by kernel_rfl) (by kernel_rfl) fun x => by kernel_rfl
theorem ok_ref05_Check : ConOK Tryz.prog (c_ref05_Check ref05_Check) :=
  okC (A := ⟨[c_ref05_Named ref05_Named, c_ref05_Valued ref05_Valued], [], [], 0, [], [], []⟩) (exS := ⟨[.int .i64], []⟩) Tryz.f113 (memC ok_ref05_Named (memC ok_ref05_Valued memN0)) (by kernel_rfl) (by kernel_rfl) fun x => by kernel_rfl
theorem ok_ref05_Read1 : ConOK Tryz.prog (c_ref05_Read1 ref05_Read1) :=
  okC (A := ⟨[c_ref04_Trimmed ref04_Trimmed, c_ref01_Lower ref01_Lower, c_ref05_marked ref05_marked, c_ref05_Check ref05_Check], [], [], 0, [], [(7, ⟨[0], ⟨[.sl 99], [(0, .cells 29 [.str, .nilv, .bool]), (1, .cells 29 [.str, .nilv, .bool])]⟩, [2, 4], [], [0, 1], 0, [], ⟨[], []⟩, []⟩)], []⟩) (exS := ⟨[.optr 0, .bool], [(0, .row 29)]⟩) Tryz.f172 (memC ok_ref04_Trimmed (memC ok_ref01_Lower (memC ok_ref05_marked (memC ok_ref05_Check memN0)))) (by kernel_rfl) (by kernel_rfl) fun x => by kernel_rfl
theorem ok_ref10_term (ref10_told : List VValue → Option (VCond × Bool)) (h_ref10_told : ConOK Tryz.prog (c_ref10_told ref10_told)) : ConOK Tryz.prog (c_ref10_term (ref10_term ref10_told)) :=
  okC (A := ⟨[c_ref10_kind ref10_kind, c_ref05_Read1 ref05_Read1, c_ref10_told ref10_told], [], [], 0, [], [], []⟩) (exS := ⟨[.optr 0, .bool], [(0, .row 32)]⟩) Tryz.f132 (memC ok_ref10_kind (memC ok_ref05_Read1 (memC h_ref10_told memN0))) (by kernel_rfl) (by kernel_rfl) fun x => by kernel_rfl
theorem st_ref10_told (ref10_told : List VValue → Option (VCond × Bool)) (hs : ConOK Tryz.prog (c_ref10_told ref10_told)) : ConOK Tryz.prog (c_ref10_told (ref10_told_B ref10_told)) :=
  okC (A := ⟨[c_ref04_Trimmed ref04_Trimmed, c_ref10_word ref10_word, c_ref10_spaces ref10_spaces, c_ref10_term (ref10_term ref10_told)], [(5, [1]), (22, [3])], [], 0, [(13, ⟨[10], ⟨[.int .i64], [(0, .cells 32 [.int .u8, .str, .int .i64, .str, .nilv, .bool, .nilv]), (3, .cells 32 [.int .u8, .str, .int .i64, .str, .nilv, .bool, .own 1834]), (1834, .sl 32)]⟩, [], [], [0, 3], 0, [], ⟨[], [(0, .cells 32 [.int .u8, .str, .int .i64, .str, .nilv, .bool, .nilv]), (3, .cells 32 [.int .u8, .str, .int .i64, .str, .nilv, .bool, .own 1834]), (1834, .sl 32)]⟩, [0, 3, 1834]⟩)], [(12, ⟨[], ⟨[], [(0, .cells 32 [.int .u8, .str, .int .i64, .str, .nilv, .bool, .nilv]), (3, .cells 32 [.int .u8, .str, .int .i64, .str, .nilv, .bool, .own 2]), (2, .sl 32)]⟩, [0, 2, 9], [], [0, 2, 3], 0, [], ⟨[], []⟩, []⟩)], []⟩) (exS := ⟨[.optr 0, .bool], [(0, .row 32)]⟩) Tryz.f75 (memC ok_ref04_Trimmed (memC ok_ref10_word (memC ok_ref10_spaces (memC (ok_ref10_term ref10_told hs) memN0)))) (by kernel_rfl) (by kernel_rfl) fun x => by kernel_rfl
theorem ok_ref10_told : ConOK Tryz.prog (c_ref10_told ref10_told) :=
  ConOK.recE (I := I) (P := Tryz.prog) (f := 75) (inS := ⟨[.sl 99], []⟩) (cst := []) (outS := ⟨[.val 32, .bool], []⟩) (k := 0) (ref10_told_B) (by kernel_rfl) (fun S h => st_ref10_told S h)
theorem st_ref10_Size (ref10_Size : VCond × Int → Option Int) (hs : ConOK Tryz.prog (c_ref10_Size ref10_Size)) : ConOK Tryz.prog (c_ref10_Size (ref10_Size_B ref10_Size)) :=
  okC (A := ⟨[c_ref10_Size ref10_Size], [], [], 0, [(3, ⟨[5, 6], ⟨[.int .i64, .int .i64], []⟩, [1, 2, 4], [0], [], 0, [5], ⟨[.int .i64], []⟩, []⟩)], [], []⟩) (exS := ⟨[.int .i64], []⟩) Tryz.f88 (memC hs memN0) (by kernel_rfl) (by kernel_rfl) fun x => by kernel_rfl
theorem ok_ref10_Size : ConOK Tryz.prog (c_ref10_Size ref10_Size) :=
  ConOK.recE (I := I) (P := Tryz.prog) (f := 88) (inS := ⟨[.val 32, .int .i64], []⟩) (cst := []) (outS := ⟨[.int .i64], []⟩) (k := 0) (ref10_Size_B) (by kernel_rfl) (fun S h => st_ref10_Size S h)
theorem st_ref10_Deep (ref10_Deep : VCond → Option Int) (hs : ConOK Tryz.prog (c_ref10_Deep ref10_Deep)) : ConOK Tryz.prog (c_ref10_Deep (ref10_Deep_B ref10_Deep)) :=
  okC (A := ⟨[c_ref04_Deep ref04_Deep, c_ref10_Deep ref10_Deep], [], [], 0, [(7, ⟨[3, 4], ⟨[.int .i64, .int .i64], []⟩, [1, 2], [0], [], 0, [3], ⟨[.int .i64], []⟩, []⟩)], [(13, ⟨[3, 6], ⟨[.int .i64, .int .i64], []⟩, [4], [], [], 0, [], ⟨[], []⟩, []⟩)], []⟩) (exS := ⟨[.int .i64], []⟩) Tryz.f133 (memC ok_ref04_Deep (memC hs memN0)) (by kernel_rfl) (by kernel_rfl) fun x => by kernel_rfl
theorem ok_ref10_Deep : ConOK Tryz.prog (c_ref10_Deep ref10_Deep) :=
  ConOK.recE (I := I) (P := Tryz.prog) (f := 133) (inS := ⟨[.val 32], []⟩) (cst := []) (outS := ⟨[.int .i64], []⟩) (k := 0) (ref10_Deep_B) (by kernel_rfl) (fun S h => st_ref10_Deep S h)
theorem ok_ref10_plain : ConOK Tryz.prog (c_ref10_plain ref10_plain) :=
  okC (A := ⟨[], [], [], 0, [], [], []⟩) (exS := ⟨[.bool], []⟩) Tryz.f186 memN0 (by kernel_rfl) (by kernel_rfl) fun x => by kernel_rfl
theorem ok_ref10_listed : ConOK Tryz.prog (c_ref10_listed ref10_listed) :=
  okC (A := ⟨[c_ref10_plain ref10_plain], [], [], 0, [], [], []⟩) (exS := ⟨[.bool], []⟩) Tryz.f162 (memC ok_ref10_plain memN0) (by kernel_rfl) (by kernel_rfl) fun x => by kernel_rfl
theorem st_ref10_supported (ref10_supported : VCond → Option Bool) (hs : ConOK Tryz.prog (c_ref10_supported ref10_supported)) : ConOK Tryz.prog (c_ref10_supported (ref10_supported_B ref10_supported)) :=
  okC (A := ⟨[c_ref05_Check ref05_Check, c_ref10_listed ref10_listed, c_ref10_supported ref10_supported], [], [], 0, [(13, ⟨[3], ⟨[.int .i64], []⟩, [], [], [], 1, [], ⟨[], []⟩, []⟩)], [(10, ⟨[55], ⟨[.bool], []⟩, [1], [0], [], 0, [], ⟨[], []⟩, []⟩)], []⟩) (exS := ⟨[.bool], []⟩) Tryz.f134 (memC ok_ref05_Check (memC ok_ref10_listed (memC hs memN0))) (by kernel_rfl) (by kernel_rfl) fun x => by kernel_rfl
theorem ok_ref10_supported : ConOK Tryz.prog (c_ref10_supported ref10_supported) :=
  ConOK.recE (I := I) (P := Tryz.prog) (f := 134) (inS := ⟨[.val 32], []⟩) (cst := []) (outS := ⟨[.bool], []⟩) (k := 0) (ref10_supported_B) (by kernel_rfl) (fun S h => st_ref10_supported S h)
theorem ok_ref10_Supportive : ConOK Tryz.prog (c_ref10_Supportive ref10_Supportive) :=
  okC (A := ⟨[c_ref10_Size ref10_Size, c_ref10_Deep ref10_Deep, c_ref10_supported ref10_supported], [], [], 0, [], [], []⟩) (exS := ⟨[.bool], []⟩) Tryz.f76 (memC ok_ref10_Size (memC ok_ref10_Deep (memC ok_ref10_supported memN0))) (by kernel_rfl) (by kernel_rfl) fun x => by kernel_rfl
theorem ok_ref10_Told : ConOK Tryz.prog (c_ref10_Told ref10_Told) :=
  okC (A := ⟨[c_ref10_told ref10_told, c_ref10_Supportive ref10_Supportive], [], [], 0, [], [], []⟩) (exS := ⟨[.optr 0, .bool], [(0, .row 32)]⟩) Tryz.f39 (memC ok_ref10_told (memC ok_ref10_Supportive memN0)) (by kernel_rfl) (by kernel_rfl) fun x => by kernel_rfl
theorem ok_ref10_Supports : ConOK Tryz.prog (c_ref10_Supports ref10_Supports) :=
  okC (A := ⟨[c_ref04_Check ref04_Check, c_ref10_Told ref10_Told], [], [], 0, [], [], []⟩) (exS := ⟨[.optr 0, .int .i64], [(0, .row 32)]⟩) Tryz.f17 (memC ok_ref04_Check (memC ok_ref10_Told memN0)) (by kernel_rfl) (by kernel_rfl) fun x => by kernel_rfl
theorem st_ref04_Same (ref04_Same : List VValue × List VValue → Option Bool) (hs : ConOK Tryz.prog (c_ref04_Same ref04_Same)) : ConOK Tryz.prog (c_ref04_Same (ref04_Same_B ref04_Same)) :=
  okC (A := ⟨[c_ref04_Same ref04_Same], [], [], 0, [(4, ⟨[5], ⟨[.int .i64], []⟩, [0, 1], [], [], 0, [], ⟨[], []⟩, []⟩)], [], []⟩) (exS := ⟨[.bool], []⟩) Tryz.f77 (memC hs memN0) (by kernel_rfl) (by kernel_rfl) fun x => by kernel_rfl
theorem ok_ref04_Same : ConOK Tryz.prog (c_ref04_Same ref04_Same) :=
  ConOK.recE (I := I) (P := Tryz.prog) (f := 77) (inS := ⟨[.sl 99, .sl 99], []⟩) (cst := []) (outS := ⟨[.bool], []⟩) (k := 0) (ref04_Same_B) (by kernel_rfl) (fun S h => st_ref04_Same S h)
theorem ok_ref05_Same1 : ConOK Tryz.prog (c_ref05_Same1 ref05_Same1) :=
  okC (A := ⟨[c_ref04_Same ref04_Same], [], [], 0, [], [], []⟩) (exS := ⟨[.bool], []⟩) Tryz.f40 (memC ok_ref04_Same memN0) (by kernel_rfl) (by kernel_rfl) fun x => by kernel_rfl
theorem st_ref10_Same (ref10_Same : VCond × VCond → Option Bool) (hs : ConOK Tryz.prog (c_ref10_Same ref10_Same)) : ConOK Tryz.prog (c_ref10_Same (ref10_Same_B ref10_Same)) :=
  okC (A := ⟨[c_ref05_Same1 ref05_Same1, c_ref10_Same ref10_Same], [], [], 0, [(4, ⟨[5], ⟨[.int .i64], []⟩, [2, 3], [0, 1], [], 0, [], ⟨[], []⟩, []⟩)], [], []⟩) (exS := ⟨[.bool], []⟩) Tryz.f18 (memC ok_ref05_Same1 (memC hs memN0)) (by kernel_rfl) (by kernel_rfl) fun x => by kernel_rfl
theorem ok_ref10_Same : ConOK Tryz.prog (c_ref10_Same ref10_Same) :=
  ConOK.recE (I := I) (P := Tryz.prog) (f := 18) (inS := ⟨[.val 32, .val 32], []⟩) (cst := []) (outS := ⟨[.bool], []⟩) (k := 0) (ref10_Same_B) (by kernel_rfl) (fun S h => st_ref10_Same S h)
theorem ok_law10_CondReads : ConOK Tryz.prog (c_law10_CondReads law10_CondReads) :=
  okC (A := ⟨[c_ref04_Great ref04_Great, c_cond_Media cond_Media, c_ref10_Media ref10_Media, c_cond_Supports cond_Supports, c_ref10_Supports ref10_Supports, c_ref10_Same ref10_Same], [], [], 0, [], [], []⟩) (exS := ⟨[.bool], []⟩) Tryz.f4 (memC ok_ref04_Great (memC ok_cond_Media (memC ok_ref10_Media (memC ok_cond_Supports (memC ok_ref10_Supports (memC ok_ref10_Same memN0)))))) (by kernel_rfl) (by kernel_rfl) fun x => by kernel_rfl
end Go.Lv.VT
