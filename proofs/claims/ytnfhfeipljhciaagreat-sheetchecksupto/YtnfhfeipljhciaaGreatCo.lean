/- DERIVED: LAID BY THE SHELF's contract.sh OFF ITS TEMPLATE 'internal/stringslite.IndexByte' FOR THE PROGRAM 'Tryz' (the function's number there: 144). THE LIBRARY's OWN TEXT IS WALKED: nothing is assumed of it; where it calls a function without a Go body (internal/bytealg), THE MODEL's OWN ENTRY stands in, by its law (Derived/Lib/Bytealg.lean). Behind the contract: ONE FALSE NEIGHBOUR, a contract that says a little too much, REFUTED. (The template: the authors, an AI agent; Sun.) -/
import Derived.Test.YtnfhfeipljhciaaGreatChecked
import Derived.Lib.Strings
import Derived.Lib.Slices
import Derived.Lib.Walk
import Derived.Lib.Bytealg
import Derived.Test.YtnfhfeipljhciaaGreatTx
import Derived.Test.YtnfhfeipljhciaaGreatIp
import Derived.Test.YtnfhfeipljhciaaGreatLf
namespace Go.Proofs
set_option maxHeartbeats 1000000 in
set_option maxRecDepth 100000 in
theorem Tryz.stringslite_IndexByte (s : ByteArray) (c : Int) (w : World) :
    Calls Tryz.prog 144 #[.string s, .int .u8 c] w fun e w' => e = .returned (.int .i64 (Lib.indexByte s.data.toList c.toNat.toUInt8)) ∧ w' = w := by
  go_enter Tryz.func144, Tryz.ntmps144
  go_wp2
  rw [run_callFunc_extern Tryz.func174 (by kernel_rfl) (by kernel_rfl) (by kernel_rfl) (e := Extern.BytealgIndexByte.indexByte) (by kernel_rfl), Lib.run_indexByteString]
  simp only [Result.andThen]
  rw [Oper.upon_value]
  go_wp2
  go_ret
  exact ⟨rfl, rfl⟩

#print axioms Tryz.stringslite_IndexByte
end Go.Proofs

namespace Go.Proofs
set_option maxHeartbeats 2000000 in
set_option maxRecDepth 100000 in
theorem Tryz.stringslite_Index_one (s : ByteArray) (c : UInt8) (w : World) :
    Calls Tryz.prog 209 #[.string s, .string ⟨#[c]⟩] w fun e w' => e = .returned (.int .i64 (Lib.indexByte s.data.toList c)) ∧ w' = w := by
  go_enter Tryz.func209, Tryz.ntmps209
  go_wp2_with (go_at_call 144; refine (Tryz.stringslite_IndexByte _ _ _).mono ?_; rintro e w' ⟨rfl, rfl⟩)
  · have h : ([c] == s.toList) = true := by assumption
    go_ret
    refine ⟨?_, rfl⟩
    have e : s.data.toList = [c] := by rw [← Lib.toList_data]; exact (beq_iff_eq.1 h).symm
    rw [e]
    simp [Lib.indexByte]
  · go_ret
    exact ⟨rfl, rfl⟩

theorem Tryz.stringslite_Index_one_not : ¬ ∀ (s : ByteArray) (c : UInt8) (w : World),
    Calls Tryz.prog 209 #[.string s, .string ⟨#[c]⟩] w fun e w' => e = .returned (.int .i64 ((s.size : Int) - 1 - Lib.indexByte s.data.toList.reverse c)) ∧ w' = w := by
  intro h
  have e := Lib.agree (by kernel_rfl) (Tryz.stringslite_Index_one ⟨#[97, 97]⟩ 97 default) (h ⟨#[97, 97]⟩ 97 default)
  injection e with _ e
  revert e
  decide

#print axioms Tryz.stringslite_Index_one
#print axioms Tryz.stringslite_Index_one_not
end Go.Proofs

namespace Go.Lv.VT
set_option maxRecDepth 100000
open Go.Proofs
theorem okC {con : Con I} {A : Env0 I} {exS : StSh} (f : Go.Func) (hS : ∀ c ∈ A.S, ConOK Tryz.prog c) (hf : Tryz.prog.funcs[con.f]? = some f) (h : chk con A f = true) (he : ∀ x, evF2 A T FK f.ntmps (rsl f) (body f) con exS x = con.F x) : ConOK Tryz.prog con :=
  okC0 mixed ipOK tok rfl rfl hS hf h he
noncomputable def c_ref08_size (F : List VComplex × Int → Option Int) : Con I := ⟨87, ⟨[.sl 137, .int .i64], []⟩, [], ⟨[.int .i64], []⟩, 0, F⟩
noncomputable def c_ref08_Great (F : List VComplex → Option Bool) : Con I := ⟨43, ⟨[.sl 137], []⟩, [], ⟨[.bool], []⟩, 0, F⟩
noncomputable def c_ref04_Size (F : List VValue × Int → Option Int) : Con I := ⟨29, ⟨[.sl 99, .int .i64], []⟩, [], ⟨[.int .i64], []⟩, 0, F⟩
noncomputable def c_ref04_Closer (F : Int → Option Int) : Con I := ⟨59, ⟨[.int .u8], []⟩, [], ⟨[.int .u8], []⟩, 0, F⟩
noncomputable def c_ref04_Deep (F : List VValue → Option Int) : Con I := ⟨30, ⟨[.sl 99], []⟩, [], ⟨[.int .i64], []⟩, 0, F⟩
noncomputable def c_ref05_Great (F : List VDecl → Option Bool) : Con I := ⟨44, ⟨[.sl 29], []⟩, [], ⟨[.bool], []⟩, 0, F⟩
noncomputable def c_ref10_Size (F : VCond × Int → Option Int) : Con I := ⟨88, ⟨[.val 32, .int .i64], []⟩, [], ⟨[.int .i64], []⟩, 0, F⟩
noncomputable def c_ref10_long (F : VCond → Option Bool) : Con I := ⟨89, ⟨[.val 32], []⟩, [], ⟨[.bool], []⟩, 0, F⟩
noncomputable def c_ref10_Great (F : VCond → Option Bool) : Con I := ⟨45, ⟨[.val 32], []⟩, [], ⟨[.bool], []⟩, 0, F⟩
noncomputable def c_ref11_weighed (F : List VRule × Int → Option Bool) : Con I := ⟨24, ⟨[.sl 35, .int .i64], []⟩, [], ⟨[.bool], []⟩, 0, F⟩
noncomputable def c_ref11_Number (F : List VRule → Option Int) : Con I := ⟨25, ⟨[.sl 35], []⟩, [], ⟨[.int .i64], []⟩, 0, F⟩
noncomputable def c_ref11_Great (F : List VRule → Option Bool) : Con I := ⟨6, ⟨[.sl 35], []⟩, [], ⟨[.bool], []⟩, 0, F⟩
noncomputable def c_strings_IndexByte (F : Str × Int → Option Int) : Con I := ⟨93, ⟨[.str, .int .u8], []⟩, [], ⟨[.int .i64], []⟩, 0, F⟩
noncomputable def c_sheet_named_1 (F : Str → Option Bool) : Con I := ⟨92, ⟨[.str], []⟩, [], ⟨[.bool], []⟩, 0, F⟩
noncomputable def c_slices_IndexFunc_string_2 (F : List Str → Option Int) : Con I := ⟨143, ⟨[.sl 9, .clo 92 []], []⟩, [], ⟨[.int .i64], []⟩, 0, F⟩
noncomputable def c_slices_ContainsFunc_string_2 (F : List Str → Option Bool) : Con I := ⟨91, ⟨[.sl 9, .clo 92 []], []⟩, [], ⟨[.bool], []⟩, 0, F⟩
noncomputable def c_sheet_named (F : List Str → Option Bool) : Con I := ⟨48, ⟨[.sl 9], []⟩, [], ⟨[.bool], []⟩, 0, F⟩
noncomputable def c_sheet_look_1 (F : List Str → Option Bool) : Con I := ⟨47, ⟨[.sl 9], []⟩, [], ⟨[.bool], []⟩, 0, F⟩
noncomputable def c_slices_IndexFunc_string (F : List (List Str) → Option Int) : Con I := ⟨90, ⟨[.sl 87, .clo 47 []], []⟩, [], ⟨[.int .i64], []⟩, 0, F⟩
noncomputable def c_slices_ContainsFunc_string (F : List (List Str) → Option Bool) : Con I := ⟨46, ⟨[.sl 87, .clo 47 []], []⟩, [], ⟨[.bool], []⟩, 0, F⟩
noncomputable def c_sheet_selected (F : List VComplex → Option Int) : Con I := ⟨49, ⟨[.sl 137], []⟩, [], ⟨[.int .i64], []⟩, 0, F⟩
noncomputable def c_seltext_zero (F : Str × Int → Option Bool) : Con I := ⟨198, ⟨[.str, .int .i64], []⟩, [], ⟨[.bool], []⟩, 0, F⟩
noncomputable def c_seltext_named (F : Str → Option Bool) : Con I := ⟨194, ⟨[.str], []⟩, [], ⟨[.bool], []⟩, 0, F⟩
noncomputable def c_input_Lower (F : Str → Option Str) : Con I := ⟨64, ⟨[.str], []⟩, [], ⟨[.str], []⟩, 0, F⟩
noncomputable def c_seltext_small (F : Str → Option Bool) : Con I := ⟨176, ⟨[.str], []⟩, [], ⟨[.bool], []⟩, 0, F⟩
noncomputable def c_seltext_lists (F : VSimple → Option (Bool × Bool)) : Con I := ⟨195, ⟨[.val 144], []⟩, [], ⟨[.bool, .bool], []⟩, 0, F⟩
noncomputable def c_seltext_place_in (F : Vseltext_place × Int → Option (Vseltext_place × Bool)) : Con I := ⟨196, ⟨[.val 148, .int .u8], []⟩, [], ⟨[.val 148, .bool], []⟩, 0, F⟩
noncomputable def c_anb_within (F : Int → Option Bool) : Con I := ⟨207, ⟨[.int .i64], []⟩, [], ⟨[.bool], []⟩, 0, F⟩
noncomputable def c_anb_Check (F : VAnb → Option Int) : Con I := ⟨199, ⟨[.val 142], []⟩, [], ⟨[.int .i64], []⟩, 0, F⟩
noncomputable def c_seltext_simple_1 (F : VComplex × Vseltext_place × VSimple → Option Bool) : Con I := ⟨197, ⟨[.val 137, .optr 0, .optr 1], [(0, .row 148), (1, .row 144)]⟩, [0, 1], ⟨[.bool], []⟩, 0, F⟩
noncomputable def c_slices_IndexFunc_Complex_2 (F : List VComplex × Vseltext_place × VSimple → Option Int) : Con I := ⟨145, ⟨[.sl 137, .clo 197 [0, 1]], [(0, .row 148), (1, .row 144)]⟩, [0, 1], ⟨[.int .i64], []⟩, 0, F⟩
noncomputable def c_slices_ContainsFunc_Complex_2 (F : List VComplex × Vseltext_place × VSimple → Option Bool) : Con I := ⟨94, ⟨[.sl 137, .clo 197 [0, 1]], [(0, .row 148), (1, .row 144)]⟩, [0, 1], ⟨[.bool], []⟩, 0, F⟩
noncomputable def c_seltext_simple (F : VSimple × Vseltext_place → Option Bool) : Con I := ⟨177, ⟨[.val 144, .val 148], []⟩, [], ⟨[.bool], []⟩, 0, F⟩
noncomputable def c_seltext_compound (F : VCompound × Vseltext_place → Option Bool) : Con I := ⟨148, ⟨[.val 140, .val 148], []⟩, [], ⟨[.bool], []⟩, 0, F⟩
noncomputable def c_seltext_whole_1 (F : VCompound × Vseltext_place → Option Bool) : Con I := ⟨147, ⟨[.val 140, .optr 0], [(0, .row 148)]⟩, [0], ⟨[.bool], []⟩, 0, F⟩
noncomputable def c_slices_IndexFunc_Compound (F : List VCompound × Vseltext_place → Option Int) : Con I := ⟨175, ⟨[.sl 140, .clo 147 [0]], [(0, .row 148)]⟩, [0], ⟨[.int .i64], []⟩, 0, F⟩
noncomputable def c_slices_ContainsFunc_Compound (F : List VCompound × Vseltext_place → Option Bool) : Con I := ⟨146, ⟨[.sl 140, .clo 147 [0]], [(0, .row 148)]⟩, [0], ⟨[.bool], []⟩, 0, F⟩
noncomputable def c_seltext_whole (F : VComplex × Vseltext_place × Bool → Option Bool) : Con I := ⟨96, ⟨[.val 137, .val 148, .bool], []⟩, [], ⟨[.bool], []⟩, 0, F⟩
noncomputable def c_seltext_Check_1 (F : VComplex → Option Bool) : Con I := ⟨95, ⟨[.val 137], []⟩, [], ⟨[.bool], []⟩, 0, F⟩
noncomputable def c_slices_IndexFunc_Complex (F : List VComplex → Option Int) : Con I := ⟨145, ⟨[.sl 137, .clo 95 []], []⟩, [], ⟨[.int .i64], []⟩, 0, F⟩
noncomputable def c_slices_ContainsFunc_Complex (F : List VComplex → Option Bool) : Con I := ⟨94, ⟨[.sl 137, .clo 95 []], []⟩, [], ⟨[.bool], []⟩, 0, F⟩
noncomputable def c_seltext_count (F : List VComplex → Option Int) : Con I := ⟨97, ⟨[.sl 137], []⟩, [], ⟨[.int .i64], []⟩, 0, F⟩
noncomputable def c_seltext_Check (F : List VComplex → Option Int) : Con I := ⟨50, ⟨[.sl 137], []⟩, [], ⟨[.int .i64], []⟩, 0, F⟩
noncomputable def c_sheet_empty (F : VCond → Option Bool) : Con I := ⟨51, ⟨[.val 32], []⟩, [], ⟨[.bool], []⟩, 0, F⟩
noncomputable def c_nest_closer (F : Int → Option Int) : Con I := ⟨129, ⟨[.int .u8], []⟩, [], ⟨[.int .u8], []⟩, 0, F⟩
noncomputable def c_nest_look (F : List VValue × Int → Option Vnest_found) : Con I := ⟨72, ⟨[.sl 99, .int .u8], []⟩, [], ⟨[.val 113], []⟩, 0, F⟩
noncomputable def c_nest_Check (F : List VValue → Option Int) : Con I := ⟨36, ⟨[.sl 99], []⟩, [], ⟨[.int .i64], []⟩, 0, F⟩
noncomputable def c_nest_Depth (F : List VValue → Option (Int × Int)) : Con I := ⟨52, ⟨[.sl 99], []⟩, [], ⟨[.int .i64, .int .i64], []⟩, 0, F⟩
noncomputable def c_nest_flat_3 (F : List VValue × List VToken → Option (List VToken)) : Con I := ⟨149, ⟨[.own 0, .sl 99], [(0, .sl 97)]⟩, [], ⟨[.own 1], [(1, .sl 97)]⟩, 1, F⟩
noncomputable def c_nest_flat_2 (F : List VValue → Option (List VToken)) : Con I := ⟨149, ⟨[.nilv, .sl 99], []⟩, [], ⟨[.own 0], [(0, .sl 97)]⟩, 1, F⟩
noncomputable def c_nest_Flat (F : List VValue → Option (List VToken × Int)) : Con I := ⟨98, ⟨[.sl 99], []⟩, [], ⟨[.sl 97, .int .i64], []⟩, 0, F⟩
noncomputable def c_stringslite_HasPrefix (F : Str × Str → Option Bool) : Con I := ⟨154, ⟨[.str, .str], []⟩, [], ⟨[.bool], []⟩, 0, F⟩
noncomputable def c_strings_HasPrefix (F : Str × Str → Option Bool) : Con I := ⟨106, ⟨[.str, .str], []⟩, [], ⟨[.bool], []⟩, 0, F⟩
noncomputable def c_decl_named (F : Str → Option Bool) : Con I := ⟨99, ⟨[.str], []⟩, [], ⟨[.bool], []⟩, 0, F⟩
noncomputable def c_stringslite_TrimPrefix (F : Str × Str → Option Str) : Con I := ⟨208, ⟨[.str, .str], []⟩, [], ⟨[.str], []⟩, 0, F⟩
noncomputable def c_strings_TrimPrefix (F : Str × Str → Option Str) : Con I := ⟨200, ⟨[.str, .str], []⟩, [], ⟨[.str], []⟩, 0, F⟩
noncomputable def c_glue_digit (F : Int → Option Bool) : Con I := ⟨201, ⟨[.int .u8], []⟩, [], ⟨[.bool], []⟩, 0, F⟩
noncomputable def c_glue_numeric (F : Str → Option Bool) : Con I := ⟨178, ⟨[.str], []⟩, [], ⟨[.bool], []⟩, 0, F⟩
noncomputable def c_glue_letter (F : Int → Option Bool) : Con I := ⟨202, ⟨[.int .u8], []⟩, [], ⟨[.bool], []⟩, 0, F⟩
noncomputable def c_glue_named (F : Int → Option Bool) : Con I := ⟨179, ⟨[.int .u8], []⟩, [], ⟨[.bool], []⟩, 0, F⟩
noncomputable def c_strings_Index (F : Str × Str → Option Int) : Con I := ⟨203, ⟨[.str, .str], []⟩, [], ⟨[.int .i64], []⟩, 0, F⟩
noncomputable def c_strings_Contains (F : Str × Str → Option Bool) : Con I := ⟨180, ⟨[.str, .str], []⟩, [], ⟨[.bool], []⟩, 0, F⟩
noncomputable def c_glue_fine (F : VToken → Option Bool) : Con I := ⟨150, ⟨[.val 97], []⟩, [], ⟨[.bool], []⟩, 0, F⟩
noncomputable def c_glue_piece_1 (F : (Int × Int) × List VToken → Option Bool) : Con I := ⟨181, ⟨[.int .i64, .int .u8, .optr 0], [(0, .row 107)]⟩, [0], ⟨[.bool], []⟩, 0, F⟩
noncomputable def c_input_Alike (F : Str × Str → Option Bool) : Con I := ⟨119, ⟨[.str, .str], []⟩, [], ⟨[.bool], []⟩, 0, F⟩
noncomputable def c_glue_piece (F : List VToken → Option Int) : Con I := ⟨151, ⟨[.sl 97], []⟩, [], ⟨[.int .i64], []⟩, 0, F⟩
noncomputable def c_glue_Check (F : List VToken → Option Int) : Con I := ⟨100, ⟨[.sl 97], []⟩, [], ⟨[.int .i64], []⟩, 0, F⟩
noncomputable def c_decl_is (F : VValue × Int → Option Bool) : Con I := ⟨104, ⟨[.val 99, .int .u8], []⟩, [], ⟨[.bool], []⟩, 0, F⟩
noncomputable def c_decl_closers_1 (F : VValue → Option Bool) : Con I := ⟨152, ⟨[.val 99], []⟩, [], ⟨[.bool], []⟩, 0, F⟩
noncomputable def c_slices_IndexFunc_Value (F : List VValue → Option Int) : Con I := ⟨153, ⟨[.sl 99, .clo 152 []], []⟩, [], ⟨[.int .i64], []⟩, 0, F⟩
noncomputable def c_slices_ContainsFunc_Value (F : List VValue → Option Bool) : Con I := ⟨102, ⟨[.sl 99, .clo 152 []], []⟩, [], ⟨[.bool], []⟩, 0, F⟩
noncomputable def c_decl_closers (F : List VValue → Option Bool) : Con I := ⟨101, ⟨[.sl 99], []⟩, [], ⟨[.bool], []⟩, 0, F⟩
noncomputable def c_decl_bang (F : VValue → Option Bool) : Con I := ⟨105, ⟨[.val 99], []⟩, [], ⟨[.bool], []⟩, 0, F⟩
noncomputable def c_decl_Check_1 (F : VValue → Option Bool) : Con I := ⟨103, ⟨[.val 99], []⟩, [], ⟨[.bool], []⟩, 0, F⟩
noncomputable def c_slices_IndexFunc_Value_2 (F : List VValue → Option Int) : Con I := ⟨153, ⟨[.sl 99, .clo 103 []], []⟩, [], ⟨[.int .i64], []⟩, 0, F⟩
noncomputable def c_slices_ContainsFunc_Value_2 (F : List VValue → Option Bool) : Con I := ⟨102, ⟨[.sl 99, .clo 103 []], []⟩, [], ⟨[.bool], []⟩, 0, F⟩
noncomputable def c_decl_Check (F : VDecl → Option Int) : Con I := ⟨53, ⟨[.val 29], []⟩, [], ⟨[.int .i64], []⟩, 0, F⟩
noncomputable def c_sheet_asked (F : VCond → Option Int) : Con I := ⟨54, ⟨[.val 32], []⟩, [], ⟨[.int .i64], []⟩, 0, F⟩
noncomputable def c_cond_bare (F : VCond → Option Bool) : Con I := ⟨110, ⟨[.val 32], []⟩, [], ⟨[.bool], []⟩, 0, F⟩
noncomputable def c_slices_Index_string (F : List Str × Str → Option Int) : Con I := ⟨166, ⟨[.sl 9, .str], []⟩, [], ⟨[.int .i64], []⟩, 0, F⟩
noncomputable def c_slices_Contains_string (F : List Str × Str → Option Bool) : Con I := ⟨120, ⟨[.sl 9, .str], []⟩, [], ⟨[.bool], []⟩, 0, F⟩
noncomputable def c_cond_medium (F : Str → Option Bool) : Con I := ⟨65, ⟨[.str], []⟩, [], ⟨[.bool], []⟩, 0, F⟩
noncomputable def c_fixed_check (F : List Int → Option Int) : Con I := ⟨167, ⟨[.sl 2], []⟩, [], ⟨[.int .i64], []⟩, 0, F⟩
noncomputable def c_fixed_Check (F : Int → Option Int) : Con I := ⟨121, ⟨[.int .i64], []⟩, [], ⟨[.int .i64], []⟩, 0, F⟩
noncomputable def c_cond_query (F : VCond → Option Bool) : Con I := ⟨156, ⟨[.val 32], []⟩, [], ⟨[.bool], []⟩, 0, F⟩
noncomputable def c_cond_named (F : VCond → Option Bool) : Con I := ⟨157, ⟨[.val 32], []⟩, [], ⟨[.bool], []⟩, 0, F⟩
noncomputable def c_cond_asks (F : VCond → Option Bool) : Con I := ⟨109, ⟨[.val 32], []⟩, [], ⟨[.bool], []⟩, 0, F⟩
noncomputable def c_cond_CheckMedia_1 (F : VCond → Option Bool) : Con I := ⟨108, ⟨[.val 32], []⟩, [], ⟨[.bool], []⟩, 0, F⟩
noncomputable def c_slices_IndexFunc_Cond (F : List VCond → Option Int) : Con I := ⟨155, ⟨[.sl 32, .clo 108 []], []⟩, [], ⟨[.int .i64], []⟩, 0, F⟩
noncomputable def c_slices_ContainsFunc_Cond (F : List VCond → Option Bool) : Con I := ⟨107, ⟨[.sl 32, .clo 108 []], []⟩, [], ⟨[.bool], []⟩, 0, F⟩
noncomputable def c_cond_CheckMedia (F : VCond → Option Int) : Con I := ⟨55, ⟨[.val 32], []⟩, [], ⟨[.int .i64], []⟩, 0, F⟩
noncomputable def c_sheet_told (F : VCond → Option Int) : Con I := ⟨56, ⟨[.val 32], []⟩, [], ⟨[.int .i64], []⟩, 0, F⟩
noncomputable def c_cond_leaf (F : VCond → Option Bool) : Con I := ⟨131, ⟨[.val 32], []⟩, [], ⟨[.bool], []⟩, 0, F⟩
noncomputable def c_cond_look (F : VCond × Int → Option ((Int × Bool) × Int)) : Con I := ⟨74, ⟨[.val 32, .optr 0], [(0, .row 3)]⟩, [], ⟨[.int .i64, .bool], [(0, .row 3)]⟩, 0, F⟩
noncomputable def c_cond_CheckSupports (F : VCond → Option Int) : Con I := ⟨38, ⟨[.val 32], []⟩, [], ⟨[.int .i64], []⟩, 0, F⟩
noncomputable def c_sheet_look (F : List VRule → Option Vsheet_found) : Con I := ⟨26, ⟨[.sl 35], []⟩, [], ⟨[.val 64], []⟩, 0, F⟩
noncomputable def c_sheet_check (F : List VRule → Option Int) : Con I := ⟨27, ⟨[.sl 35], []⟩, [], ⟨[.int .i64], []⟩, 0, F⟩
noncomputable def c_sheet_Check (F : VSheet → Option Int) : Con I := ⟨9, ⟨[.val 24], []⟩, [], ⟨[.int .i64], []⟩, 0, F⟩
noncomputable def c_sheet_Count (F : VSheet → Option (Int × Int)) : Con I := ⟨7, ⟨[.val 24], []⟩, [], ⟨[.int .i64, .int .i64], []⟩, 0, F⟩
noncomputable def c_ref08_bytes (F : Str × Int → Option Bool) : Con I := ⟨188, ⟨[.str, .int .i64], []⟩, [], ⟨[.bool], []⟩, 0, F⟩
noncomputable def c_ref08_Named (F : Str → Option Bool) : Con I := ⟨164, ⟨[.str], []⟩, [], ⟨[.bool], []⟩, 0, F⟩
noncomputable def c_ref01_Small (F : Int → Option Int) : Con I := ⟨169, ⟨[.int .u8], []⟩, [], ⟨[.int .u8], []⟩, 0, F⟩
noncomputable def c_ref01_Lower (F : Str → Option Str) : Con I := ⟨126, ⟨[.str], []⟩, [], ⟨[.str], []⟩, 0, F⟩
noncomputable def c_ref08_Small (F : Str → Option Bool) : Con I := ⟨210, ⟨[.str], []⟩, [], ⟨[.bool], []⟩, 0, F⟩
noncomputable def c_ref08_bareOf (F : VSimple → Option Vref08_base) : Con I := ⟨193, ⟨[.val 144], []⟩, [], ⟨[.val 208], []⟩, 0, F⟩
noncomputable def c_ref07_Valid (F : VAnb → Option Bool) : Con I := ⟨218, ⟨[.val 142], []⟩, [], ⟨[.bool], []⟩, 0, F⟩
noncomputable def c_ref08_below (F : Vref08_place × Int → Option (Vref08_place × Bool)) : Con I := ⟨223, ⟨[.val 197, .int .u8], []⟩, [], ⟨[.val 197, .bool], []⟩, 0, F⟩
noncomputable def c_ref08_listed (F : List VComplex × Vref08_place × Int → Option Bool) : Con I := ⟨219, ⟨[.sl 137, .val 197, .int .u8], []⟩, [], ⟨[.bool], []⟩, 0, F⟩
noncomputable def c_ref08_simple (F : VSimple × Vref08_place → Option Bool) : Con I := ⟨211, ⟨[.val 144, .val 197], []⟩, [], ⟨[.bool], []⟩, 0, F⟩
noncomputable def c_ref08_compound (F : VCompound × Vref08_place → Option Bool) : Con I := ⟨204, ⟨[.val 140, .val 197], []⟩, [], ⟨[.bool], []⟩, 0, F⟩
noncomputable def c_ref08_whole (F : VComplex × Vref08_place × Bool → Option Bool) : Con I := ⟨182, ⟨[.val 137, .val 197, .bool], []⟩, [], ⟨[.bool], []⟩, 0, F⟩
noncomputable def c_ref08_Fine (F : List VComplex → Option Bool) : Con I := ⟨158, ⟨[.sl 137], []⟩, [], ⟨[.bool], []⟩, 0, F⟩
noncomputable def c_ref08_Number (F : List VComplex → Option Int) : Con I := ⟨159, ⟨[.sl 137], []⟩, [], ⟨[.int .i64], []⟩, 0, F⟩
noncomputable def c_ref08_Check (F : List VComplex → Option Int) : Con I := ⟨111, ⟨[.sl 137], []⟩, [], ⟨[.int .i64], []⟩, 0, F⟩
noncomputable def c_ref04_Same (F : List VValue × List VValue → Option Bool) : Con I := ⟨77, ⟨[.sl 99, .sl 99], []⟩, [], ⟨[.bool], []⟩, 0, F⟩
noncomputable def c_ref05_Same1 (F : VDecl × VDecl → Option Bool) : Con I := ⟨40, ⟨[.val 29, .val 29], []⟩, [], ⟨[.bool], []⟩, 0, F⟩
noncomputable def c_ref10_Same (F : VCond × VCond → Option Bool) : Con I := ⟨18, ⟨[.val 32, .val 32], []⟩, [], ⟨[.bool], []⟩, 0, F⟩
noncomputable def c_ref11_none (F : VCond → Option Bool) : Con I := ⟨112, ⟨[.val 32], []⟩, [], ⟨[.bool], []⟩, 0, F⟩
noncomputable def c_ref05_Named (F : Str → Option Bool) : Con I := ⟨160, ⟨[.str], []⟩, [], ⟨[.bool], []⟩, 0, F⟩
noncomputable def c_ref04_Tokens (F : List VValue → Option (List VToken)) : Con I := ⟨67, ⟨[.sl 99], []⟩, [], ⟨[.sl 97], []⟩, 0, F⟩
noncomputable def c_ref04_shaped (F : List VValue × Int → Option Bool) : Con I := ⟨68, ⟨[.sl 99, .int .u8], []⟩, [], ⟨[.bool], []⟩, 0, F⟩
noncomputable def c_ref04_Check (F : List VValue → Option Int) : Con I := ⟨34, ⟨[.sl 99], []⟩, [], ⟨[.int .i64], []⟩, 0, F⟩
noncomputable def c_ref03_whole (F : Str → Option Bool) : Con I := ⟨212, ⟨[.str], []⟩, [], ⟨[.bool], []⟩, 0, F⟩
noncomputable def c_ref02_Digit (F : Int → Option Bool) : Con I := ⟨220, ⟨[.int .u8], []⟩, [], ⟨[.bool], []⟩, 0, F⟩
noncomputable def c_ref03_Bare (F : Str → Option Bool) : Con I := ⟨213, ⟨[.str], []⟩, [], ⟨[.bool], []⟩, 0, F⟩
noncomputable def c_ref02_Space (F : Int → Option Bool) : Con I := ⟨224, ⟨[.int .u8], []⟩, [], ⟨[.bool], []⟩, 0, F⟩
noncomputable def c_ref02_At (F : Str × Int → Option Int) : Con I := ⟨236, ⟨[.str, .int .i64], []⟩, [], ⟨[.int .u8], []⟩, 0, F⟩
noncomputable def c_ref02_spaces (F : Str × Int → Option Int) : Con I := ⟨225, ⟨[.str, .int .i64], []⟩, [], ⟨[.int .i64], []⟩, 0, F⟩
noncomputable def c_ref02_lost (F : Unit → Option Str) : Con I := ⟨242, ⟨[], []⟩, [], ⟨[.str], []⟩, 0, F⟩
noncomputable def c_ref02_Hex (F : Int → Option Int) : Con I := ⟨243, ⟨[.int .u8], []⟩, [], ⟨[.int .i64], []⟩, 0, F⟩
noncomputable def c_ref02_UTF8 (F : Int → Option Str) : Con I := ⟨244, ⟨[.int .i64], []⟩, [], ⟨[.str], []⟩, 0, F⟩
noncomputable def c_ref02_Escaped (F : Str × Int → Option (Str × Int)) : Con I := ⟨237, ⟨[.str, .int .i64], []⟩, [], ⟨[.str, .int .i64], []⟩, 0, F⟩
noncomputable def c_ref02_quoted (F : Str × Int → Option (VToken × Int)) : Con I := ⟨226, ⟨[.str, .int .i64], []⟩, [], ⟨[.val 97, .int .i64], []⟩, 0, F⟩
noncomputable def c_ref02_Starts (F : Int → Option Bool) : Con I := ⟨238, ⟨[.int .u8], []⟩, [], ⟨[.bool], []⟩, 0, F⟩
noncomputable def c_ref02_Letter (F : Int → Option Bool) : Con I := ⟨227, ⟨[.int .u8], []⟩, [], ⟨[.bool], []⟩, 0, F⟩
noncomputable def c_ref02_Escape (F : Str × Int → Option Bool) : Con I := ⟨228, ⟨[.str, .int .i64], []⟩, [], ⟨[.bool], []⟩, 0, F⟩
noncomputable def c_ref02_Named (F : Str × Int → Option (Str × Int)) : Con I := ⟨229, ⟨[.str, .int .i64], []⟩, [], ⟨[.str, .int .i64], []⟩, 0, F⟩
noncomputable def c_ref02_NameAt (F : Str × Int → Option Bool) : Con I := ⟨230, ⟨[.str, .int .i64], []⟩, [], ⟨[.bool], []⟩, 0, F⟩
noncomputable def c_ref02_NumberAt (F : Str × Int → Option Bool) : Con I := ⟨231, ⟨[.str, .int .i64], []⟩, [], ⟨[.bool], []⟩, 0, F⟩
noncomputable def c_ref02_digits (F : Str × Int → Option Int) : Con I := ⟨245, ⟨[.str, .int .i64], []⟩, [], ⟨[.int .i64], []⟩, 0, F⟩
noncomputable def c_ref02_NumberEnd (F : Str × Int → Option (Int × Bool)) : Con I := ⟨239, ⟨[.str, .int .i64], []⟩, [], ⟨[.int .i64, .bool], []⟩, 0, F⟩
noncomputable def c_ref02_Thousandths (F : Str → Option Int) : Con I := ⟨240, ⟨[.str], []⟩, [], ⟨[.int .i64], []⟩, 0, F⟩
noncomputable def c_ref02_numeric (F : Str × Int → Option (VToken × Int)) : Con I := ⟨232, ⟨[.str, .int .i64], []⟩, [], ⟨[.val 97, .int .i64], []⟩, 0, F⟩
noncomputable def c_ref02_has (F : Str × Int × Str → Option Bool) : Con I := ⟨233, ⟨[.str, .int .i64, .str], []⟩, [], ⟨[.bool], []⟩, 0, F⟩
noncomputable def c_ref01_Alike (F : Str × Str → Option Bool) : Con I := ⟨168, ⟨[.str, .str], []⟩, [], ⟨[.bool], []⟩, 0, F⟩
noncomputable def c_ref02_bad (F : Str × Int → Option (VToken × Int)) : Con I := ⟨246, ⟨[.str, .int .i64], []⟩, [], ⟨[.val 97, .int .i64], []⟩, 0, F⟩
noncomputable def c_ref02_Unprintable (F : Int → Option Bool) : Con I := ⟨247, ⟨[.int .u8], []⟩, [], ⟨[.bool], []⟩, 0, F⟩
noncomputable def c_ref02_url (F : Str × Int → Option (VToken × Int)) : Con I := ⟨241, ⟨[.str, .int .i64], []⟩, [], ⟨[.val 97, .int .i64], []⟩, 0, F⟩
noncomputable def c_ref02_word (F : Str × Int → Option (VToken × Int)) : Con I := ⟨234, ⟨[.str, .int .i64], []⟩, [], ⟨[.val 97, .int .i64], []⟩, 0, F⟩
noncomputable def c_ref02_mark (F : Int → Option Int) : Con I := ⟨235, ⟨[.int .u8], []⟩, [], ⟨[.int .u8], []⟩, 0, F⟩
noncomputable def c_ref02_One (F : Str × Int → Option (VToken × Int)) : Con I := ⟨221, ⟨[.str, .int .i64], []⟩, [], ⟨[.val 97, .int .i64], []⟩, 0, F⟩
noncomputable def c_ref03_Delim (F : Int → Option Bool) : Con I := ⟨214, ⟨[.int .u8], []⟩, [], ⟨[.bool], []⟩, 0, F⟩
noncomputable def c_ref03_Fine (F : VToken → Option Bool) : Con I := ⟨205, ⟨[.val 97], []⟩, [], ⟨[.bool], []⟩, 0, F⟩
noncomputable def c_ref03_Check (F : List VToken → Option Int) : Con I := ⟨183, ⟨[.sl 97], []⟩, [], ⟨[.int .i64], []⟩, 0, F⟩
noncomputable def c_ref05_closers (F : List VValue → Option Bool) : Con I := ⟨184, ⟨[.sl 99], []⟩, [], ⟨[.bool], []⟩, 0, F⟩
noncomputable def c_ref04_Trimmed (F : List VValue → Option (List VValue)) : Con I := ⟨69, ⟨[.sl 99], []⟩, [], ⟨[.sl 99], []⟩, 0, F⟩
noncomputable def c_ref05_Custom (F : Str → Option Bool) : Con I := ⟨185, ⟨[.str], []⟩, [], ⟨[.bool], []⟩, 0, F⟩
noncomputable def c_ref05_Valued (F : Str × List VValue → Option Bool) : Con I := ⟨161, ⟨[.str, .sl 99], []⟩, [], ⟨[.bool], []⟩, 0, F⟩
noncomputable def c_ref05_Check (F : VDecl → Option Int) : Con I := ⟨113, ⟨[.val 29], []⟩, [], ⟨[.int .i64], []⟩, 0, F⟩
noncomputable def c_ref10_plain (F : VDecl → Option Bool) : Con I := ⟨186, ⟨[.val 29], []⟩, [], ⟨[.bool], []⟩, 0, F⟩
noncomputable def c_ref10_listed (F : VCond → Option Bool) : Con I := ⟨162, ⟨[.val 32], []⟩, [], ⟨[.bool], []⟩, 0, F⟩
noncomputable def c_ref10_medium (F : Str → Option Bool) : Con I := ⟨127, ⟨[.str], []⟩, [], ⟨[.bool], []⟩, 0, F⟩
noncomputable def c_ref06_Is (F : Int → Option Bool) : Con I := ⟨170, ⟨[.int .i64], []⟩, [], ⟨[.bool], []⟩, 0, F⟩
noncomputable def c_ref10_all (F : VCond → Option (Bool × Bool)) : Con I := ⟨187, ⟨[.val 32], []⟩, [], ⟨[.bool, .bool], []⟩, 0, F⟩
noncomputable def c_ref10_query (F : VCond → Option Bool) : Con I := ⟨163, ⟨[.val 32], []⟩, [], ⟨[.bool], []⟩, 0, F⟩
noncomputable def c_ref10_Medial (F : VCond → Option Bool) : Con I := ⟨114, ⟨[.val 32], []⟩, [], ⟨[.bool], []⟩, 0, F⟩
noncomputable def c_ref10_Deep (F : VCond → Option Int) : Con I := ⟨133, ⟨[.val 32], []⟩, [], ⟨[.int .i64], []⟩, 0, F⟩
noncomputable def c_ref10_supported (F : VCond → Option Bool) : Con I := ⟨134, ⟨[.val 32], []⟩, [], ⟨[.bool], []⟩, 0, F⟩
noncomputable def c_ref10_Supportive (F : VCond → Option Bool) : Con I := ⟨76, ⟨[.val 32], []⟩, [], ⟨[.bool], []⟩, 0, F⟩
noncomputable def c_ref11_pathed (F : List Str → Option Bool) : Con I := ⟨115, ⟨[.sl 9], []⟩, [], ⟨[.bool], []⟩, 0, F⟩
noncomputable def c_ref11_shaped (F : VRule → Option Bool) : Con I := ⟨57, ⟨[.val 35], []⟩, [], ⟨[.bool], []⟩, 0, F⟩
noncomputable def c_ref08_First (F : VSimple → Option Bool) : Con I := ⟨165, ⟨[.val 144], []⟩, [], ⟨[.bool], []⟩, 0, F⟩
noncomputable def c_ref11_selected (F : List VComplex → Option Int) : Con I := ⟨116, ⟨[.sl 137], []⟩, [], ⟨[.int .i64], []⟩, 0, F⟩
noncomputable def c_ref11_conditioned (F : VRule → Option Int) : Con I := ⟨117, ⟨[.val 35], []⟩, [], ⟨[.int .i64], []⟩, 0, F⟩
noncomputable def c_ref11_Deep (F : List VRule → Option Int) : Con I := ⟨58, ⟨[.sl 35], []⟩, [], ⟨[.int .i64], []⟩, 0, F⟩
noncomputable def c_ref11_Valid (F : List VRule → Option Bool) : Con I := ⟨28, ⟨[.sl 35], []⟩, [], ⟨[.bool], []⟩, 0, F⟩
noncomputable def c_ref11_Check (F : VSheet → Option Int) : Con I := ⟨10, ⟨[.val 24], []⟩, [], ⟨[.int .i64], []⟩, 0, F⟩
noncomputable def c_ref11_Count (F : VSheet → Option (Int × Int)) : Con I := ⟨8, ⟨[.val 24], []⟩, [], ⟨[.int .i64, .int .i64], []⟩, 0, F⟩
noncomputable def c_sheet_CheckRule (F : VRule → Option Int) : Con I := ⟨11, ⟨[.val 35], []⟩, [], ⟨[.int .i64], []⟩, 0, F⟩
noncomputable def c_ref11_CheckRule (F : VRule → Option Int) : Con I := ⟨12, ⟨[.val 35], []⟩, [], ⟨[.int .i64], []⟩, 0, F⟩
noncomputable def c_law11_SheetChecks (F : VSheet × VRule → Option Bool) : Con I := ⟨3, ⟨[.val 24, .val 35], []⟩, [], ⟨[.bool], []⟩, 0, F⟩
noncomputable def c_index1 (F : Str × Str → Option Int) : Con I := ⟨209, ⟨[.str, .str], []⟩, [], ⟨[.int .i64], []⟩, 0, F⟩
theorem ok_index1 : ConOK Tryz.prog (c_index1 index1) := conOK_index1 (by kernel_rfl : Tryz.prog.funcs[209]? = some Tryz.f209) (by kernel_rfl) (by kernel_rfl) Tryz.stringslite_Index_one
noncomputable def c_idxByte (F : Str × Int → Option Int) : Con I := ⟨144, ⟨[.str, .int .u8], []⟩, [], ⟨[.int .i64], []⟩, 0, F⟩
theorem ok_idxByte : ConOK Tryz.prog (c_idxByte idxByte) := conOK_idx (by kernel_rfl : Tryz.prog.funcs[144]? = some Tryz.f144) (by kernel_rfl) (by kernel_rfl) Tryz.stringslite_IndexByte
theorem st_ref08_size (ref08_size : List VComplex × Int → Option Int) (hs : ConOK Tryz.prog (c_ref08_size ref08_size)) : ConOK Tryz.prog (c_ref08_size (ref08_size_B ref08_size)) :=
  okC (A := ⟨[c_ref08_size ref08_size], [], [], 0, [(3, ⟨[5, 6], ⟨[.int .i64, .int .i64], []⟩, [0, 1, 4], [], [], 0, [5], ⟨[.int .i64], []⟩, []⟩), (7, ⟨[5, 7], ⟨[.int .i64, .int .i64], []⟩, [6], [], [], 2, [5], ⟨[.int .i64], []⟩, []⟩), (12, ⟨[5, 9], ⟨[.int .i64, .int .i64], []⟩, [7, 8], [], [], 4, [5], ⟨[.int .i64], []⟩, []⟩)], [], []⟩) (exS := ⟨[.int .i64], []⟩) Tryz.f87 (memC hs memN0) (by kernel_rfl) (by kernel_rfl) fun x => by kernel_rfl
theorem ok_ref08_size : ConOK Tryz.prog (c_ref08_size ref08_size) :=
  ConOK.recE (I := I) (P := Tryz.prog) (f := 87) (inS := ⟨[.sl 137, .int .i64], []⟩) (cst := []) (outS := ⟨[.int .i64], []⟩) (k := 0) (ref08_size_B) (by kernel_rfl) (fun S h => st_ref08_size S h)
theorem ok_ref08_Great : ConOK Tryz.prog (c_ref08_Great ref08_Great) :=
  okC (A := ⟨[c_ref08_size ref08_size], [], [], 0, [], [], []⟩) (exS := ⟨[.bool], []⟩) Tryz.f43 (memC ok_ref08_size memN0) (by kernel_rfl) (by kernel_rfl) fun x => by kernel_rfl
theorem st_ref04_Size (ref04_Size : List VValue × Int → Option Int) (hs : ConOK Tryz.prog (c_ref04_Size ref04_Size)) : ConOK Tryz.prog (c_ref04_Size (ref04_Size_B ref04_Size)) :=
  okC (A := ⟨[c_ref04_Size ref04_Size], [], [], 0, [(3, ⟨[5, 6], ⟨[.int .i64, .int .i64], []⟩, [0, 1, 4], [], [], 0, [5], ⟨[.int .i64], []⟩, []⟩)], [], []⟩) (exS := ⟨[.int .i64], []⟩) Tryz.f29 (memC hs memN0) (by kernel_rfl) (by kernel_rfl) fun x => by kernel_rfl
theorem ok_ref04_Size : ConOK Tryz.prog (c_ref04_Size ref04_Size) :=
  ConOK.recE (I := I) (P := Tryz.prog) (f := 29) (inS := ⟨[.sl 99, .int .i64], []⟩) (cst := []) (outS := ⟨[.int .i64], []⟩) (k := 0) (ref04_Size_B) (by kernel_rfl) (fun S h => st_ref04_Size S h)
theorem ok_ref04_Closer : ConOK Tryz.prog (c_ref04_Closer ref04_Closer) :=
  okC (A := ⟨[], [], [], 0, [], [(6, ⟨[6], ⟨[.bool], []⟩, [3], [], [], 0, [], ⟨[], []⟩, []⟩)], []⟩) (exS := ⟨[.int .u8], []⟩) Tryz.f59 memN0 (by kernel_rfl) (by kernel_rfl) fun x => by kernel_rfl
theorem st_ref04_Deep (ref04_Deep : List VValue → Option Int) (hs : ConOK Tryz.prog (c_ref04_Deep ref04_Deep)) : ConOK Tryz.prog (c_ref04_Deep (ref04_Deep_B ref04_Deep)) :=
  okC (A := ⟨[c_ref04_Closer ref04_Closer, c_ref04_Deep ref04_Deep], [], [], 0, [(3, ⟨[3, 4], ⟨[.int .i64, .int .i64], []⟩, [0, 2], [], [], 0, [3], ⟨[.int .i64], []⟩, []⟩)], [(4, ⟨[3, 4], ⟨[.int .i64, .int .i64], []⟩, [], [], [], 0, [], ⟨[], []⟩, []⟩)], []⟩) (exS := ⟨[.int .i64], []⟩) Tryz.f30 (memC ok_ref04_Closer (memC hs memN0)) (by kernel_rfl) (by kernel_rfl) fun x => by kernel_rfl
theorem ok_ref04_Deep : ConOK Tryz.prog (c_ref04_Deep ref04_Deep) :=
  ConOK.recE (I := I) (P := Tryz.prog) (f := 30) (inS := ⟨[.sl 99], []⟩) (cst := []) (outS := ⟨[.int .i64], []⟩) (k := 0) (ref04_Deep_B) (by kernel_rfl) (fun S h => st_ref04_Deep S h)
theorem ok_ref05_Great : ConOK Tryz.prog (c_ref05_Great ref05_Great) :=
  okC (A := ⟨[c_ref04_Size ref04_Size, c_ref04_Deep ref04_Deep], [], [], 0, [(5, ⟨[3, 4], ⟨[.int .i64, .int .i64], []⟩, [0], [], [], 0, [], ⟨[], []⟩, []⟩)], [], []⟩) (exS := ⟨[.bool], []⟩) Tryz.f44 (memC ok_ref04_Size (memC ok_ref04_Deep memN0)) (by kernel_rfl) (by kernel_rfl) fun x => by kernel_rfl
theorem st_ref10_Size (ref10_Size : VCond × Int → Option Int) (hs : ConOK Tryz.prog (c_ref10_Size ref10_Size)) : ConOK Tryz.prog (c_ref10_Size (ref10_Size_B ref10_Size)) :=
  okC (A := ⟨[c_ref10_Size ref10_Size], [], [], 0, [(3, ⟨[5, 6], ⟨[.int .i64, .int .i64], []⟩, [1, 2, 4], [0], [], 0, [5], ⟨[.int .i64], []⟩, []⟩)], [], []⟩) (exS := ⟨[.int .i64], []⟩) Tryz.f88 (memC hs memN0) (by kernel_rfl) (by kernel_rfl) fun x => by kernel_rfl
theorem ok_ref10_Size : ConOK Tryz.prog (c_ref10_Size ref10_Size) :=
  ConOK.recE (I := I) (P := Tryz.prog) (f := 88) (inS := ⟨[.val 32, .int .i64], []⟩) (cst := []) (outS := ⟨[.int .i64], []⟩) (k := 0) (ref10_Size_B) (by kernel_rfl) (fun S h => st_ref10_Size S h)
theorem st_ref10_long (ref10_long : VCond → Option Bool) (hs : ConOK Tryz.prog (c_ref10_long ref10_long)) : ConOK Tryz.prog (c_ref10_long (ref10_long_B ref10_long)) :=
  okC (A := ⟨[c_ref05_Great ref05_Great, c_ref10_long ref10_long], [(1, [2])], [], 0, [(4, ⟨[3], ⟨[.int .i64], []⟩, [1], [0], [], 0, [], ⟨[], []⟩, []⟩)], [], []⟩) (exS := ⟨[.bool], []⟩) Tryz.f89 (memC ok_ref05_Great (memC hs memN0)) (by kernel_rfl) (by kernel_rfl) fun x => by kernel_rfl
theorem ok_ref10_long : ConOK Tryz.prog (c_ref10_long ref10_long) :=
  ConOK.recE (I := I) (P := Tryz.prog) (f := 89) (inS := ⟨[.val 32], []⟩) (cst := []) (outS := ⟨[.bool], []⟩) (k := 0) (ref10_long_B) (by kernel_rfl) (fun S h => st_ref10_long S h)
theorem ok_ref10_Great : ConOK Tryz.prog (c_ref10_Great ref10_Great) :=
  okC (A := ⟨[c_ref10_Size ref10_Size, c_ref10_long ref10_long], [], [], 0, [], [], []⟩) (exS := ⟨[.bool], []⟩) Tryz.f45 (memC ok_ref10_Size (memC ok_ref10_long memN0)) (by kernel_rfl) (by kernel_rfl) fun x => by kernel_rfl
theorem st_ref11_weighed (ref11_weighed : List VRule × Int → Option Bool) (hs : ConOK Tryz.prog (c_ref11_weighed ref11_weighed)) : ConOK Tryz.prog (c_ref11_weighed (ref11_weighed_B ref11_weighed)) :=
  okC (A := ⟨[c_ref08_Great ref08_Great, c_ref05_Great ref05_Great, c_ref10_Great ref10_Great, c_ref11_weighed ref11_weighed], [], [], 0, [(4, ⟨[5], ⟨[.int .i64], []⟩, [0, 1], [], [], 0, [], ⟨[], []⟩, []⟩), (10, ⟨[7], ⟨[.int .i64], []⟩, [5, 6], [0], [], 2, [], ⟨[], []⟩, []⟩)], [], []⟩) (exS := ⟨[.bool], []⟩) Tryz.f24 (memC ok_ref08_Great (memC ok_ref05_Great (memC ok_ref10_Great (memC hs memN0)))) (by kernel_rfl) (by kernel_rfl) fun x => by kernel_rfl
theorem ok_ref11_weighed : ConOK Tryz.prog (c_ref11_weighed ref11_weighed) :=
  ConOK.recE (I := I) (P := Tryz.prog) (f := 24) (inS := ⟨[.sl 35, .int .i64], []⟩) (cst := []) (outS := ⟨[.bool], []⟩) (k := 0) (ref11_weighed_B) (by kernel_rfl) (fun S h => st_ref11_weighed S h)
theorem st_ref11_Number (ref11_Number : List VRule → Option Int) (hs : ConOK Tryz.prog (c_ref11_Number ref11_Number)) : ConOK Tryz.prog (c_ref11_Number (ref11_Number_B ref11_Number)) :=
  okC (A := ⟨[c_ref11_Number ref11_Number], [], [], 0, [(3, ⟨[3, 4], ⟨[.int .i64, .int .i64], []⟩, [0, 2], [], [], 0, [3], ⟨[.int .i64], []⟩, []⟩)], [], []⟩) (exS := ⟨[.int .i64], []⟩) Tryz.f25 (memC hs memN0) (by kernel_rfl) (by kernel_rfl) fun x => by kernel_rfl
theorem ok_ref11_Number : ConOK Tryz.prog (c_ref11_Number ref11_Number) :=
  ConOK.recE (I := I) (P := Tryz.prog) (f := 25) (inS := ⟨[.sl 35], []⟩) (cst := []) (outS := ⟨[.int .i64], []⟩) (k := 0) (ref11_Number_B) (by kernel_rfl) (fun S h => st_ref11_Number S h)
theorem ok_ref11_Great : ConOK Tryz.prog (c_ref11_Great ref11_Great) :=
  okC (A := ⟨[c_ref11_weighed ref11_weighed, c_ref11_Number ref11_Number], [], [], 0, [], [], []⟩) (exS := ⟨[.bool], []⟩) Tryz.f6 (memC ok_ref11_weighed (memC ok_ref11_Number memN0)) (by kernel_rfl) (by kernel_rfl) fun x => by kernel_rfl
theorem ok_strings_IndexByte : ConOK Tryz.prog (c_strings_IndexByte strings_IndexByte) :=
  okC (A := ⟨[c_idxByte idxByte], [], [], 0, [], [], []⟩) (exS := ⟨[.int .i64], []⟩) Tryz.f93 (memC ok_idxByte memN0) (by kernel_rfl) (by kernel_rfl) fun x => by kernel_rfl
theorem ok_sheet_named_1 : ConOK Tryz.prog (c_sheet_named_1 sheet_named_1) :=
  okC (A := ⟨[c_strings_IndexByte strings_IndexByte], [], [], 0, [], [], []⟩) (exS := ⟨[.bool], []⟩) Tryz.f92 (memC ok_strings_IndexByte memN0) (by kernel_rfl) (by kernel_rfl) fun x => by kernel_rfl
theorem ok_slices_IndexFunc_string_2 : ConOK Tryz.prog (c_slices_IndexFunc_string_2 slices_IndexFunc_string_2) :=
  okC (A := ⟨[c_sheet_named_1 sheet_named_1], [], [], 0, [(2, ⟨[8], ⟨[.int .i64], []⟩, [0, 1, 7], [], [], 0, [], ⟨[], []⟩, []⟩)], [], []⟩) (exS := ⟨[.int .i64], []⟩) Tryz.f143 (memC ok_sheet_named_1 memN0) (by kernel_rfl) (by kernel_rfl) fun x => by kernel_rfl
theorem ok_slices_ContainsFunc_string_2 : ConOK Tryz.prog (c_slices_ContainsFunc_string_2 slices_ContainsFunc_string_2) :=
  okC (A := ⟨[c_slices_IndexFunc_string_2 slices_IndexFunc_string_2], [], [], 0, [], [], []⟩) (exS := ⟨[.bool], []⟩) Tryz.f91 (memC ok_slices_IndexFunc_string_2 memN0) (by kernel_rfl) (by kernel_rfl) fun x => by kernel_rfl
theorem ok_sheet_named : ConOK Tryz.prog (c_sheet_named sheet_named) :=
  okC (A := ⟨[c_slices_ContainsFunc_string_2 slices_ContainsFunc_string_2], [], [], 0, [], [], []⟩) (exS := ⟨[.bool], []⟩) Tryz.f48 (memC ok_slices_ContainsFunc_string_2 memN0) (by kernel_rfl) (by kernel_rfl) fun x => by kernel_rfl
theorem ok_sheet_look_1 : ConOK Tryz.prog (c_sheet_look_1 sheet_look_1) :=
  okC (A := ⟨[c_sheet_named sheet_named], [], [], 0, [], [], []⟩) (exS := ⟨[.bool], []⟩) Tryz.f47 (memC ok_sheet_named memN0) (by kernel_rfl) (by kernel_rfl) fun x => by kernel_rfl
theorem ok_slices_IndexFunc_string : ConOK Tryz.prog (c_slices_IndexFunc_string slices_IndexFunc_string) :=
  okC (A := ⟨[c_sheet_look_1 sheet_look_1], [], [], 0, [(2, ⟨[8], ⟨[.int .i64], []⟩, [0, 1, 7], [], [], 0, [], ⟨[], []⟩, []⟩)], [], []⟩) (exS := ⟨[.int .i64], []⟩) Tryz.f90 (memC ok_sheet_look_1 memN0) (by kernel_rfl) (by kernel_rfl) fun x => by kernel_rfl
theorem ok_slices_ContainsFunc_string : ConOK Tryz.prog (c_slices_ContainsFunc_string slices_ContainsFunc_string) :=
  okC (A := ⟨[c_slices_IndexFunc_string slices_IndexFunc_string], [], [], 0, [], [], []⟩) (exS := ⟨[.bool], []⟩) Tryz.f46 (memC ok_slices_IndexFunc_string memN0) (by kernel_rfl) (by kernel_rfl) fun x => by kernel_rfl
theorem st_sheet_selected (sheet_selected : List VComplex → Option Int) (hs : ConOK Tryz.prog (c_sheet_selected sheet_selected)) : ConOK Tryz.prog (c_sheet_selected (sheet_selected_B sheet_selected)) :=
  okC (A := ⟨[c_sheet_selected sheet_selected], [], [], 0, [(3, ⟨[3, 14], ⟨[.int .i64, .int .i64], []⟩, [2, 12, 13], [], [], 0, [3], ⟨[.int .i64], []⟩, []⟩), (6, ⟨[3, 21], ⟨[.int .i64, .int .i64], []⟩, [14, 19, 20], [], [], 2, [3], ⟨[.int .i64], []⟩, []⟩), (9, ⟨[3, 28], ⟨[.int .i64, .int .i64], []⟩, [21, 26, 27], [], [], 4, [3], ⟨[.int .i64], []⟩, []⟩)], [(15, ⟨[3, 28], ⟨[.int .i64, .int .i64], []⟩, [], [], [], 0, [], ⟨[], []⟩, []⟩)], []⟩) (exS := ⟨[.int .i64], []⟩) Tryz.f49 (memC hs memN0) (by kernel_rfl) (by kernel_rfl) fun x => by kernel_rfl
theorem ok_sheet_selected : ConOK Tryz.prog (c_sheet_selected sheet_selected) :=
  ConOK.recE (I := I) (P := Tryz.prog) (f := 49) (inS := ⟨[.sl 137], []⟩) (cst := []) (outS := ⟨[.int .i64], []⟩) (k := 0) (sheet_selected_B) (by kernel_rfl) (fun S h => st_sheet_selected S h)
theorem ok_seltext_zero : ConOK Tryz.prog (c_seltext_zero seltext_zero) :=
  okC (A := ⟨[c_strings_IndexByte strings_IndexByte], [], [], 0, [], [], []⟩) (exS := ⟨[.bool], []⟩) Tryz.f198 (memC ok_strings_IndexByte memN0) (by kernel_rfl) (by kernel_rfl) fun x => by kernel_rfl
theorem ok_seltext_named : ConOK Tryz.prog (c_seltext_named seltext_named) :=
  okC (A := ⟨[c_seltext_zero seltext_zero], [], [], 0, [], [], []⟩) (exS := ⟨[.bool], []⟩) Tryz.f194 (memC ok_seltext_zero memN0) (by kernel_rfl) (by kernel_rfl) fun x => by kernel_rfl
theorem ok_input_Lower : ConOK Tryz.prog (c_input_Lower input_Lower) :=
  okC (A := ⟨[], [], [], 0, [(3, ⟨[10], ⟨[.int .i64], [(0, .sl 5)]⟩, [2, 3, 8, 9], [], [0], 0, [], ⟨[], [(0, .sl 5)]⟩, [0]⟩)], [(7, ⟨[10], ⟨[.int .i64], [(0, .sl 5)]⟩, [], [], [0], 0, [], ⟨[], []⟩, []⟩)], []⟩) (exS := ⟨[.str], []⟩) Tryz.f64 memN0 (by kernel_rfl) (by kernel_rfl) fun x => by kernel_rfl
theorem ok_seltext_small : ConOK Tryz.prog (c_seltext_small seltext_small) :=
  okC (A := ⟨[c_seltext_named seltext_named, c_input_Lower input_Lower], [], [], 0, [], [], []⟩) (exS := ⟨[.bool], []⟩) Tryz.f176 (memC ok_seltext_named (memC ok_input_Lower memN0)) (by kernel_rfl) (by kernel_rfl) fun x => by kernel_rfl
theorem ok_seltext_lists : ConOK Tryz.prog (c_seltext_lists seltext_lists) :=
  okC (A := ⟨[], [], [], 0, [], [(4, ⟨[6], ⟨[.bool], []⟩, [1, 5], [0], [], 0, [], ⟨[], []⟩, []⟩), (7, ⟨[11], ⟨[.bool], []⟩, [], [], [], 0, [], ⟨[], []⟩, []⟩), (10, ⟨[14], ⟨[.bool], []⟩, [], [], [], 0, [], ⟨[], []⟩, []⟩)], []⟩) (exS := ⟨[.bool, .bool], []⟩) Tryz.f195 memN0 (by kernel_rfl) (by kernel_rfl) fun x => by kernel_rfl
theorem ok_seltext_place_in : ConOK Tryz.prog (c_seltext_place_in seltext_place_in) :=
  okC (A := ⟨[], [], [], 0, [], [], []⟩) (exS := ⟨[.optr 0, .bool], [(0, .row 148)]⟩) Tryz.f196 memN0 (by kernel_rfl) (by kernel_rfl) fun x => by kernel_rfl
theorem ok_anb_within : ConOK Tryz.prog (c_anb_within anb_within) :=
  okC (A := ⟨[], [], [], 0, [], [], []⟩) (exS := ⟨[.bool], []⟩) Tryz.f207 memN0 (by kernel_rfl) (by kernel_rfl) fun x => by kernel_rfl
theorem ok_anb_Check : ConOK Tryz.prog (c_anb_Check anb_Check) :=
  okC (A := ⟨[c_anb_within anb_within], [], [], 0, [], [], []⟩) (exS := ⟨[.int .i64], []⟩) Tryz.f199 (memC ok_anb_within memN0) (by kernel_rfl) (by kernel_rfl) fun x => by kernel_rfl
theorem ok_seltext_simple_1 (seltext_whole : VComplex × Vseltext_place × Bool → Option Bool) (h_seltext_whole : ConOK Tryz.prog (c_seltext_whole seltext_whole)) : ConOK Tryz.prog (c_seltext_simple_1 (seltext_simple_1 seltext_whole)) :=
  okC (A := ⟨[c_seltext_whole seltext_whole], [], [], 2, [], [], []⟩) (exS := ⟨[.bool], []⟩) Tryz.f197 (memC h_seltext_whole memN0) (by kernel_rfl) (by kernel_rfl) fun x => by kernel_rfl
theorem ok_slices_IndexFunc_Complex_2 (seltext_whole : VComplex × Vseltext_place × Bool → Option Bool) (h_seltext_whole : ConOK Tryz.prog (c_seltext_whole seltext_whole)) : ConOK Tryz.prog (c_slices_IndexFunc_Complex_2 (slices_IndexFunc_Complex_2 seltext_whole)) :=
  okC (A := ⟨[c_seltext_simple_1 (seltext_simple_1 seltext_whole)], [], [], 2, [(2, ⟨[8], ⟨[.int .i64], []⟩, [0, 1, 7], [], [], 0, [], ⟨[], []⟩, []⟩)], [], []⟩) (exS := ⟨[.int .i64], []⟩) Tryz.f145 (memC (ok_seltext_simple_1 seltext_whole h_seltext_whole) memN0) (by kernel_rfl) (by kernel_rfl) fun x => by kernel_rfl
theorem ok_slices_ContainsFunc_Complex_2 (seltext_whole : VComplex × Vseltext_place × Bool → Option Bool) (h_seltext_whole : ConOK Tryz.prog (c_seltext_whole seltext_whole)) : ConOK Tryz.prog (c_slices_ContainsFunc_Complex_2 (slices_ContainsFunc_Complex_2 seltext_whole)) :=
  okC (A := ⟨[c_slices_IndexFunc_Complex_2 (slices_IndexFunc_Complex_2 seltext_whole)], [], [], 2, [], [], []⟩) (exS := ⟨[.bool], []⟩) Tryz.f94 (memC (ok_slices_IndexFunc_Complex_2 seltext_whole h_seltext_whole) memN0) (by kernel_rfl) (by kernel_rfl) fun x => by kernel_rfl
theorem ok_seltext_simple (seltext_whole : VComplex × Vseltext_place × Bool → Option Bool) (h_seltext_whole : ConOK Tryz.prog (c_seltext_whole seltext_whole)) : ConOK Tryz.prog (c_seltext_simple (seltext_simple seltext_whole)) :=
  okC (A := ⟨[c_seltext_lists seltext_lists, c_seltext_place_in seltext_place_in, c_slices_ContainsFunc_Complex_2 (slices_ContainsFunc_Complex_2 seltext_whole), c_seltext_named seltext_named, c_seltext_small seltext_small, c_seltext_zero seltext_zero, c_anb_Check anb_Check], [], [], 0, [], [(8, ⟨[], ⟨[], []⟩, [2], [0], [], 0, [], ⟨[], []⟩, []⟩), (15, ⟨[89], ⟨[.bool], []⟩, [10, 88], [], [], 0, [], ⟨[], []⟩, []⟩)], []⟩) (exS := ⟨[.bool], []⟩) Tryz.f177 (memC ok_seltext_lists (memC ok_seltext_place_in (memC (ok_slices_ContainsFunc_Complex_2 seltext_whole h_seltext_whole) (memC ok_seltext_named (memC ok_seltext_small (memC ok_seltext_zero (memC ok_anb_Check memN0))))))) (by kernel_rfl) (by kernel_rfl) fun x => by kernel_rfl
theorem ok_seltext_compound (seltext_whole : VComplex × Vseltext_place × Bool → Option Bool) (h_seltext_whole : ConOK Tryz.prog (c_seltext_whole seltext_whole)) : ConOK Tryz.prog (c_seltext_compound (seltext_compound seltext_whole)) :=
  okC (A := ⟨[c_seltext_small seltext_small, c_seltext_simple (seltext_simple seltext_whole)], [], [], 0, [(4, ⟨[30], ⟨[.int .i64], []⟩, [2, 3, 28, 29], [0, 1], [], 0, [], ⟨[], []⟩, []⟩)], [], []⟩) (exS := ⟨[.bool], []⟩) Tryz.f148 (memC ok_seltext_small (memC (ok_seltext_simple seltext_whole h_seltext_whole) memN0)) (by kernel_rfl) (by kernel_rfl) fun x => by kernel_rfl
theorem ok_seltext_whole_1 (seltext_whole : VComplex × Vseltext_place × Bool → Option Bool) (h_seltext_whole : ConOK Tryz.prog (c_seltext_whole seltext_whole)) : ConOK Tryz.prog (c_seltext_whole_1 (seltext_whole_1 seltext_whole)) :=
  okC (A := ⟨[c_seltext_compound (seltext_compound seltext_whole)], [], [], 1, [], [], []⟩) (exS := ⟨[.bool], []⟩) Tryz.f147 (memC (ok_seltext_compound seltext_whole h_seltext_whole) memN0) (by kernel_rfl) (by kernel_rfl) fun x => by kernel_rfl
theorem ok_slices_IndexFunc_Compound (seltext_whole : VComplex × Vseltext_place × Bool → Option Bool) (h_seltext_whole : ConOK Tryz.prog (c_seltext_whole seltext_whole)) : ConOK Tryz.prog (c_slices_IndexFunc_Compound (slices_IndexFunc_Compound seltext_whole)) :=
  okC (A := ⟨[c_seltext_whole_1 (seltext_whole_1 seltext_whole)], [], [], 1, [(2, ⟨[8], ⟨[.int .i64], []⟩, [0, 1, 7], [], [], 0, [], ⟨[], []⟩, []⟩)], [], []⟩) (exS := ⟨[.int .i64], []⟩) Tryz.f175 (memC (ok_seltext_whole_1 seltext_whole h_seltext_whole) memN0) (by kernel_rfl) (by kernel_rfl) fun x => by kernel_rfl
theorem ok_slices_ContainsFunc_Compound (seltext_whole : VComplex × Vseltext_place × Bool → Option Bool) (h_seltext_whole : ConOK Tryz.prog (c_seltext_whole seltext_whole)) : ConOK Tryz.prog (c_slices_ContainsFunc_Compound (slices_ContainsFunc_Compound seltext_whole)) :=
  okC (A := ⟨[c_slices_IndexFunc_Compound (slices_IndexFunc_Compound seltext_whole)], [], [], 1, [], [], []⟩) (exS := ⟨[.bool], []⟩) Tryz.f146 (memC (ok_slices_IndexFunc_Compound seltext_whole h_seltext_whole) memN0) (by kernel_rfl) (by kernel_rfl) fun x => by kernel_rfl
theorem st_seltext_whole (seltext_whole : VComplex × Vseltext_place × Bool → Option Bool) (hs : ConOK Tryz.prog (c_seltext_whole seltext_whole)) : ConOK Tryz.prog (c_seltext_whole (seltext_whole_B seltext_whole)) :=
  okC (A := ⟨[c_slices_ContainsFunc_Compound (slices_ContainsFunc_Compound seltext_whole)], [], [], 0, [(4, ⟨[38], ⟨[.int .i64], []⟩, [3, 4, 36, 37], [0, 1], [], 0, [], ⟨[], []⟩, []⟩)], [], []⟩) (exS := ⟨[.bool], []⟩) Tryz.f96 (memC (ok_slices_ContainsFunc_Compound seltext_whole hs) memN0) (by kernel_rfl) (by kernel_rfl) fun x => by kernel_rfl
theorem ok_seltext_whole : ConOK Tryz.prog (c_seltext_whole seltext_whole) :=
  ConOK.recE (I := I) (P := Tryz.prog) (f := 96) (inS := ⟨[.val 137, .val 148, .bool], []⟩) (cst := []) (outS := ⟨[.bool], []⟩) (k := 0) (seltext_whole_B) (by kernel_rfl) (fun S h => st_seltext_whole S h)
theorem ok_seltext_Check_1 : ConOK Tryz.prog (c_seltext_Check_1 seltext_Check_1) :=
  okC (A := ⟨[c_seltext_whole seltext_whole], [], [], 0, [], [], []⟩) (exS := ⟨[.bool], []⟩) Tryz.f95 (memC ok_seltext_whole memN0) (by kernel_rfl) (by kernel_rfl) fun x => by kernel_rfl
theorem ok_slices_IndexFunc_Complex : ConOK Tryz.prog (c_slices_IndexFunc_Complex slices_IndexFunc_Complex) :=
  okC (A := ⟨[c_seltext_Check_1 seltext_Check_1], [], [], 0, [(2, ⟨[8], ⟨[.int .i64], []⟩, [0, 1, 7], [], [], 0, [], ⟨[], []⟩, []⟩)], [], []⟩) (exS := ⟨[.int .i64], []⟩) Tryz.f145 (memC ok_seltext_Check_1 memN0) (by kernel_rfl) (by kernel_rfl) fun x => by kernel_rfl
theorem ok_slices_ContainsFunc_Complex : ConOK Tryz.prog (c_slices_ContainsFunc_Complex slices_ContainsFunc_Complex) :=
  okC (A := ⟨[c_slices_IndexFunc_Complex slices_IndexFunc_Complex], [], [], 0, [], [], []⟩) (exS := ⟨[.bool], []⟩) Tryz.f94 (memC ok_slices_IndexFunc_Complex memN0) (by kernel_rfl) (by kernel_rfl) fun x => by kernel_rfl
theorem st_seltext_count (seltext_count : List VComplex → Option Int) (hs : ConOK Tryz.prog (c_seltext_count seltext_count)) : ConOK Tryz.prog (c_seltext_count (seltext_count_B seltext_count)) :=
  okC (A := ⟨[c_seltext_count seltext_count], [], [], 0, [(3, ⟨[3, 14], ⟨[.int .i64, .int .i64], []⟩, [2, 12, 13], [], [], 0, [3], ⟨[.int .i64], []⟩, []⟩), (6, ⟨[3, 21], ⟨[.int .i64, .int .i64], []⟩, [14, 19, 20], [], [], 2, [3], ⟨[.int .i64], []⟩, []⟩), (9, ⟨[3, 28], ⟨[.int .i64, .int .i64], []⟩, [21, 26, 27], [], [], 4, [3], ⟨[.int .i64], []⟩, []⟩)], [], []⟩) (exS := ⟨[.int .i64], []⟩) Tryz.f97 (memC hs memN0) (by kernel_rfl) (by kernel_rfl) fun x => by kernel_rfl
theorem ok_seltext_count : ConOK Tryz.prog (c_seltext_count seltext_count) :=
  ConOK.recE (I := I) (P := Tryz.prog) (f := 97) (inS := ⟨[.sl 137], []⟩) (cst := []) (outS := ⟨[.int .i64], []⟩) (k := 0) (seltext_count_B) (by kernel_rfl) (fun S h => st_seltext_count S h)
theorem ok_seltext_Check : ConOK Tryz.prog (c_seltext_Check seltext_Check) :=
  okC (A := ⟨[c_slices_ContainsFunc_Complex slices_ContainsFunc_Complex, c_seltext_count seltext_count], [], [], 0, [], [], []⟩) (exS := ⟨[.int .i64], []⟩) Tryz.f50 (memC ok_slices_ContainsFunc_Complex (memC ok_seltext_count memN0)) (by kernel_rfl) (by kernel_rfl) fun x => by kernel_rfl
theorem ok_sheet_empty : ConOK Tryz.prog (c_sheet_empty sheet_empty) :=
  okC (A := ⟨[], [], [], 0, [], [], []⟩) (exS := ⟨[.bool], []⟩) Tryz.f51 memN0 (by kernel_rfl) (by kernel_rfl) fun x => by kernel_rfl
theorem ok_nest_closer : ConOK Tryz.prog (c_nest_closer nest_closer) :=
  okC (A := ⟨[], [], [], 0, [], [(7, ⟨[6], ⟨[.bool], []⟩, [0], [], [], 0, [], ⟨[], []⟩, []⟩)], []⟩) (exS := ⟨[.int .u8], []⟩) Tryz.f129 memN0 (by kernel_rfl) (by kernel_rfl) fun x => by kernel_rfl
theorem st_nest_look (nest_look : List VValue × Int → Option Vnest_found) (hs : ConOK Tryz.prog (c_nest_look nest_look)) : ConOK Tryz.prog (c_nest_look (nest_look_B nest_look)) :=
  okC (A := ⟨[c_nest_closer nest_closer, c_nest_look nest_look], [], [], 0, [(3, ⟨[12], ⟨[.int .i64], [(1, .row 113)]⟩, [1, 4, 5, 10, 11], [0], [1], 0, [], ⟨[], [(1, .row 113)]⟩, [1]⟩)], [(9, ⟨[], ⟨[], [(1, .row 113)]⟩, [7, 8, 12], [2], [1], 0, [], ⟨[], []⟩, []⟩), (12, ⟨[12], ⟨[.int .i64], [(1, .row 113)]⟩, [], [], [1], 0, [], ⟨[], []⟩, []⟩)], []⟩) (exS := ⟨[.optr 0], [(0, .row 113)]⟩) Tryz.f72 (memC ok_nest_closer (memC hs memN0)) (by kernel_rfl) (by kernel_rfl) fun x => by kernel_rfl
theorem ok_nest_look : ConOK Tryz.prog (c_nest_look nest_look) :=
  ConOK.recE (I := I) (P := Tryz.prog) (f := 72) (inS := ⟨[.sl 99, .int .u8], []⟩) (cst := []) (outS := ⟨[.val 113], []⟩) (k := 0) (nest_look_B) (by kernel_rfl) (fun S h => st_nest_look S h)
theorem ok_nest_Check : ConOK Tryz.prog (c_nest_Check nest_Check) :=
  okC (A := ⟨[c_nest_look nest_look], [], [], 0, [], [], []⟩) (exS := ⟨[.int .i64], []⟩) Tryz.f36 (memC ok_nest_look memN0) (by kernel_rfl) (by kernel_rfl) fun x => by kernel_rfl
theorem ok_nest_Depth : ConOK Tryz.prog (c_nest_Depth nest_Depth) :=
  okC (A := ⟨[c_nest_Check nest_Check, c_nest_look nest_look], [], [], 0, [], [], []⟩) (exS := ⟨[.int .i64, .int .i64], []⟩) Tryz.f52 (memC ok_nest_Check (memC ok_nest_look memN0)) (by kernel_rfl) (by kernel_rfl) fun x => by kernel_rfl
theorem st_nest_flat_3 (nest_flat_3 : List VValue × List VToken → Option (List VToken)) (hs : ConOK Tryz.prog (c_nest_flat_3 nest_flat_3)) : ConOK Tryz.prog (c_nest_flat_3 (nest_flat_3_B nest_flat_3)) :=
  okC (A := ⟨[c_nest_closer nest_closer, c_nest_flat_3 nest_flat_3], [(4, [3]), (7, [6])], [], 1, [(2, ⟨[0, 10], ⟨[.own 1001, .int .i64], [(1001, .sl 97)]⟩, [4, 8, 9], [], [], 0, [0], ⟨[.own 1001], [(1001, .sl 97)]⟩, [1001]⟩)], [(8, ⟨[0, 10], ⟨[.own 1103, .int .i64], [(1103, .sl 97)]⟩, [], [], [], 0, [], ⟨[], []⟩, []⟩)], []⟩) (exS := ⟨[.own 1], [(1, .sl 97)]⟩) Tryz.f149 (memC ok_nest_closer (memC hs memN0)) (by kernel_rfl) (by kernel_rfl) fun x => by kernel_rfl
theorem ok_nest_flat_3 : ConOK Tryz.prog (c_nest_flat_3 nest_flat_3) :=
  ConOK.recE (I := I) (P := Tryz.prog) (f := 149) (inS := ⟨[.own 0, .sl 99], [(0, .sl 97)]⟩) (cst := []) (outS := ⟨[.own 1], [(1, .sl 97)]⟩) (k := 1) (nest_flat_3_B) (by kernel_rfl) (fun S h => st_nest_flat_3 S h)
theorem ok_nest_flat_2 : ConOK Tryz.prog (c_nest_flat_2 nest_flat_2) :=
  okC (A := ⟨[c_nest_closer nest_closer, c_nest_flat_3 nest_flat_3], [(4, [3]), (7, [6])], [], 0, [(2, ⟨[0, 10], ⟨[.own 1105, .int .i64], [(1105, .sl 97)]⟩, [4, 8, 9], [], [], 0, [0], ⟨[.own 1105], [(1105, .sl 97)]⟩, [1105]⟩)], [(8, ⟨[0, 10], ⟨[.own 1207, .int .i64], [(1207, .sl 97)]⟩, [], [], [], 0, [], ⟨[], []⟩, []⟩)], []⟩) (exS := ⟨[.own 0], [(0, .sl 97)]⟩) Tryz.f149 (memC ok_nest_closer (memC ok_nest_flat_3 memN0)) (by kernel_rfl) (by kernel_rfl) fun x => by kernel_rfl
theorem ok_nest_Flat : ConOK Tryz.prog (c_nest_Flat nest_Flat) :=
  okC (A := ⟨[c_nest_Check nest_Check, c_nest_flat_2 nest_flat_2], [], [], 0, [], [], []⟩) (exS := ⟨[.sl 97, .int .i64], []⟩) Tryz.f98 (memC ok_nest_Check (memC ok_nest_flat_2 memN0)) (by kernel_rfl) (by kernel_rfl) fun x => by kernel_rfl
theorem ok_stringslite_HasPrefix : ConOK Tryz.prog (c_stringslite_HasPrefix stringslite_HasPrefix) :=
  okC (A := ⟨[], [], [], 0, [], [], []⟩) (exS := ⟨[.bool], []⟩) Tryz.f154 memN0 (by kernel_rfl) (by kernel_rfl) fun x => by kernel_rfl
theorem ok_strings_HasPrefix : ConOK Tryz.prog (c_strings_HasPrefix strings_HasPrefix) :=
  okC (A := ⟨[c_stringslite_HasPrefix stringslite_HasPrefix], [], [], 0, [], [], []⟩) (exS := ⟨[.bool], []⟩) Tryz.f106 (memC ok_stringslite_HasPrefix memN0) (by kernel_rfl) (by kernel_rfl) fun x => by kernel_rfl
theorem ok_decl_named : ConOK Tryz.prog (c_decl_named decl_named) :=
  okC (A := ⟨[c_strings_IndexByte strings_IndexByte, c_strings_HasPrefix strings_HasPrefix, c_input_Lower input_Lower], [], [], 0, [], [], []⟩) (exS := ⟨[.bool], []⟩) Tryz.f99 (memC ok_strings_IndexByte (memC ok_strings_HasPrefix (memC ok_input_Lower memN0))) (by kernel_rfl) (by kernel_rfl) fun x => by kernel_rfl
theorem ok_stringslite_TrimPrefix : ConOK Tryz.prog (c_stringslite_TrimPrefix stringslite_TrimPrefix) :=
  okC (A := ⟨[c_stringslite_HasPrefix stringslite_HasPrefix], [], [], 0, [], [], []⟩) (exS := ⟨[.str], []⟩) Tryz.f208 (memC ok_stringslite_HasPrefix memN0) (by kernel_rfl) (by kernel_rfl) fun x => by kernel_rfl
theorem ok_strings_TrimPrefix : ConOK Tryz.prog (c_strings_TrimPrefix strings_TrimPrefix) :=
  okC (A := ⟨[c_stringslite_TrimPrefix stringslite_TrimPrefix], [], [], 0, [], [], []⟩) (exS := ⟨[.str], []⟩) Tryz.f200 (memC ok_stringslite_TrimPrefix memN0) (by kernel_rfl) (by kernel_rfl) fun x => by kernel_rfl
theorem ok_glue_digit : ConOK Tryz.prog (c_glue_digit glue_digit) :=
  okC (A := ⟨[], [], [], 0, [], [], []⟩) (exS := ⟨[.bool], []⟩) Tryz.f201 memN0 (by kernel_rfl) (by kernel_rfl) fun x => by kernel_rfl
theorem ok_glue_numeric : ConOK Tryz.prog (c_glue_numeric glue_numeric) :=
  okC (A := ⟨[c_strings_TrimPrefix strings_TrimPrefix, c_glue_digit glue_digit], [], [], 0, [], [], []⟩) (exS := ⟨[.bool], []⟩) Tryz.f178 (memC ok_strings_TrimPrefix (memC ok_glue_digit memN0)) (by kernel_rfl) (by kernel_rfl) fun x => by kernel_rfl
theorem ok_glue_letter : ConOK Tryz.prog (c_glue_letter glue_letter) :=
  okC (A := ⟨[], [], [], 0, [], [], []⟩) (exS := ⟨[.bool], []⟩) Tryz.f202 memN0 (by kernel_rfl) (by kernel_rfl) fun x => by kernel_rfl
theorem ok_glue_named : ConOK Tryz.prog (c_glue_named glue_named) :=
  okC (A := ⟨[c_glue_letter glue_letter, c_glue_digit glue_digit], [], [], 0, [], [], []⟩) (exS := ⟨[.bool], []⟩) Tryz.f179 (memC ok_glue_letter (memC ok_glue_digit memN0)) (by kernel_rfl) (by kernel_rfl) fun x => by kernel_rfl
theorem ok_strings_Index : ConOK Tryz.prog (c_strings_Index strings_Index) :=
  okC (A := ⟨[c_index1 index1], [], [], 0, [], [], []⟩) (exS := ⟨[.int .i64], []⟩) Tryz.f203 (memC ok_index1 memN0) (by kernel_rfl) (by kernel_rfl) fun x => by kernel_rfl
theorem ok_strings_Contains : ConOK Tryz.prog (c_strings_Contains strings_Contains) :=
  okC (A := ⟨[c_strings_Index strings_Index], [], [], 0, [], [], []⟩) (exS := ⟨[.bool], []⟩) Tryz.f180 (memC ok_strings_Index memN0) (by kernel_rfl) (by kernel_rfl) fun x => by kernel_rfl
theorem ok_glue_fine : ConOK Tryz.prog (c_glue_fine glue_fine) :=
  okC (A := ⟨[c_strings_IndexByte strings_IndexByte, c_glue_numeric glue_numeric, c_strings_HasPrefix strings_HasPrefix, c_glue_named glue_named, c_strings_Contains strings_Contains], [], [], 0, [], [(8, ⟨[3, 4, 5, 6, 7, 25], ⟨[.bool, .bool, .bool, .bool, .bool, .bool], []⟩, [1, 16], [], [], 0, [], ⟨[], []⟩, []⟩), (14, ⟨[3, 4, 5, 6, 7, 63], ⟨[.bool, .bool, .bool, .bool, .bool, .bool], []⟩, [], [], [], 0, [], ⟨[], []⟩, []⟩), (22, ⟨[4, 5, 6, 7, 94], ⟨[.bool, .bool, .bool, .bool, .bool], []⟩, [3], [], [], 0, [], ⟨[], []⟩, []⟩), (24, ⟨[3, 4, 5, 6, 7], ⟨[.bool, .bool, .bool, .bool, .bool], []⟩, [1], [0], [], 0, [], ⟨[], []⟩, []⟩)], []⟩) (exS := ⟨[.bool], []⟩) Tryz.f150 (memC ok_strings_IndexByte (memC ok_glue_numeric (memC ok_strings_HasPrefix (memC ok_glue_named (memC ok_strings_Contains memN0))))) (by kernel_rfl) (by kernel_rfl) fun x => by kernel_rfl
theorem ok_glue_piece_1 : ConOK Tryz.prog (c_glue_piece_1 glue_piece_1) :=
  okC (A := ⟨[], [], [], 1, [], [], []⟩) (exS := ⟨[.bool], []⟩) Tryz.f181 memN0 (by kernel_rfl) (by kernel_rfl) fun x => by kernel_rfl
theorem ok_input_Alike : ConOK Tryz.prog (c_input_Alike input_Alike) :=
  okC (A := ⟨[c_input_Lower input_Lower], [], [], 0, [], [], []⟩) (exS := ⟨[.bool], []⟩) Tryz.f119 (memC ok_input_Lower memN0) (by kernel_rfl) (by kernel_rfl) fun x => by kernel_rfl
theorem ok_glue_piece : ConOK Tryz.prog (c_glue_piece glue_piece) :=
  okC (A := ⟨[c_glue_piece_1 glue_piece_1, c_input_Alike input_Alike], [], [], 0, [], [(11, ⟨[5], ⟨[.int .i64], []⟩, [3], [0], [], 0, [], ⟨[], []⟩, []⟩)], []⟩) (exS := ⟨[.int .i64], []⟩) Tryz.f151 (memC ok_glue_piece_1 (memC ok_input_Alike memN0)) (by kernel_rfl) (by kernel_rfl) fun x => by kernel_rfl
theorem ok_glue_Check : ConOK Tryz.prog (c_glue_Check glue_Check) :=
  okC (A := ⟨[c_glue_fine glue_fine, c_glue_piece glue_piece], [], [], 0, [(4, ⟨[10], ⟨[.int .i64], []⟩, [0, 8, 9], [], [], 0, [], ⟨[], []⟩, []⟩)], [], []⟩) (exS := ⟨[.int .i64], []⟩) Tryz.f100 (memC ok_glue_fine (memC ok_glue_piece memN0)) (by kernel_rfl) (by kernel_rfl) fun x => by kernel_rfl
theorem ok_decl_is : ConOK Tryz.prog (c_decl_is decl_is) :=
  okC (A := ⟨[], [], [], 0, [], [], []⟩) (exS := ⟨[.bool], []⟩) Tryz.f104 memN0 (by kernel_rfl) (by kernel_rfl) fun x => by kernel_rfl
theorem ok_decl_closers_1 (decl_closers : List VValue → Option Bool) (h_decl_closers : ConOK Tryz.prog (c_decl_closers decl_closers)) : ConOK Tryz.prog (c_decl_closers_1 (decl_closers_1 decl_closers)) :=
  okC (A := ⟨[c_decl_is decl_is, c_decl_closers decl_closers], [], [], 0, [], [], []⟩) (exS := ⟨[.bool], []⟩) Tryz.f152 (memC ok_decl_is (memC h_decl_closers memN0)) (by kernel_rfl) (by kernel_rfl) fun x => by kernel_rfl
theorem ok_slices_IndexFunc_Value (decl_closers : List VValue → Option Bool) (h_decl_closers : ConOK Tryz.prog (c_decl_closers decl_closers)) : ConOK Tryz.prog (c_slices_IndexFunc_Value (slices_IndexFunc_Value decl_closers)) :=
  okC (A := ⟨[c_decl_closers_1 (decl_closers_1 decl_closers)], [], [], 0, [(2, ⟨[8], ⟨[.int .i64], []⟩, [0, 1, 7], [], [], 0, [], ⟨[], []⟩, []⟩)], [], []⟩) (exS := ⟨[.int .i64], []⟩) Tryz.f153 (memC (ok_decl_closers_1 decl_closers h_decl_closers) memN0) (by kernel_rfl) (by kernel_rfl) fun x => by kernel_rfl
theorem ok_slices_ContainsFunc_Value (decl_closers : List VValue → Option Bool) (h_decl_closers : ConOK Tryz.prog (c_decl_closers decl_closers)) : ConOK Tryz.prog (c_slices_ContainsFunc_Value (slices_ContainsFunc_Value decl_closers)) :=
  okC (A := ⟨[c_slices_IndexFunc_Value (slices_IndexFunc_Value decl_closers)], [], [], 0, [], [], []⟩) (exS := ⟨[.bool], []⟩) Tryz.f102 (memC (ok_slices_IndexFunc_Value decl_closers h_decl_closers) memN0) (by kernel_rfl) (by kernel_rfl) fun x => by kernel_rfl
theorem st_decl_closers (decl_closers : List VValue → Option Bool) (hs : ConOK Tryz.prog (c_decl_closers decl_closers)) : ConOK Tryz.prog (c_decl_closers (decl_closers_B decl_closers)) :=
  okC (A := ⟨[c_slices_ContainsFunc_Value (slices_ContainsFunc_Value decl_closers)], [], [], 0, [], [], []⟩) (exS := ⟨[.bool], []⟩) Tryz.f101 (memC (ok_slices_ContainsFunc_Value decl_closers hs) memN0) (by kernel_rfl) (by kernel_rfl) fun x => by kernel_rfl
theorem ok_decl_closers : ConOK Tryz.prog (c_decl_closers decl_closers) :=
  ConOK.recE (I := I) (P := Tryz.prog) (f := 101) (inS := ⟨[.sl 99], []⟩) (cst := []) (outS := ⟨[.bool], []⟩) (k := 0) (decl_closers_B) (by kernel_rfl) (fun S h => st_decl_closers S h)
theorem ok_decl_bang : ConOK Tryz.prog (c_decl_bang decl_bang) :=
  okC (A := ⟨[c_decl_is decl_is], [], [], 0, [], [], []⟩) (exS := ⟨[.bool], []⟩) Tryz.f105 (memC ok_decl_is memN0) (by kernel_rfl) (by kernel_rfl) fun x => by kernel_rfl
theorem ok_decl_Check_1 : ConOK Tryz.prog (c_decl_Check_1 decl_Check_1) :=
  okC (A := ⟨[c_decl_is decl_is, c_decl_bang decl_bang], [], [], 0, [], [], []⟩) (exS := ⟨[.bool], []⟩) Tryz.f103 (memC ok_decl_is (memC ok_decl_bang memN0)) (by kernel_rfl) (by kernel_rfl) fun x => by kernel_rfl
theorem ok_slices_IndexFunc_Value_2 : ConOK Tryz.prog (c_slices_IndexFunc_Value_2 slices_IndexFunc_Value_2) :=
  okC (A := ⟨[c_decl_Check_1 decl_Check_1], [], [], 0, [(2, ⟨[8], ⟨[.int .i64], []⟩, [0, 1, 7], [], [], 0, [], ⟨[], []⟩, []⟩)], [], []⟩) (exS := ⟨[.int .i64], []⟩) Tryz.f153 (memC ok_decl_Check_1 memN0) (by kernel_rfl) (by kernel_rfl) fun x => by kernel_rfl
theorem ok_slices_ContainsFunc_Value_2 : ConOK Tryz.prog (c_slices_ContainsFunc_Value_2 slices_ContainsFunc_Value_2) :=
  okC (A := ⟨[c_slices_IndexFunc_Value_2 slices_IndexFunc_Value_2], [], [], 0, [], [], []⟩) (exS := ⟨[.bool], []⟩) Tryz.f102 (memC ok_slices_IndexFunc_Value_2 memN0) (by kernel_rfl) (by kernel_rfl) fun x => by kernel_rfl
theorem ok_decl_Check : ConOK Tryz.prog (c_decl_Check decl_Check) :=
  okC (A := ⟨[c_nest_Flat nest_Flat, c_decl_named decl_named, c_glue_Check glue_Check, c_decl_closers decl_closers, c_slices_ContainsFunc_Value_2 slices_ContainsFunc_Value_2, c_strings_HasPrefix strings_HasPrefix, c_decl_is decl_is], [], [], 0, [], [], []⟩) (exS := ⟨[.int .i64], []⟩) Tryz.f53 (memC ok_nest_Flat (memC ok_decl_named (memC ok_glue_Check (memC ok_decl_closers (memC ok_slices_ContainsFunc_Value_2 (memC ok_strings_HasPrefix (memC ok_decl_is memN0))))))) (by kernel_rfl) (by kernel_rfl) fun x => by kernel_rfl
theorem st_sheet_asked (sheet_asked : VCond → Option Int) (hs : ConOK Tryz.prog (c_sheet_asked sheet_asked)) : ConOK Tryz.prog (c_sheet_asked (sheet_asked_B sheet_asked)) :=
  okC (A := ⟨[c_sheet_asked sheet_asked], [], [], 0, [(5, ⟨[3, 17], ⟨[.int .i64, .int .i64], []⟩, [15, 16], [], [], 0, [3], ⟨[.int .i64], []⟩, []⟩)], [(4, ⟨[3], ⟨[.int .i64], []⟩, [1], [0], [], 0, [], ⟨[], []⟩, []⟩)], []⟩) (exS := ⟨[.int .i64], []⟩) Tryz.f54 (memC hs memN0) (by kernel_rfl) (by kernel_rfl) fun x => by kernel_rfl
theorem ok_sheet_asked : ConOK Tryz.prog (c_sheet_asked sheet_asked) :=
  ConOK.recE (I := I) (P := Tryz.prog) (f := 54) (inS := ⟨[.val 32], []⟩) (cst := []) (outS := ⟨[.int .i64], []⟩) (k := 0) (sheet_asked_B) (by kernel_rfl) (fun S h => st_sheet_asked S h)
theorem ok_cond_bare : ConOK Tryz.prog (c_cond_bare cond_bare) :=
  okC (A := ⟨[], [], [], 0, [], [], []⟩) (exS := ⟨[.bool], []⟩) Tryz.f110 memN0 (by kernel_rfl) (by kernel_rfl) fun x => by kernel_rfl
theorem ok_slices_Index_string : ConOK Tryz.prog (c_slices_Index_string slices_Index_string) :=
  okC (A := ⟨[], [], [], 0, [(2, ⟨[8], ⟨[.int .i64], []⟩, [0, 1, 7], [], [], 0, [], ⟨[], []⟩, []⟩)], [], []⟩) (exS := ⟨[.int .i64], []⟩) Tryz.f166 memN0 (by kernel_rfl) (by kernel_rfl) fun x => by kernel_rfl
theorem ok_slices_Contains_string : ConOK Tryz.prog (c_slices_Contains_string slices_Contains_string) :=
  okC (A := ⟨[c_slices_Index_string slices_Index_string], [], [], 0, [], [], []⟩) (exS := ⟨[.bool], []⟩) Tryz.f120 (memC ok_slices_Index_string memN0) (by kernel_rfl) (by kernel_rfl) fun x => by kernel_rfl
theorem ok_cond_medium : ConOK Tryz.prog (c_cond_medium cond_medium) :=
  okC (A := ⟨[c_slices_Contains_string slices_Contains_string, c_input_Lower input_Lower, c_strings_IndexByte strings_IndexByte], [(1, [0])], [], 0, [], [], []⟩) (exS := ⟨[.bool], []⟩) Tryz.f65 (memC ok_slices_Contains_string (memC ok_input_Lower (memC ok_strings_IndexByte memN0))) (by kernel_rfl) (by kernel_rfl) fun x => by kernel_rfl
theorem ok_fixed_check : ConOK Tryz.prog (c_fixed_check fixed_check) :=
  okC (A := ⟨[], [], [], 0, [(2, ⟨[7], ⟨[.int .i64], []⟩, [5, 6], [], [], 0, [], ⟨[], []⟩, []⟩)], [], []⟩) (exS := ⟨[.int .i64], []⟩) Tryz.f167 memN0 (by kernel_rfl) (by kernel_rfl) fun x => by kernel_rfl
theorem ok_fixed_Check : ConOK Tryz.prog (c_fixed_Check fixed_Check) :=
  okC (A := ⟨[c_fixed_check fixed_check], [(1, [1])], [], 0, [], [], []⟩) (exS := ⟨[.int .i64], []⟩) Tryz.f121 (memC ok_fixed_check memN0) (by kernel_rfl) (by kernel_rfl) fun x => by kernel_rfl
theorem ok_cond_query : ConOK Tryz.prog (c_cond_query cond_query) :=
  okC (A := ⟨[c_cond_bare cond_bare, c_cond_medium cond_medium, c_fixed_Check fixed_Check], [], [], 0, [(4, ⟨[23], ⟨[.int .i64], []⟩, [21, 22], [], [], 0, [], ⟨[], []⟩, []⟩)], [(17, ⟨[57], ⟨[.bool], []⟩, [4, 23], [1], [], 0, [], ⟨[], []⟩, []⟩), (19, ⟨[23], ⟨[.int .i64], []⟩, [], [], [], 0, [], ⟨[], []⟩, []⟩)], []⟩) (exS := ⟨[.bool], []⟩) Tryz.f156 (memC ok_cond_bare (memC ok_cond_medium (memC ok_fixed_Check memN0))) (by kernel_rfl) (by kernel_rfl) fun x => by kernel_rfl
theorem ok_cond_named : ConOK Tryz.prog (c_cond_named cond_named) :=
  okC (A := ⟨[], [], [], 0, [], [], []⟩) (exS := ⟨[.bool], []⟩) Tryz.f157 memN0 (by kernel_rfl) (by kernel_rfl) fun x => by kernel_rfl
theorem ok_cond_asks : ConOK Tryz.prog (c_cond_asks cond_asks) :=
  okC (A := ⟨[c_cond_bare cond_bare, c_cond_query cond_query, c_cond_named cond_named], [], [], 0, [], [], []⟩) (exS := ⟨[.bool], []⟩) Tryz.f109 (memC ok_cond_bare (memC ok_cond_query (memC ok_cond_named memN0))) (by kernel_rfl) (by kernel_rfl) fun x => by kernel_rfl
theorem ok_cond_CheckMedia_1 : ConOK Tryz.prog (c_cond_CheckMedia_1 cond_CheckMedia_1) :=
  okC (A := ⟨[c_cond_asks cond_asks], [], [], 0, [], [], []⟩) (exS := ⟨[.bool], []⟩) Tryz.f108 (memC ok_cond_asks memN0) (by kernel_rfl) (by kernel_rfl) fun x => by kernel_rfl
theorem ok_slices_IndexFunc_Cond : ConOK Tryz.prog (c_slices_IndexFunc_Cond slices_IndexFunc_Cond) :=
  okC (A := ⟨[c_cond_CheckMedia_1 cond_CheckMedia_1], [], [], 0, [(2, ⟨[8], ⟨[.int .i64], []⟩, [0, 1, 7], [], [], 0, [], ⟨[], []⟩, []⟩)], [], []⟩) (exS := ⟨[.int .i64], []⟩) Tryz.f155 (memC ok_cond_CheckMedia_1 memN0) (by kernel_rfl) (by kernel_rfl) fun x => by kernel_rfl
theorem ok_slices_ContainsFunc_Cond : ConOK Tryz.prog (c_slices_ContainsFunc_Cond slices_ContainsFunc_Cond) :=
  okC (A := ⟨[c_slices_IndexFunc_Cond slices_IndexFunc_Cond], [], [], 0, [], [], []⟩) (exS := ⟨[.bool], []⟩) Tryz.f107 (memC ok_slices_IndexFunc_Cond memN0) (by kernel_rfl) (by kernel_rfl) fun x => by kernel_rfl
theorem ok_cond_CheckMedia : ConOK Tryz.prog (c_cond_CheckMedia cond_CheckMedia) :=
  okC (A := ⟨[c_slices_ContainsFunc_Cond slices_ContainsFunc_Cond, c_cond_bare cond_bare], [], [], 0, [], [], []⟩) (exS := ⟨[.int .i64], []⟩) Tryz.f55 (memC ok_slices_ContainsFunc_Cond (memC ok_cond_bare memN0)) (by kernel_rfl) (by kernel_rfl) fun x => by kernel_rfl
theorem st_sheet_told (sheet_told : VCond → Option Int) (hs : ConOK Tryz.prog (c_sheet_told sheet_told)) : ConOK Tryz.prog (c_sheet_told (sheet_told_B sheet_told)) :=
  okC (A := ⟨[c_nest_Depth nest_Depth, c_sheet_told sheet_told], [], [], 0, [(9, ⟨[5, 27], ⟨[.int .i64, .int .i64], []⟩, [2, 25, 26], [], [], 1, [5], ⟨[.int .i64], []⟩, []⟩)], [(14, ⟨[5, 8], ⟨[.int .i64, .int .i64], []⟩, [27], [], [], 0, [], ⟨[], []⟩, []⟩)], []⟩) (exS := ⟨[.int .i64], []⟩) Tryz.f56 (memC ok_nest_Depth (memC hs memN0)) (by kernel_rfl) (by kernel_rfl) fun x => by kernel_rfl
theorem ok_sheet_told : ConOK Tryz.prog (c_sheet_told sheet_told) :=
  ConOK.recE (I := I) (P := Tryz.prog) (f := 56) (inS := ⟨[.val 32], []⟩) (cst := []) (outS := ⟨[.int .i64], []⟩) (k := 0) (sheet_told_B) (by kernel_rfl) (fun S h => st_sheet_told S h)
theorem ok_cond_leaf : ConOK Tryz.prog (c_cond_leaf cond_leaf) :=
  okC (A := ⟨[], [], [], 0, [], [], []⟩) (exS := ⟨[.bool], []⟩) Tryz.f131 memN0 (by kernel_rfl) (by kernel_rfl) fun x => by kernel_rfl
theorem st_cond_look (cond_look : VCond × Int → Option ((Int × Bool) × Int)) (hs : ConOK Tryz.prog (c_cond_look cond_look)) : ConOK Tryz.prog (c_cond_look (cond_look_B cond_look)) :=
  okC (A := ⟨[c_nest_Depth nest_Depth, c_decl_Check decl_Check, c_cond_bare cond_bare, c_cond_look cond_look, c_cond_leaf cond_leaf], [], [], 1, [(19, ⟨[9, 97], ⟨[.int .i64, .int .i64], [(0, .row 3)]⟩, [1, 95, 96], [], [0], 1, [9], ⟨[.int .i64], [(0, .row 3)]⟩, [0]⟩)], [(15, ⟨[69], ⟨[.bool], []⟩, [1, 2, 6], [0, 1], [], 0, [], ⟨[], []⟩, []⟩), (26, ⟨[9, 12], ⟨[.int .i64, .int .i64], []⟩, [97], [0], [], 0, [], ⟨[], []⟩, []⟩)], []⟩) (exS := ⟨[.int .i64, .bool], [(0, .row 3)]⟩) Tryz.f74 (memC ok_nest_Depth (memC ok_decl_Check (memC ok_cond_bare (memC hs (memC ok_cond_leaf memN0))))) (by kernel_rfl) (by kernel_rfl) fun x => by kernel_rfl
theorem ok_cond_look : ConOK Tryz.prog (c_cond_look cond_look) :=
  ConOK.recE (I := I) (P := Tryz.prog) (f := 74) (inS := ⟨[.val 32, .optr 0], [(0, .row 3)]⟩) (cst := []) (outS := ⟨[.int .i64, .bool], [(0, .row 3)]⟩) (k := 0) (cond_look_B) (by kernel_rfl) (fun S h => st_cond_look S h)
theorem ok_cond_CheckSupports : ConOK Tryz.prog (c_cond_CheckSupports cond_CheckSupports) :=
  okC (A := ⟨[c_cond_look cond_look], [], [], 0, [], [], []⟩) (exS := ⟨[.int .i64], []⟩) Tryz.f38 (memC ok_cond_look memN0) (by kernel_rfl) (by kernel_rfl) fun x => by kernel_rfl
theorem st_sheet_look (sheet_look : List VRule → Option Vsheet_found) (hs : ConOK Tryz.prog (c_sheet_look sheet_look)) : ConOK Tryz.prog (c_sheet_look (sheet_look_B sheet_look)) :=
  okC (A := ⟨[c_sheet_look sheet_look, c_slices_ContainsFunc_string slices_ContainsFunc_string, c_sheet_selected sheet_selected, c_seltext_Check seltext_Check, c_sheet_empty sheet_empty, c_nest_Depth nest_Depth, c_decl_Check decl_Check, c_sheet_asked sheet_asked, c_cond_CheckMedia cond_CheckMedia, c_sheet_told sheet_told, c_cond_CheckSupports cond_CheckSupports], [], [], 0, [(3, ⟨[18], ⟨[.int .i64], [(1, .row 64)]⟩, [2, 3, 16, 17], [0], [1], 0, [], ⟨[], [(1, .row 64)]⟩, [1]⟩), (17, ⟨[10, 87], ⟨[.bool, .int .i64], [(3, .row 64)]⟩, [6, 7, 18, 85, 86], [1], [3], 3, [10], ⟨[.bool], [(3, .row 64)]⟩, [3]⟩)], [(35, ⟨[7, 10], ⟨[.int .i64, .bool], [(1, .row 64), (3, .row 64)]⟩, [6, 18], [], [1, 3], 0, [], ⟨[], []⟩, []⟩)], []⟩) (exS := ⟨[.optr 0], [(0, .row 64)]⟩) Tryz.f26 (memC hs (memC ok_slices_ContainsFunc_string (memC ok_sheet_selected (memC ok_seltext_Check (memC ok_sheet_empty (memC ok_nest_Depth (memC ok_decl_Check (memC ok_sheet_asked (memC ok_cond_CheckMedia (memC ok_sheet_told (memC ok_cond_CheckSupports memN0))))))))))) (by kernel_rfl) (by kernel_rfl) fun x => by kernel_rfl
theorem ok_sheet_look : ConOK Tryz.prog (c_sheet_look sheet_look) :=
  ConOK.recE (I := I) (P := Tryz.prog) (f := 26) (inS := ⟨[.sl 35], []⟩) (cst := []) (outS := ⟨[.val 64], []⟩) (k := 0) (sheet_look_B) (by kernel_rfl) (fun S h => st_sheet_look S h)
theorem ok_sheet_check : ConOK Tryz.prog (c_sheet_check sheet_check) :=
  okC (A := ⟨[c_sheet_look sheet_look], [], [], 0, [], [], []⟩) (exS := ⟨[.int .i64], []⟩) Tryz.f27 (memC ok_sheet_look memN0) (by kernel_rfl) (by kernel_rfl) fun x => by kernel_rfl
theorem ok_sheet_Check : ConOK Tryz.prog (c_sheet_Check sheet_Check) :=
  okC (A := ⟨[c_sheet_check sheet_check], [], [], 0, [], [], []⟩) (exS := ⟨[.int .i64], []⟩) Tryz.f9 (memC ok_sheet_check memN0) (by kernel_rfl) (by kernel_rfl) fun x => by kernel_rfl
theorem ok_sheet_Count : ConOK Tryz.prog (c_sheet_Count sheet_Count) :=
  okC (A := ⟨[c_sheet_look sheet_look, c_sheet_Check sheet_Check], [], [], 0, [], [], []⟩) (exS := ⟨[.int .i64, .int .i64], []⟩) Tryz.f7 (memC ok_sheet_look (memC ok_sheet_Check memN0)) (by kernel_rfl) (by kernel_rfl) fun x => by kernel_rfl
theorem ok_ref08_bytes : ConOK Tryz.prog (c_ref08_bytes ref08_bytes) :=
  okC (A := ⟨[], [], [], 0, [(2, ⟨[5], ⟨[.int .i64], []⟩, [0, 1], [], [], 0, [], ⟨[], []⟩, []⟩)], [], []⟩) (exS := ⟨[.bool], []⟩) Tryz.f188 memN0 (by kernel_rfl) (by kernel_rfl) fun x => by kernel_rfl
theorem ok_ref08_Named : ConOK Tryz.prog (c_ref08_Named ref08_Named) :=
  okC (A := ⟨[c_ref08_bytes ref08_bytes], [], [], 0, [], [], []⟩) (exS := ⟨[.bool], []⟩) Tryz.f164 (memC ok_ref08_bytes memN0) (by kernel_rfl) (by kernel_rfl) fun x => by kernel_rfl
theorem ok_ref01_Small : ConOK Tryz.prog (c_ref01_Small ref01_Small) :=
  okC (A := ⟨[], [], [], 0, [], [], []⟩) (exS := ⟨[.int .u8], []⟩) Tryz.f169 memN0 (by kernel_rfl) (by kernel_rfl) fun x => by kernel_rfl
theorem ok_ref01_Lower : ConOK Tryz.prog (c_ref01_Lower ref01_Lower) :=
  okC (A := ⟨[c_ref01_Small ref01_Small], [], [], 0, [(3, ⟨[4], ⟨[.int .i64], [(0, .sl 5)]⟩, [2, 3], [], [0], 0, [], ⟨[], [(0, .sl 5)]⟩, [0]⟩)], [], []⟩) (exS := ⟨[.str], []⟩) Tryz.f126 (memC ok_ref01_Small memN0) (by kernel_rfl) (by kernel_rfl) fun x => by kernel_rfl
theorem ok_ref08_Small : ConOK Tryz.prog (c_ref08_Small ref08_Small) :=
  okC (A := ⟨[c_ref08_Named ref08_Named, c_ref01_Lower ref01_Lower], [], [], 0, [], [], []⟩) (exS := ⟨[.bool], []⟩) Tryz.f210 (memC ok_ref08_Named (memC ok_ref01_Lower memN0)) (by kernel_rfl) (by kernel_rfl) fun x => by kernel_rfl
theorem ok_ref08_bareOf : ConOK Tryz.prog (c_ref08_bareOf ref08_bareOf) :=
  okC (A := ⟨[], [], [], 0, [], [], []⟩) (exS := ⟨[.optr 0], [(0, .row 208)]⟩) Tryz.f193 memN0 (by kernel_rfl) (by kernel_rfl) fun x => by kernel_rfl
theorem ok_ref07_Valid : ConOK Tryz.prog (c_ref07_Valid ref07_Valid) :=
  okC (A := ⟨[], [], [], 0, [], [], []⟩) (exS := ⟨[.bool], []⟩) Tryz.f218 memN0 (by kernel_rfl) (by kernel_rfl) fun x => by kernel_rfl
theorem ok_ref08_below : ConOK Tryz.prog (c_ref08_below ref08_below) :=
  okC (A := ⟨[], [], [], 0, [], [], []⟩) (exS := ⟨[.optr 0, .bool], [(0, .row 197)]⟩) Tryz.f223 memN0 (by kernel_rfl) (by kernel_rfl) fun x => by kernel_rfl
theorem ok_ref08_listed (ref08_whole : VComplex × Vref08_place × Bool → Option Bool) (h_ref08_whole : ConOK Tryz.prog (c_ref08_whole ref08_whole)) : ConOK Tryz.prog (c_ref08_listed (ref08_listed ref08_whole)) :=
  okC (A := ⟨[c_ref08_below ref08_below, c_ref08_whole ref08_whole], [], [], 0, [(5, ⟨[9], ⟨[.int .i64], []⟩, [0, 2, 7], [1], [], 0, [], ⟨[], []⟩, []⟩)], [], []⟩) (exS := ⟨[.bool], []⟩) Tryz.f219 (memC ok_ref08_below (memC h_ref08_whole memN0)) (by kernel_rfl) (by kernel_rfl) fun x => by kernel_rfl
theorem ok_ref08_simple (ref08_whole : VComplex × Vref08_place × Bool → Option Bool) (h_ref08_whole : ConOK Tryz.prog (c_ref08_whole ref08_whole)) : ConOK Tryz.prog (c_ref08_simple (ref08_simple ref08_whole)) :=
  okC (A := ⟨[c_ref08_bareOf ref08_bareOf, c_ref08_Named ref08_Named, c_ref08_Small ref08_Small, c_ref08_bytes ref08_bytes, c_ref07_Valid ref07_Valid, c_ref08_listed (ref08_listed ref08_whole)], [], [], 0, [], [(5, ⟨[11], ⟨[.bool], []⟩, [2, 3, 5, 10], [0, 1, 2], [], 0, [], ⟨[], []⟩, []⟩), (14, ⟨[84], ⟨[.bool], []⟩, [], [], [], 0, [], ⟨[], []⟩, []⟩), (17, ⟨[101], ⟨[.bool], []⟩, [], [], [], 0, [], ⟨[], []⟩, []⟩), (24, ⟨[138], ⟨[.bool], []⟩, [], [], [], 0, [], ⟨[], []⟩, []⟩), (27, ⟨[154], ⟨[.bool], []⟩, [], [], [], 0, [], ⟨[], []⟩, []⟩)], []⟩) (exS := ⟨[.bool], []⟩) Tryz.f211 (memC ok_ref08_bareOf (memC ok_ref08_Named (memC ok_ref08_Small (memC ok_ref08_bytes (memC ok_ref07_Valid (memC (ok_ref08_listed ref08_whole h_ref08_whole) memN0)))))) (by kernel_rfl) (by kernel_rfl) fun x => by kernel_rfl
theorem ok_ref08_compound (ref08_whole : VComplex × Vref08_place × Bool → Option Bool) (h_ref08_whole : ConOK Tryz.prog (c_ref08_whole ref08_whole)) : ConOK Tryz.prog (c_ref08_compound (ref08_compound ref08_whole)) :=
  okC (A := ⟨[c_ref08_Small ref08_Small, c_ref08_simple (ref08_simple ref08_whole)], [], [], 0, [(4, ⟨[5], ⟨[.int .i64], []⟩, [2, 3], [0, 1], [], 0, [], ⟨[], []⟩, []⟩)], [], []⟩) (exS := ⟨[.bool], []⟩) Tryz.f204 (memC ok_ref08_Small (memC (ok_ref08_simple ref08_whole h_ref08_whole) memN0)) (by kernel_rfl) (by kernel_rfl) fun x => by kernel_rfl
theorem st_ref08_whole (ref08_whole : VComplex × Vref08_place × Bool → Option Bool) (hs : ConOK Tryz.prog (c_ref08_whole ref08_whole)) : ConOK Tryz.prog (c_ref08_whole (ref08_whole_B ref08_whole)) :=
  okC (A := ⟨[c_ref08_compound (ref08_compound ref08_whole)], [], [], 0, [(4, ⟨[7], ⟨[.int .i64], []⟩, [3, 4], [0, 1], [], 0, [], ⟨[], []⟩, []⟩)], [], []⟩) (exS := ⟨[.bool], []⟩) Tryz.f182 (memC (ok_ref08_compound ref08_whole hs) memN0) (by kernel_rfl) (by kernel_rfl) fun x => by kernel_rfl
theorem ok_ref08_whole : ConOK Tryz.prog (c_ref08_whole ref08_whole) :=
  ConOK.recE (I := I) (P := Tryz.prog) (f := 182) (inS := ⟨[.val 137, .val 197, .bool], []⟩) (cst := []) (outS := ⟨[.bool], []⟩) (k := 0) (ref08_whole_B) (by kernel_rfl) (fun S h => st_ref08_whole S h)
theorem ok_ref08_Fine : ConOK Tryz.prog (c_ref08_Fine ref08_Fine) :=
  okC (A := ⟨[c_ref08_whole ref08_whole], [], [], 0, [(2, ⟨[3], ⟨[.int .i64], []⟩, [0], [], [], 0, [], ⟨[], []⟩, []⟩)], [], []⟩) (exS := ⟨[.bool], []⟩) Tryz.f158 (memC ok_ref08_whole memN0) (by kernel_rfl) (by kernel_rfl) fun x => by kernel_rfl
theorem st_ref08_Number (ref08_Number : List VComplex → Option Int) (hs : ConOK Tryz.prog (c_ref08_Number ref08_Number)) : ConOK Tryz.prog (c_ref08_Number (ref08_Number_B ref08_Number)) :=
  okC (A := ⟨[c_ref08_Number ref08_Number], [], [], 0, [(3, ⟨[3, 4], ⟨[.int .i64, .int .i64], []⟩, [0, 2], [], [], 0, [3], ⟨[.int .i64], []⟩, []⟩), (6, ⟨[3, 5], ⟨[.int .i64, .int .i64], []⟩, [4], [], [], 2, [3], ⟨[.int .i64], []⟩, []⟩), (10, ⟨[3, 7], ⟨[.int .i64, .int .i64], []⟩, [5, 6], [], [], 4, [3], ⟨[.int .i64], []⟩, []⟩)], [], []⟩) (exS := ⟨[.int .i64], []⟩) Tryz.f159 (memC hs memN0) (by kernel_rfl) (by kernel_rfl) fun x => by kernel_rfl
theorem ok_ref08_Number : ConOK Tryz.prog (c_ref08_Number ref08_Number) :=
  ConOK.recE (I := I) (P := Tryz.prog) (f := 159) (inS := ⟨[.sl 137], []⟩) (cst := []) (outS := ⟨[.int .i64], []⟩) (k := 0) (ref08_Number_B) (by kernel_rfl) (fun S h => st_ref08_Number S h)
theorem ok_ref08_Check : ConOK Tryz.prog (c_ref08_Check ref08_Check) :=
  okC (A := ⟨[c_ref08_Fine ref08_Fine, c_ref08_Number ref08_Number], [], [], 0, [], [], []⟩) (exS := ⟨[.int .i64], []⟩) Tryz.f111 (memC ok_ref08_Fine (memC ok_ref08_Number memN0)) (by kernel_rfl) (by kernel_rfl) fun x => by kernel_rfl
theorem st_ref04_Same (ref04_Same : List VValue × List VValue → Option Bool) (hs : ConOK Tryz.prog (c_ref04_Same ref04_Same)) : ConOK Tryz.prog (c_ref04_Same (ref04_Same_B ref04_Same)) :=
  okC (A := ⟨[c_ref04_Same ref04_Same], [], [], 0, [(4, ⟨[5], ⟨[.int .i64], []⟩, [0, 1], [], [], 0, [], ⟨[], []⟩, []⟩)], [], []⟩) (exS := ⟨[.bool], []⟩) Tryz.f77 (memC hs memN0) (by kernel_rfl) (by kernel_rfl) fun x => by kernel_rfl
theorem ok_ref04_Same : ConOK Tryz.prog (c_ref04_Same ref04_Same) :=
  ConOK.recE (I := I) (P := Tryz.prog) (f := 77) (inS := ⟨[.sl 99, .sl 99], []⟩) (cst := []) (outS := ⟨[.bool], []⟩) (k := 0) (ref04_Same_B) (by kernel_rfl) (fun S h => st_ref04_Same S h)
theorem ok_ref05_Same1 : ConOK Tryz.prog (c_ref05_Same1 ref05_Same1) :=
  okC (A := ⟨[c_ref04_Same ref04_Same], [], [], 0, [], [], []⟩) (exS := ⟨[.bool], []⟩) Tryz.f40 (memC ok_ref04_Same memN0) (by kernel_rfl) (by kernel_rfl) fun x => by kernel_rfl
theorem st_ref10_Same (ref10_Same : VCond × VCond → Option Bool) (hs : ConOK Tryz.prog (c_ref10_Same ref10_Same)) : ConOK Tryz.prog (c_ref10_Same (ref10_Same_B ref10_Same)) :=
  okC (A := ⟨[c_ref05_Same1 ref05_Same1, c_ref10_Same ref10_Same], [], [], 0, [(4, ⟨[5], ⟨[.int .i64], []⟩, [2, 3], [0, 1], [], 0, [], ⟨[], []⟩, []⟩)], [], []⟩) (exS := ⟨[.bool], []⟩) Tryz.f18 (memC ok_ref05_Same1 (memC hs memN0)) (by kernel_rfl) (by kernel_rfl) fun x => by kernel_rfl
theorem ok_ref10_Same : ConOK Tryz.prog (c_ref10_Same ref10_Same) :=
  ConOK.recE (I := I) (P := Tryz.prog) (f := 18) (inS := ⟨[.val 32, .val 32], []⟩) (cst := []) (outS := ⟨[.bool], []⟩) (k := 0) (ref10_Same_B) (by kernel_rfl) (fun S h => st_ref10_Same S h)
theorem ok_ref11_none : ConOK Tryz.prog (c_ref11_none ref11_none) :=
  okC (A := ⟨[c_ref10_Same ref10_Same], [], [], 0, [], [], []⟩) (exS := ⟨[.bool], []⟩) Tryz.f112 (memC ok_ref10_Same memN0) (by kernel_rfl) (by kernel_rfl) fun x => by kernel_rfl
theorem ok_ref05_Named : ConOK Tryz.prog (c_ref05_Named ref05_Named) :=
  okC (A := ⟨[c_ref01_Lower ref01_Lower], [], [], 0, [(4, ⟨[3], ⟨[.int .i64], []⟩, [0], [], [], 0, [], ⟨[], []⟩, []⟩)], [], []⟩) (exS := ⟨[.bool], []⟩) Tryz.f160 (memC ok_ref01_Lower memN0) (by kernel_rfl) (by kernel_rfl) fun x => by kernel_rfl
theorem st_ref04_Tokens (ref04_Tokens : List VValue → Option (List VToken)) (hs : ConOK Tryz.prog (c_ref04_Tokens ref04_Tokens)) : ConOK Tryz.prog (c_ref04_Tokens (ref04_Tokens_B ref04_Tokens)) :=
  okC (A := ⟨[c_ref04_Closer ref04_Closer, c_ref04_Tokens ref04_Tokens], [(5, [6]), (9, [3])], [], 0, [(3, ⟨[3, 4], ⟨[.own 1208, .int .i64], [(1208, .sl 97)]⟩, [0, 2], [], [], 0, [3], ⟨[.own 1208], [(1208, .sl 97)]⟩, [1208]⟩)], [(4, ⟨[3, 4], ⟨[.own 1310, .int .i64], [(1310, .sl 97)]⟩, [], [], [], 0, [], ⟨[], []⟩, []⟩)], []⟩) (exS := ⟨[.sl 97], []⟩) Tryz.f67 (memC ok_ref04_Closer (memC hs memN0)) (by kernel_rfl) (by kernel_rfl) fun x => by kernel_rfl
theorem ok_ref04_Tokens : ConOK Tryz.prog (c_ref04_Tokens ref04_Tokens) :=
  ConOK.recE (I := I) (P := Tryz.prog) (f := 67) (inS := ⟨[.sl 99], []⟩) (cst := []) (outS := ⟨[.sl 97], []⟩) (k := 0) (ref04_Tokens_B) (by kernel_rfl) (fun S h => st_ref04_Tokens S h)
theorem st_ref04_shaped (ref04_shaped : List VValue × Int → Option Bool) (hs : ConOK Tryz.prog (c_ref04_shaped ref04_shaped)) : ConOK Tryz.prog (c_ref04_shaped (ref04_shaped_B ref04_shaped)) :=
  okC (A := ⟨[c_ref04_Closer ref04_Closer, c_ref04_shaped ref04_shaped], [], [], 0, [(2, ⟨[5], ⟨[.int .i64], []⟩, [0, 1], [], [], 0, [], ⟨[], []⟩, []⟩)], [], []⟩) (exS := ⟨[.bool], []⟩) Tryz.f68 (memC ok_ref04_Closer (memC hs memN0)) (by kernel_rfl) (by kernel_rfl) fun x => by kernel_rfl
theorem ok_ref04_shaped : ConOK Tryz.prog (c_ref04_shaped ref04_shaped) :=
  ConOK.recE (I := I) (P := Tryz.prog) (f := 68) (inS := ⟨[.sl 99, .int .u8], []⟩) (cst := []) (outS := ⟨[.bool], []⟩) (k := 0) (ref04_shaped_B) (by kernel_rfl) (fun S h => st_ref04_shaped S h)
theorem ok_ref04_Check : ConOK Tryz.prog (c_ref04_Check ref04_Check) :=
  okC (A := ⟨[c_ref04_Deep ref04_Deep, c_ref04_Tokens ref04_Tokens, c_ref04_shaped ref04_shaped], [], [], 0, [], [], []⟩) (exS := ⟨[.int .i64], []⟩) Tryz.f34 (memC ok_ref04_Deep (memC ok_ref04_Tokens (memC ok_ref04_shaped memN0))) (by kernel_rfl) (by kernel_rfl) fun x => by kernel_rfl
theorem ok_ref03_whole : ConOK Tryz.prog (c_ref03_whole ref03_whole) :=
  okC (A := ⟨[], [], [], 0, [(2, ⟨[3], ⟨[.int .i64], []⟩, [0], [], [], 0, [], ⟨[], []⟩, []⟩)], [], []⟩) (exS := ⟨[.bool], []⟩) Tryz.f212 memN0 (by kernel_rfl) (by kernel_rfl) fun x => by kernel_rfl
theorem ok_ref02_Digit : ConOK Tryz.prog (c_ref02_Digit ref02_Digit) :=
  okC (A := ⟨[], [], [], 0, [], [], []⟩) (exS := ⟨[.bool], []⟩) Tryz.f220 memN0 (by kernel_rfl) (by kernel_rfl) fun x => by kernel_rfl
theorem ok_ref03_Bare : ConOK Tryz.prog (c_ref03_Bare ref03_Bare) :=
  okC (A := ⟨[c_ref02_Digit ref02_Digit], [], [], 0, [], [], []⟩) (exS := ⟨[.bool], []⟩) Tryz.f213 (memC ok_ref02_Digit memN0) (by kernel_rfl) (by kernel_rfl) fun x => by kernel_rfl
theorem ok_ref02_Space : ConOK Tryz.prog (c_ref02_Space ref02_Space) :=
  okC (A := ⟨[], [], [], 0, [], [], []⟩) (exS := ⟨[.bool], []⟩) Tryz.f224 memN0 (by kernel_rfl) (by kernel_rfl) fun x => by kernel_rfl
theorem ok_ref02_At : ConOK Tryz.prog (c_ref02_At ref02_At) :=
  okC (A := ⟨[], [], [], 0, [], [], []⟩) (exS := ⟨[.int .u8], []⟩) Tryz.f236 memN0 (by kernel_rfl) (by kernel_rfl) fun x => by kernel_rfl
theorem ok_ref02_spaces : ConOK Tryz.prog (c_ref02_spaces ref02_spaces) :=
  okC (A := ⟨[c_ref02_At ref02_At, c_ref02_Space ref02_Space], [], [], 0, [(1, ⟨[1], ⟨[.int .i64], []⟩, [0, 4], [], [], 0, [1], ⟨[.int .i64], []⟩, []⟩)], [], []⟩) (exS := ⟨[.int .i64], []⟩) Tryz.f225 (memC ok_ref02_At (memC ok_ref02_Space memN0)) (by kernel_rfl) (by kernel_rfl) fun x => by kernel_rfl
theorem ok_ref02_lost : ConOK Tryz.prog (c_ref02_lost ref02_lost) :=
  okC (A := ⟨[], [(1, [0])], [], 0, [], [], []⟩) (exS := ⟨[.str], []⟩) Tryz.f242 memN0 (by kernel_rfl) (by kernel_rfl) fun x => by kernel_rfl
theorem ok_ref02_Hex : ConOK Tryz.prog (c_ref02_Hex ref02_Hex) :=
  okC (A := ⟨[c_ref02_Digit ref02_Digit, c_ref01_Small ref01_Small], [], [], 0, [], [], []⟩) (exS := ⟨[.int .i64], []⟩) Tryz.f243 (memC ok_ref02_Digit (memC ok_ref01_Small memN0)) (by kernel_rfl) (by kernel_rfl) fun x => by kernel_rfl
theorem ok_ref02_UTF8 : ConOK Tryz.prog (c_ref02_UTF8 ref02_UTF8) :=
  okC (A := ⟨[c_ref02_lost ref02_lost], [(4, [2]), (6, [8]), (8, [13]), (9, [18])], [], 0, [], [], []⟩) (exS := ⟨[.str], []⟩) Tryz.f244 (memC ok_ref02_lost memN0) (by kernel_rfl) (by kernel_rfl) fun x => by kernel_rfl
theorem ok_ref02_Escaped : ConOK Tryz.prog (c_ref02_Escaped ref02_Escaped) :=
  okC (A := ⟨[c_ref02_lost ref02_lost, c_ref02_Hex ref02_Hex, c_ref02_At ref02_At, c_ref02_Space ref02_Space, c_ref02_UTF8 ref02_UTF8], [], [], 0, [(7, ⟨[6, 7], ⟨[.int .i64, .int .i64], []⟩, [0, 1, 4, 5], [], [], 0, [6, 7], ⟨[.int .i64, .int .i64], []⟩, []⟩)], [(12, ⟨[7], ⟨[.int .i64], []⟩, [6], [], [], 0, [], ⟨[], []⟩, []⟩)], []⟩) (exS := ⟨[.str, .int .i64], []⟩) Tryz.f237 (memC ok_ref02_lost (memC ok_ref02_Hex (memC ok_ref02_At (memC ok_ref02_Space (memC ok_ref02_UTF8 memN0))))) (by kernel_rfl) (by kernel_rfl) fun x => by kernel_rfl
theorem ok_ref02_quoted : ConOK Tryz.prog (c_ref02_quoted ref02_quoted) :=
  okC (A := ⟨[c_ref02_Escaped ref02_Escaped], [], [], 0, [(4, ⟨[1], ⟨[.int .i64], [(0, .row 97), (1, .row 97)]⟩, [0, 4, 6, 7], [], [0, 1], 0, [1], ⟨[.int .i64], [(0, .row 97), (1, .row 97)]⟩, [0, 1]⟩)], [], []⟩) (exS := ⟨[.optr 0, .int .i64], [(0, .row 97)]⟩) Tryz.f226 (memC ok_ref02_Escaped memN0) (by kernel_rfl) (by kernel_rfl) fun x => by kernel_rfl
theorem ok_ref02_Starts : ConOK Tryz.prog (c_ref02_Starts ref02_Starts) :=
  okC (A := ⟨[c_ref01_Small ref01_Small], [], [], 0, [], [], []⟩) (exS := ⟨[.bool], []⟩) Tryz.f238 (memC ok_ref01_Small memN0) (by kernel_rfl) (by kernel_rfl) fun x => by kernel_rfl
theorem ok_ref02_Letter : ConOK Tryz.prog (c_ref02_Letter ref02_Letter) :=
  okC (A := ⟨[c_ref02_Starts ref02_Starts, c_ref02_Digit ref02_Digit], [], [], 0, [], [], []⟩) (exS := ⟨[.bool], []⟩) Tryz.f227 (memC ok_ref02_Starts (memC ok_ref02_Digit memN0)) (by kernel_rfl) (by kernel_rfl) fun x => by kernel_rfl
theorem ok_ref02_Escape : ConOK Tryz.prog (c_ref02_Escape ref02_Escape) :=
  okC (A := ⟨[c_ref02_At ref02_At], [], [], 0, [], [], []⟩) (exS := ⟨[.bool], []⟩) Tryz.f228 (memC ok_ref02_At memN0) (by kernel_rfl) (by kernel_rfl) fun x => by kernel_rfl
theorem ok_ref02_Named : ConOK Tryz.prog (c_ref02_Named ref02_Named) :=
  okC (A := ⟨[c_ref02_Letter ref02_Letter, c_ref02_Escape ref02_Escape, c_ref02_Escaped ref02_Escaped], [], [], 0, [(2, ⟨[1, 6], ⟨[.int .i64, .str], []⟩, [0], [], [], 0, [], ⟨[], []⟩, []⟩)], [], []⟩) (exS := ⟨[.str, .int .i64], []⟩) Tryz.f229 (memC ok_ref02_Letter (memC ok_ref02_Escape (memC ok_ref02_Escaped memN0))) (by kernel_rfl) (by kernel_rfl) fun x => by kernel_rfl
theorem ok_ref02_NameAt : ConOK Tryz.prog (c_ref02_NameAt ref02_NameAt) :=
  okC (A := ⟨[c_ref02_At ref02_At, c_ref02_Starts ref02_Starts, c_ref02_Escape ref02_Escape], [], [], 0, [], [], []⟩) (exS := ⟨[.bool], []⟩) Tryz.f230 (memC ok_ref02_At (memC ok_ref02_Starts (memC ok_ref02_Escape memN0))) (by kernel_rfl) (by kernel_rfl) fun x => by kernel_rfl
theorem ok_ref02_NumberAt : ConOK Tryz.prog (c_ref02_NumberAt ref02_NumberAt) :=
  okC (A := ⟨[c_ref02_At ref02_At, c_ref02_Digit ref02_Digit], [], [], 0, [], [(4, ⟨[1], ⟨[.int .i64], []⟩, [0], [], [], 0, [], ⟨[], []⟩, []⟩), (6, ⟨[1], ⟨[.int .i64], []⟩, [], [], [], 0, [], ⟨[], []⟩, []⟩)], []⟩) (exS := ⟨[.bool], []⟩) Tryz.f231 (memC ok_ref02_At (memC ok_ref02_Digit memN0)) (by kernel_rfl) (by kernel_rfl) fun x => by kernel_rfl
theorem ok_ref02_digits : ConOK Tryz.prog (c_ref02_digits ref02_digits) :=
  okC (A := ⟨[c_ref02_At ref02_At, c_ref02_Digit ref02_Digit], [], [], 0, [(1, ⟨[1], ⟨[.int .i64], []⟩, [0, 4], [], [], 0, [1], ⟨[.int .i64], []⟩, []⟩)], [], []⟩) (exS := ⟨[.int .i64], []⟩) Tryz.f245 (memC ok_ref02_At (memC ok_ref02_Digit memN0)) (by kernel_rfl) (by kernel_rfl) fun x => by kernel_rfl
theorem ok_ref02_NumberEnd : ConOK Tryz.prog (c_ref02_NumberEnd ref02_NumberEnd) :=
  okC (A := ⟨[c_ref02_At ref02_At, c_ref02_digits ref02_digits, c_ref02_Digit ref02_Digit], [], [], 0, [], [(4, ⟨[1], ⟨[.int .i64], []⟩, [0], [], [], 0, [], ⟨[], []⟩, []⟩), (9, ⟨[1, 7], ⟨[.int .i64, .bool], []⟩, [], [], [], 0, [], ⟨[], []⟩, []⟩), (15, ⟨[1, 7, 9], ⟨[.int .i64, .bool, .int .i64], []⟩, [], [], [], 0, [], ⟨[], []⟩, []⟩), (18, ⟨[1, 7], ⟨[.int .i64, .bool], []⟩, [], [], [], 0, [], ⟨[], []⟩, []⟩)], []⟩) (exS := ⟨[.int .i64, .bool], []⟩) Tryz.f239 (memC ok_ref02_At (memC ok_ref02_digits (memC ok_ref02_Digit memN0))) (by kernel_rfl) (by kernel_rfl) fun x => by kernel_rfl
theorem ok_ref02_Thousandths : ConOK Tryz.prog (c_ref02_Thousandths ref02_Thousandths) :=
  okC (A := ⟨[c_ref02_At ref02_At, c_ref02_Digit ref02_Digit], [], [], 0, [(5, ⟨[3, 5], ⟨[.str, .int .i64], []⟩, [4], [], [], 0, [3, 5], ⟨[.str, .int .i64], []⟩, []⟩), (10, ⟨[3, 4, 5], ⟨[.str, .int .i64, .int .i64], []⟩, [], [], [], 2, [3, 4, 5], ⟨[.str, .int .i64, .int .i64], []⟩, []⟩), (20, ⟨[5, 8], ⟨[.int .i64, .int .i64], []⟩, [4], [], [], 4, [8], ⟨[.int .i64], []⟩, []⟩), (28, ⟨[9, 10], ⟨[.int .i64, .int .i64], []⟩, [4], [], [], 6, [9], ⟨[.int .i64], []⟩, []⟩), (31, ⟨[4, 9], ⟨[.int .i64, .int .i64], []⟩, [], [], [], 8, [9], ⟨[.int .i64], []⟩, []⟩)], [(5, ⟨[3, 4, 5], ⟨[.str, .int .i64, .int .i64], []⟩, [0, 6], [], [], 0, [], ⟨[], []⟩, []⟩), (14, ⟨[3, 4, 5], ⟨[.str, .int .i64, .int .i64], []⟩, [], [], [], 0, [], ⟨[], []⟩, []⟩), (19, ⟨[4, 5], ⟨[.int .i64, .int .i64], []⟩, [3, 7], [], [], 0, [], ⟨[], []⟩, []⟩), (25, ⟨[4, 8], ⟨[.int .i64, .int .i64], []⟩, [], [], [], 0, [], ⟨[], []⟩, []⟩), (26, ⟨[4], ⟨[.int .i64], []⟩, [3], [], [], 0, [], ⟨[], []⟩, []⟩)], []⟩) (exS := ⟨[.int .i64], []⟩) Tryz.f240 (memC ok_ref02_At (memC ok_ref02_Digit memN0)) (by kernel_rfl) (by kernel_rfl) fun x => by kernel_rfl
theorem ok_ref02_numeric : ConOK Tryz.prog (c_ref02_numeric ref02_numeric) :=
  okC (A := ⟨[c_ref02_NumberEnd ref02_NumberEnd, c_ref02_Thousandths ref02_Thousandths, c_ref02_NameAt ref02_NameAt, c_ref02_Named ref02_Named, c_ref02_At ref02_At], [], [], 0, [], [(9, ⟨[6], ⟨[.int .i64], [(0, .row 97), (1, .row 97)]⟩, [4, 8], [], [0, 1], 0, [], ⟨[], []⟩, []⟩)], []⟩) (exS := ⟨[.optr 0, .int .i64], [(0, .row 97)]⟩) Tryz.f232 (memC ok_ref02_NumberEnd (memC ok_ref02_Thousandths (memC ok_ref02_NameAt (memC ok_ref02_Named (memC ok_ref02_At memN0))))) (by kernel_rfl) (by kernel_rfl) fun x => by kernel_rfl
theorem ok_ref02_has : ConOK Tryz.prog (c_ref02_has ref02_has) :=
  okC (A := ⟨[], [], [], 0, [], [], []⟩) (exS := ⟨[.bool], []⟩) Tryz.f233 memN0 (by kernel_rfl) (by kernel_rfl) fun x => by kernel_rfl
theorem ok_ref01_Alike : ConOK Tryz.prog (c_ref01_Alike ref01_Alike) :=
  okC (A := ⟨[c_ref01_Lower ref01_Lower], [], [], 0, [], [], []⟩) (exS := ⟨[.bool], []⟩) Tryz.f168 (memC ok_ref01_Lower memN0) (by kernel_rfl) (by kernel_rfl) fun x => by kernel_rfl
theorem ok_ref02_bad : ConOK Tryz.prog (c_ref02_bad ref02_bad) :=
  okC (A := ⟨[c_ref02_Escape ref02_Escape, c_ref02_Escaped ref02_Escaped], [], [], 0, [(1, ⟨[1], ⟨[.int .i64], []⟩, [0, 4, 5], [0], [], 0, [1], ⟨[.int .i64], []⟩, []⟩)], [], []⟩) (exS := ⟨[.optr 0, .int .i64], [(0, .row 97)]⟩) Tryz.f246 (memC ok_ref02_Escape (memC ok_ref02_Escaped memN0)) (by kernel_rfl) (by kernel_rfl) fun x => by kernel_rfl
theorem ok_ref02_Unprintable : ConOK Tryz.prog (c_ref02_Unprintable ref02_Unprintable) :=
  okC (A := ⟨[], [], [], 0, [], [], []⟩) (exS := ⟨[.bool], []⟩) Tryz.f247 memN0 (by kernel_rfl) (by kernel_rfl) fun x => by kernel_rfl
theorem ok_ref02_url : ConOK Tryz.prog (c_ref02_url ref02_url) :=
  okC (A := ⟨[c_ref02_spaces ref02_spaces, c_ref02_Space ref02_Space, c_ref02_bad ref02_bad, c_ref02_Unprintable ref02_Unprintable, c_ref02_Escape ref02_Escape, c_ref02_Escaped ref02_Escaped], [], [], 0, [(3, ⟨[1], ⟨[.int .i64], [(0, .row 97), (1, .row 97)]⟩, [0, 4, 6], [], [0, 1], 0, [1], ⟨[.int .i64], [(0, .row 97), (1, .row 97)]⟩, [0, 1]⟩)], [], []⟩) (exS := ⟨[.optr 0, .int .i64], [(0, .row 97)]⟩) Tryz.f241 (memC ok_ref02_spaces (memC ok_ref02_Space (memC ok_ref02_bad (memC ok_ref02_Unprintable (memC ok_ref02_Escape (memC ok_ref02_Escaped memN0)))))) (by kernel_rfl) (by kernel_rfl) fun x => by kernel_rfl
theorem ok_ref02_word : ConOK Tryz.prog (c_ref02_word ref02_word) :=
  okC (A := ⟨[c_ref02_Named ref02_Named, c_ref02_At ref02_At, c_ref01_Alike ref01_Alike, c_ref02_spaces ref02_spaces, c_ref02_url ref02_url], [], [], 0, [], [(8, ⟨[], ⟨[], [(0, .row 97)]⟩, [4, 6, 7], [], [0], 0, [], ⟨[], []⟩, []⟩)], []⟩) (exS := ⟨[.optr 0, .int .i64], [(0, .row 97)]⟩) Tryz.f234 (memC ok_ref02_Named (memC ok_ref02_At (memC ok_ref01_Alike (memC ok_ref02_spaces (memC ok_ref02_url memN0))))) (by kernel_rfl) (by kernel_rfl) fun x => by kernel_rfl
theorem ok_ref02_mark : ConOK Tryz.prog (c_ref02_mark ref02_mark) :=
  okC (A := ⟨[], [], [], 0, [], [], []⟩) (exS := ⟨[.int .u8], []⟩) Tryz.f235 memN0 (by kernel_rfl) (by kernel_rfl) fun x => by kernel_rfl
theorem ok_ref02_One : ConOK Tryz.prog (c_ref02_One ref02_One) :=
  okC (A := ⟨[c_ref02_Space ref02_Space, c_ref02_spaces ref02_spaces, c_ref02_quoted ref02_quoted, c_ref02_Letter ref02_Letter, c_ref02_Escape ref02_Escape, c_ref02_Named ref02_Named, c_ref02_NameAt ref02_NameAt, c_ref02_NumberAt ref02_NumberAt, c_ref02_numeric ref02_numeric, c_ref02_has ref02_has, c_ref02_word ref02_word, c_ref02_mark ref02_mark], [], [], 0, [], [], []⟩) (exS := ⟨[.optr 0, .int .i64], [(0, .row 97)]⟩) Tryz.f221 (memC ok_ref02_Space (memC ok_ref02_spaces (memC ok_ref02_quoted (memC ok_ref02_Letter (memC ok_ref02_Escape (memC ok_ref02_Named (memC ok_ref02_NameAt (memC ok_ref02_NumberAt (memC ok_ref02_numeric (memC ok_ref02_has (memC ok_ref02_word (memC ok_ref02_mark memN0)))))))))))) (by kernel_rfl) (by kernel_rfl) fun x => by kernel_rfl
theorem ok_ref03_Delim : ConOK Tryz.prog (c_ref03_Delim ref03_Delim) :=
  okC (A := ⟨[c_ref02_One ref02_One], [(1, [1])], [], 0, [], [], []⟩) (exS := ⟨[.bool], []⟩) Tryz.f214 (memC ok_ref02_One memN0) (by kernel_rfl) (by kernel_rfl) fun x => by kernel_rfl
theorem ok_ref03_Fine : ConOK Tryz.prog (c_ref03_Fine ref03_Fine) :=
  okC (A := ⟨[c_ref03_whole ref03_whole, c_ref03_Bare ref03_Bare, c_ref03_Delim ref03_Delim], [], [], 0, [], [(6, ⟨[8], ⟨[.bool], [(1, .row 97)]⟩, [1, 3, 7], [0], [1], 0, [], ⟨[], []⟩, []⟩), (13, ⟨[56], ⟨[.bool], [(1, .row 97)]⟩, [], [], [1], 0, [], ⟨[], []⟩, []⟩), (21, ⟨[90], ⟨[.bool], [(1, .row 97)]⟩, [], [], [1], 0, [], ⟨[], []⟩, []⟩), (26, ⟨[148], ⟨[.bool], []⟩, [], [1], [], 0, [], ⟨[], []⟩, []⟩)], []⟩) (exS := ⟨[.bool], []⟩) Tryz.f205 (memC ok_ref03_whole (memC ok_ref03_Bare (memC ok_ref03_Delim memN0))) (by kernel_rfl) (by kernel_rfl) fun x => by kernel_rfl
theorem ok_ref03_Check : ConOK Tryz.prog (c_ref03_Check ref03_Check) :=
  okC (A := ⟨[c_ref03_Fine ref03_Fine, c_ref01_Alike ref01_Alike], [], [], 0, [(4, ⟨[3], ⟨[.int .i64], []⟩, [0], [], [], 0, [], ⟨[], []⟩, []⟩)], [(12, ⟨[4], ⟨[.int .i64], []⟩, [3], [], [], 0, [], ⟨[], []⟩, []⟩), (14, ⟨[], ⟨[], []⟩, [3], [], [], 0, [], ⟨[], []⟩, []⟩)], []⟩) (exS := ⟨[.int .i64], []⟩) Tryz.f183 (memC ok_ref03_Fine (memC ok_ref01_Alike memN0)) (by kernel_rfl) (by kernel_rfl) fun x => by kernel_rfl
theorem st_ref05_closers (ref05_closers : List VValue → Option Bool) (hs : ConOK Tryz.prog (c_ref05_closers ref05_closers)) : ConOK Tryz.prog (c_ref05_closers (ref05_closers_B ref05_closers)) :=
  okC (A := ⟨[c_ref05_closers ref05_closers], [], [], 0, [(2, ⟨[3], ⟨[.int .i64], []⟩, [0], [], [], 0, [], ⟨[], []⟩, []⟩)], [], []⟩) (exS := ⟨[.bool], []⟩) Tryz.f184 (memC hs memN0) (by kernel_rfl) (by kernel_rfl) fun x => by kernel_rfl
theorem ok_ref05_closers : ConOK Tryz.prog (c_ref05_closers ref05_closers) :=
  ConOK.recE (I := I) (P := Tryz.prog) (f := 184) (inS := ⟨[.sl 99], []⟩) (cst := []) (outS := ⟨[.bool], []⟩) (k := 0) (ref05_closers_B) (by kernel_rfl) (fun S h => st_ref05_closers S h)
theorem ok_ref04_Trimmed : ConOK Tryz.prog (c_ref04_Trimmed ref04_Trimmed) :=
  okC (A := ⟨[], [], [], 0, [(1, ⟨[0], ⟨[.sl 99], []⟩, [2], [], [], 0, [0], ⟨[.sl 99], []⟩, []⟩), (3, ⟨[0], ⟨[.sl 99], []⟩, [2], [], [], 2, [0], ⟨[.sl 99], []⟩, []⟩)], [], []⟩) (exS := ⟨[.sl 99], []⟩) Tryz.f69 memN0 (by kernel_rfl) (by kernel_rfl) fun x => by kernel_rfl
theorem ok_ref05_Custom : ConOK Tryz.prog (c_ref05_Custom ref05_Custom) :=
  okC (A := ⟨[], [], [], 0, [], [], []⟩) (exS := ⟨[.bool], []⟩) Tryz.f185 memN0 (by kernel_rfl) (by kernel_rfl) fun x => by kernel_rfl
theorem ok_ref05_Valued : ConOK Tryz.prog (c_ref05_Valued ref05_Valued) :=
  okC (A := ⟨[c_ref04_Check ref04_Check, c_ref04_Tokens ref04_Tokens, c_ref03_Check ref03_Check, c_ref05_closers ref05_closers, c_ref04_Trimmed ref04_Trimmed, c_ref05_Custom ref05_Custom], [], [], 0, [(6, ⟨[5], ⟨[.int .i64], []⟩, [1], [], [], 0, [], ⟨[], []⟩, []⟩)], [], []⟩) (exS := ⟨[.bool], []⟩) Tryz.f161 (memC ok_ref04_Check (memC ok_ref04_Tokens (memC ok_ref03_Check (memC ok_ref05_closers (memC ok_ref04_Trimmed (memC ok_ref05_Custom memN0)))))) (by kernel_rfl) (by kernel_rfl) fun x => by kernel_rfl
theorem ok_ref05_Check : ConOK Tryz.prog (c_ref05_Check ref05_Check) :=
  okC (A := ⟨[c_ref05_Named ref05_Named, c_ref05_Valued ref05_Valued], [], [], 0, [], [], []⟩) (exS := ⟨[.int .i64], []⟩) Tryz.f113 (memC ok_ref05_Named (memC ok_ref05_Valued memN0)) (by kernel_rfl) (by kernel_rfl) fun x => by kernel_rfl
theorem ok_ref10_plain : ConOK Tryz.prog (c_ref10_plain ref10_plain) :=
  okC (A := ⟨[], [], [], 0, [], [], []⟩) (exS := ⟨[.bool], []⟩) Tryz.f186 memN0 (by kernel_rfl) (by kernel_rfl) fun x => by kernel_rfl
theorem ok_ref10_listed : ConOK Tryz.prog (c_ref10_listed ref10_listed) :=
  okC (A := ⟨[c_ref10_plain ref10_plain], [], [], 0, [], [], []⟩) (exS := ⟨[.bool], []⟩) Tryz.f162 (memC ok_ref10_plain memN0) (by kernel_rfl) (by kernel_rfl) fun x => by kernel_rfl
theorem ok_ref10_medium : ConOK Tryz.prog (c_ref10_medium ref10_medium) :=
  okC (A := ⟨[c_ref01_Lower ref01_Lower], [], [], 0, [(4, ⟨[3], ⟨[.int .i64], []⟩, [0], [], [], 0, [], ⟨[], []⟩, []⟩)], [], []⟩) (exS := ⟨[.bool], []⟩) Tryz.f127 (memC ok_ref01_Lower memN0) (by kernel_rfl) (by kernel_rfl) fun x => by kernel_rfl
theorem ok_ref06_Is : ConOK Tryz.prog (c_ref06_Is ref06_Is) :=
  okC (A := ⟨[], [], [], 0, [], [], []⟩) (exS := ⟨[.bool], []⟩) Tryz.f170 memN0 (by kernel_rfl) (by kernel_rfl) fun x => by kernel_rfl
theorem ok_ref10_all : ConOK Tryz.prog (c_ref10_all ref10_all) :=
  okC (A := ⟨[c_ref10_listed ref10_listed, c_ref10_plain ref10_plain, c_ref10_medium ref10_medium, c_ref06_Is ref06_Is], [], [], 0, [(4, ⟨[4], ⟨[.int .i64], []⟩, [1], [0], [], 0, [], ⟨[], []⟩, []⟩)], [(5, ⟨[4], ⟨[.int .i64], []⟩, [], [], [], 0, [], ⟨[], []⟩, []⟩)], []⟩) (exS := ⟨[.bool, .bool], []⟩) Tryz.f187 (memC ok_ref10_listed (memC ok_ref10_plain (memC ok_ref10_medium (memC ok_ref06_Is memN0)))) (by kernel_rfl) (by kernel_rfl) fun x => by kernel_rfl
theorem ok_ref10_query : ConOK Tryz.prog (c_ref10_query ref10_query) :=
  okC (A := ⟨[c_ref10_listed ref10_listed, c_ref10_all ref10_all], [], [], 0, [], [], []⟩) (exS := ⟨[.bool], []⟩) Tryz.f163 (memC ok_ref10_listed (memC ok_ref10_all memN0)) (by kernel_rfl) (by kernel_rfl) fun x => by kernel_rfl
theorem ok_ref10_Medial : ConOK Tryz.prog (c_ref10_Medial ref10_Medial) :=
  okC (A := ⟨[c_ref10_listed ref10_listed, c_ref10_query ref10_query], [], [], 0, [(8, ⟨[3], ⟨[.int .i64], []⟩, [1], [0], [], 0, [], ⟨[], []⟩, []⟩)], [], []⟩) (exS := ⟨[.bool], []⟩) Tryz.f114 (memC ok_ref10_listed (memC ok_ref10_query memN0)) (by kernel_rfl) (by kernel_rfl) fun x => by kernel_rfl
theorem st_ref10_Deep (ref10_Deep : VCond → Option Int) (hs : ConOK Tryz.prog (c_ref10_Deep ref10_Deep)) : ConOK Tryz.prog (c_ref10_Deep (ref10_Deep_B ref10_Deep)) :=
  okC (A := ⟨[c_ref04_Deep ref04_Deep, c_ref10_Deep ref10_Deep], [], [], 0, [(7, ⟨[3, 4], ⟨[.int .i64, .int .i64], []⟩, [1, 2], [0], [], 0, [3], ⟨[.int .i64], []⟩, []⟩)], [(13, ⟨[3, 6], ⟨[.int .i64, .int .i64], []⟩, [4], [], [], 0, [], ⟨[], []⟩, []⟩)], []⟩) (exS := ⟨[.int .i64], []⟩) Tryz.f133 (memC ok_ref04_Deep (memC hs memN0)) (by kernel_rfl) (by kernel_rfl) fun x => by kernel_rfl
theorem ok_ref10_Deep : ConOK Tryz.prog (c_ref10_Deep ref10_Deep) :=
  ConOK.recE (I := I) (P := Tryz.prog) (f := 133) (inS := ⟨[.val 32], []⟩) (cst := []) (outS := ⟨[.int .i64], []⟩) (k := 0) (ref10_Deep_B) (by kernel_rfl) (fun S h => st_ref10_Deep S h)
theorem st_ref10_supported (ref10_supported : VCond → Option Bool) (hs : ConOK Tryz.prog (c_ref10_supported ref10_supported)) : ConOK Tryz.prog (c_ref10_supported (ref10_supported_B ref10_supported)) :=
  okC (A := ⟨[c_ref05_Check ref05_Check, c_ref10_listed ref10_listed, c_ref10_supported ref10_supported], [], [], 0, [(13, ⟨[3], ⟨[.int .i64], []⟩, [], [], [], 1, [], ⟨[], []⟩, []⟩)], [(10, ⟨[55], ⟨[.bool], []⟩, [1], [0], [], 0, [], ⟨[], []⟩, []⟩)], []⟩) (exS := ⟨[.bool], []⟩) Tryz.f134 (memC ok_ref05_Check (memC ok_ref10_listed (memC hs memN0))) (by kernel_rfl) (by kernel_rfl) fun x => by kernel_rfl
theorem ok_ref10_supported : ConOK Tryz.prog (c_ref10_supported ref10_supported) :=
  ConOK.recE (I := I) (P := Tryz.prog) (f := 134) (inS := ⟨[.val 32], []⟩) (cst := []) (outS := ⟨[.bool], []⟩) (k := 0) (ref10_supported_B) (by kernel_rfl) (fun S h => st_ref10_supported S h)
theorem ok_ref10_Supportive : ConOK Tryz.prog (c_ref10_Supportive ref10_Supportive) :=
  okC (A := ⟨[c_ref10_Size ref10_Size, c_ref10_Deep ref10_Deep, c_ref10_supported ref10_supported], [], [], 0, [], [], []⟩) (exS := ⟨[.bool], []⟩) Tryz.f76 (memC ok_ref10_Size (memC ok_ref10_Deep (memC ok_ref10_supported memN0))) (by kernel_rfl) (by kernel_rfl) fun x => by kernel_rfl
theorem ok_ref11_pathed : ConOK Tryz.prog (c_ref11_pathed ref11_pathed) :=
  okC (A := ⟨[c_ref08_Named ref08_Named], [], [], 0, [(4, ⟨[3], ⟨[.int .i64], []⟩, [0], [], [], 0, [], ⟨[], []⟩, []⟩)], [], []⟩) (exS := ⟨[.bool], []⟩) Tryz.f115 (memC ok_ref08_Named memN0) (by kernel_rfl) (by kernel_rfl) fun x => by kernel_rfl
theorem st_ref11_shaped (ref11_shaped : VRule → Option Bool) (hs : ConOK Tryz.prog (c_ref11_shaped ref11_shaped)) : ConOK Tryz.prog (c_ref11_shaped (ref11_shaped_B ref11_shaped)) :=
  okC (A := ⟨[c_ref08_Check ref08_Check, c_ref11_none ref11_none, c_ref05_Check ref05_Check, c_ref10_Medial ref10_Medial, c_ref10_Supportive ref10_Supportive, c_ref11_pathed ref11_pathed, c_ref11_shaped ref11_shaped], [], [], 0, [(8, ⟨[4], ⟨[.int .i64], []⟩, [1], [], [], 1, [], ⟨[], []⟩, []⟩), (26, ⟨[5], ⟨[.int .i64], []⟩, [], [], [], 3, [], ⟨[], []⟩, []⟩), (31, ⟨[6], ⟨[.int .i64], []⟩, [], [], [], 5, [], ⟨[], []⟩, []⟩)], [(25, ⟨[], ⟨[], []⟩, [1], [0], [], 0, [], ⟨[], []⟩, []⟩)], []⟩) (exS := ⟨[.bool], []⟩) Tryz.f57 (memC ok_ref08_Check (memC ok_ref11_none (memC ok_ref05_Check (memC ok_ref10_Medial (memC ok_ref10_Supportive (memC ok_ref11_pathed (memC hs memN0))))))) (by kernel_rfl) (by kernel_rfl) fun x => by kernel_rfl
theorem ok_ref11_shaped : ConOK Tryz.prog (c_ref11_shaped ref11_shaped) :=
  ConOK.recE (I := I) (P := Tryz.prog) (f := 57) (inS := ⟨[.val 35], []⟩) (cst := []) (outS := ⟨[.bool], []⟩) (k := 0) (ref11_shaped_B) (by kernel_rfl) (fun S h => st_ref11_shaped S h)
theorem ok_ref08_First : ConOK Tryz.prog (c_ref08_First ref08_First) :=
  okC (A := ⟨[], [], [], 0, [], [], []⟩) (exS := ⟨[.bool], []⟩) Tryz.f165 memN0 (by kernel_rfl) (by kernel_rfl) fun x => by kernel_rfl
theorem st_ref11_selected (ref11_selected : List VComplex → Option Int) (hs : ConOK Tryz.prog (c_ref11_selected ref11_selected)) : ConOK Tryz.prog (c_ref11_selected (ref11_selected_B ref11_selected)) :=
  okC (A := ⟨[c_ref08_First ref08_First, c_ref11_selected ref11_selected], [], [], 0, [(3, ⟨[3, 4], ⟨[.int .i64, .int .i64], []⟩, [0, 2], [], [], 0, [3], ⟨[.int .i64], []⟩, []⟩), (6, ⟨[3, 5], ⟨[.int .i64, .int .i64], []⟩, [4], [], [], 2, [3], ⟨[.int .i64], []⟩, []⟩), (10, ⟨[3, 7], ⟨[.int .i64, .int .i64], []⟩, [5, 6], [], [], 4, [3], ⟨[.int .i64], []⟩, []⟩)], [(11, ⟨[3, 7], ⟨[.int .i64, .int .i64], []⟩, [], [], [], 0, [], ⟨[], []⟩, []⟩)], []⟩) (exS := ⟨[.int .i64], []⟩) Tryz.f116 (memC ok_ref08_First (memC hs memN0)) (by kernel_rfl) (by kernel_rfl) fun x => by kernel_rfl
theorem ok_ref11_selected : ConOK Tryz.prog (c_ref11_selected ref11_selected) :=
  ConOK.recE (I := I) (P := Tryz.prog) (f := 116) (inS := ⟨[.sl 137], []⟩) (cst := []) (outS := ⟨[.int .i64], []⟩) (k := 0) (ref11_selected_B) (by kernel_rfl) (fun S h => st_ref11_selected S h)
theorem ok_ref11_conditioned : ConOK Tryz.prog (c_ref11_conditioned ref11_conditioned) :=
  okC (A := ⟨[c_ref10_Deep ref10_Deep], [], [], 0, [(5, ⟨[3, 4], ⟨[.int .i64, .int .i64], []⟩, [1, 2], [0], [], 0, [3], ⟨[.int .i64], []⟩, []⟩), (11, ⟨[3, 6], ⟨[.int .i64, .int .i64], []⟩, [], [1], [], 2, [3], ⟨[.int .i64], []⟩, []⟩)], [(10, ⟨[3], ⟨[.int .i64], [(1, .row 32)]⟩, [4, 5], [], [1], 0, [], ⟨[], []⟩, []⟩), (12, ⟨[3, 6], ⟨[.int .i64, .int .i64], []⟩, [], [], [], 0, [], ⟨[], []⟩, []⟩)], []⟩) (exS := ⟨[.int .i64], []⟩) Tryz.f117 (memC ok_ref10_Deep memN0) (by kernel_rfl) (by kernel_rfl) fun x => by kernel_rfl
theorem st_ref11_Deep (ref11_Deep : List VRule → Option Int) (hs : ConOK Tryz.prog (c_ref11_Deep ref11_Deep)) : ConOK Tryz.prog (c_ref11_Deep (ref11_Deep_B ref11_Deep)) :=
  okC (A := ⟨[c_ref11_Deep ref11_Deep, c_ref04_Deep ref04_Deep, c_ref11_selected ref11_selected, c_ref11_conditioned ref11_conditioned], [], [], 0, [(3, ⟨[3, 4], ⟨[.int .i64, .int .i64], []⟩, [0, 2], [], [], 0, [3], ⟨[.int .i64], []⟩, []⟩), (8, ⟨[5, 6], ⟨[.int .i64, .int .i64], []⟩, [3, 4], [], [], 2, [5], ⟨[.int .i64], []⟩, []⟩)], [(4, ⟨[3, 4], ⟨[.int .i64, .int .i64], []⟩, [], [], [], 0, [], ⟨[], []⟩, []⟩)], []⟩) (exS := ⟨[.int .i64], []⟩) Tryz.f58 (memC hs (memC ok_ref04_Deep (memC ok_ref11_selected (memC ok_ref11_conditioned memN0)))) (by kernel_rfl) (by kernel_rfl) fun x => by kernel_rfl
theorem ok_ref11_Deep : ConOK Tryz.prog (c_ref11_Deep ref11_Deep) :=
  ConOK.recE (I := I) (P := Tryz.prog) (f := 58) (inS := ⟨[.sl 35], []⟩) (cst := []) (outS := ⟨[.int .i64], []⟩) (k := 0) (ref11_Deep_B) (by kernel_rfl) (fun S h => st_ref11_Deep S h)
theorem ok_ref11_Valid : ConOK Tryz.prog (c_ref11_Valid ref11_Valid) :=
  okC (A := ⟨[c_ref11_Number ref11_Number, c_ref11_shaped ref11_shaped, c_ref11_Deep ref11_Deep], [], [], 0, [(4, ⟨[3], ⟨[.int .i64], []⟩, [0], [], [], 0, [], ⟨[], []⟩, []⟩)], [], []⟩) (exS := ⟨[.bool], []⟩) Tryz.f28 (memC ok_ref11_Number (memC ok_ref11_shaped (memC ok_ref11_Deep memN0))) (by kernel_rfl) (by kernel_rfl) fun x => by kernel_rfl
theorem ok_ref11_Check : ConOK Tryz.prog (c_ref11_Check ref11_Check) :=
  okC (A := ⟨[c_ref11_Valid ref11_Valid], [], [], 0, [], [], []⟩) (exS := ⟨[.int .i64], []⟩) Tryz.f10 (memC ok_ref11_Valid memN0) (by kernel_rfl) (by kernel_rfl) fun x => by kernel_rfl
theorem ok_ref11_Count : ConOK Tryz.prog (c_ref11_Count ref11_Count) :=
  okC (A := ⟨[c_ref11_Check ref11_Check, c_ref11_Number ref11_Number], [], [], 0, [], [], []⟩) (exS := ⟨[.int .i64, .int .i64], []⟩) Tryz.f8 (memC ok_ref11_Check (memC ok_ref11_Number memN0)) (by kernel_rfl) (by kernel_rfl) fun x => by kernel_rfl
theorem ok_sheet_CheckRule : ConOK Tryz.prog (c_sheet_CheckRule sheet_CheckRule) :=
  okC (A := ⟨[c_sheet_check sheet_check], [(1, [1])], [], 0, [], [], []⟩) (exS := ⟨[.int .i64], []⟩) Tryz.f11 (memC ok_sheet_check memN0) (by kernel_rfl) (by kernel_rfl) fun x => by kernel_rfl
theorem ok_ref11_CheckRule : ConOK Tryz.prog (c_ref11_CheckRule ref11_CheckRule) :=
  okC (A := ⟨[c_ref11_Check ref11_Check], [(1, [1])], [], 0, [], [], []⟩) (exS := ⟨[.int .i64], []⟩) Tryz.f12 (memC ok_ref11_Check memN0) (by kernel_rfl) (by kernel_rfl) fun x => by kernel_rfl
theorem ok_law11_SheetChecks : ConOK Tryz.prog (c_law11_SheetChecks law11_SheetChecks) :=
  okC (A := ⟨[c_ref11_Great ref11_Great, c_sheet_Count sheet_Count, c_ref11_Count ref11_Count, c_sheet_Check sheet_Check, c_ref11_Check ref11_Check, c_sheet_CheckRule sheet_CheckRule, c_ref11_CheckRule ref11_CheckRule], [(1, [5])], [], 0, [], [], []⟩) (exS := ⟨[.bool], []⟩) Tryz.f3 (memC ok_ref11_Great (memC ok_sheet_Count (memC ok_ref11_Count (memC ok_sheet_Check (memC ok_ref11_Check (memC ok_sheet_CheckRule (memC ok_ref11_CheckRule memN0))))))) (by kernel_rfl) (by kernel_rfl) fun x => by kernel_rfl
end Go.Lv.VT
