/- CondWide: an input that fits. -/
import Derived.Test.YtkecjfeffabgiaaGreatDoorGl
set_option linter.unusedSimpArgs false
set_option linter.unusedVariables false
namespace Go.Proofs.YtkecjfeffabgiaaGreatDoor.condWide
open Go.ChangeShapes Go.WideShapes Go.ChangeAt Go.RowKit Go.Lv
set_option maxRecDepth 100000
theorem own:ownKnob Tryz.prog.godebug=none:=by kernel_rfl
theorem RS(os:Os):laidMet Tryz.prog Bi ((KC os #[.agg #[.int .u8 0, .string ⟨#[]⟩, .int .i64 0, .string ⟨#[]⟩, .slice none 0 0, .bool false, .slice none 0 0], .int .i64 0, .int .i64 0]).forCall (fun _ _=>0) ⟨#[],#[.agg #[.int .u8 0, .string ⟨#[]⟩, .int .i64 0, .string ⟨#[]⟩, .slice none 0 0, .bool false, .slice none 0 0], .int .i64 0, .int .i64 0],[]⟩).memory:=
 laidMet_of_run' 300 (by kernel_rfl) (by kernel_rfl)
theorem OP(os:Os){H:Type}(enc:TypeId×Value->H): ∃places,DataW.whole enc Tryz.prog ((KC os #[.agg #[.int .u8 0, .string ⟨#[]⟩, .int .i64 0, .string ⟨#[]⟩, .slice none 0 0, .bool false, .slice none 0 0], .int .i64 0, .int .i64 0]).forCall (fun _ _=>0) ⟨#[],#[.agg #[.int .u8 0, .string ⟨#[]⟩, .int .i64 0, .string ⟨#[]⟩, .slice none 0 0, .bool false, .slice none 0 0], .int .i64 0, .int .i64 0],[]⟩).memory Tryz.f7.params.toList Rows.condWideSpec.vars false (#[.agg #[.int .u8 0, .string ⟨#[]⟩, .int .i64 0, .string ⟨#[]⟩, .slice none 0 0, .bool false, .slice none 0 0], .int .i64 0, .int .i64 0]:Array Value).toList 8=some ([.agg [.lit (.int .u8 0), .lit (.string []), .lit (.int .i64 0), .agg [.lit (.string []), .nil, .lit (.bool false)], .nil], .lit (.int .i64 0), .lit (.int .i64 0)],[],places):=
 ⟨[],by kernel_rfl⟩
theorem witness(os:Os)(H:Type)(enc:TypeId×Value->H): ∃(w:World) (tape:Tape) (i:Input),w.os=os/\(w.forCall tape i).Shaped Tryz.checked.prog/\i.vars=[]/\Input.okWide Tryz.checked.prog (w.forCall tape i) .any w.heap.size 7 i/\
   (Rows.OpenSpec.upto Rows.condWideSpec).preRow enc Tryz.checked.prog Tryz.f7 Rows.condWideUptoRow.domain false Rows.condWideUptoRow.laid (w.forCall tape i).memory i.args/\({}:Assume).holds Tryz.checked.prog (lone (Frame.enter Tryz.checked.prog 7 i.args .normal) [] (w.forCall tape i)):=by
 obtain⟨places,hx⟩:=OP os enc;exact witness_row_at (enc:=enc) (C:=Tryz.checked) false (KC os #[.agg #[.int .u8 0, .string ⟨#[]⟩, .int .i64 0, .string ⟨#[]⟩, .slice none 0 0, .bool false, .slice none 0 0], .int .i64 0, .int .i64 0]) #[.agg #[.int .u8 0, .string ⟨#[]⟩, .int .i64 0, .string ⟨#[]⟩, .slice none 0 0, .bool false, .slice none 0 0], .int .i64 0, .int .i64 0] rfl (by kernel_rfl) (by kernel_rfl) (by kernel_rfl)
   (OpenSpec.preRow_of_cond 8 hx (by kernel_rfl) (fun k hk=>by cases hk;kernel_rfl) (by kernel_rfl) (RS os))
end Go.Proofs.YtkecjfeffabgiaaGreatDoor.condWide
