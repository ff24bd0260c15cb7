/- RoundUndo: an input that fits. -/
import Derived.Test.YtanfjibdgcalfaaGreatDoorGl
set_option linter.unusedSimpArgs false
set_option linter.unusedVariables false
namespace Go.Proofs.YtanfjibdgcalfaaGreatDoor.roundUndo
open Go.ChangeShapes Go.WideShapes Go.ChangeAt Go.RowKit Go.Lv
set_option maxRecDepth 100000
theorem own:ownKnob Tryz.prog.godebug=none:=by kernel_rfl
theorem zKZ(os:Os):laidMet Tryz.prog Mj ((SF os #[.agg #[.slice none 0 0], .agg #[.int .u8 0, .slice none 0 0, .slice none 0 0, .int .u8 0, .string ⟨#[]⟩, .int .i64 0, .string ⟨#[]⟩, .slice none 0 0, .bool false, .slice none 0 0, .slice none 0 0, .slice none 0 0], .int .i64 0]).forCall (fun _ _=>0) ⟨#[],#[.agg #[.slice none 0 0], .agg #[.int .u8 0, .slice none 0 0, .slice none 0 0, .int .u8 0, .string ⟨#[]⟩, .int .i64 0, .string ⟨#[]⟩, .slice none 0 0, .bool false, .slice none 0 0, .slice none 0 0, .slice none 0 0], .int .i64 0],[]⟩).memory:=
 laidMet_of_run' 300 (by kernel_rfl) (by kernel_rfl)
theorem zN5(os:Os){H:Type}(enc:TypeId×Value->H): ∃places,DataW.whole enc Tryz.prog ((SF os #[.agg #[.slice none 0 0], .agg #[.int .u8 0, .slice none 0 0, .slice none 0 0, .int .u8 0, .string ⟨#[]⟩, .int .i64 0, .string ⟨#[]⟩, .slice none 0 0, .bool false, .slice none 0 0, .slice none 0 0, .slice none 0 0], .int .i64 0]).forCall (fun _ _=>0) ⟨#[],#[.agg #[.slice none 0 0], .agg #[.int .u8 0, .slice none 0 0, .slice none 0 0, .int .u8 0, .string ⟨#[]⟩, .int .i64 0, .string ⟨#[]⟩, .slice none 0 0, .bool false, .slice none 0 0, .slice none 0 0, .slice none 0 0], .int .i64 0],[]⟩).memory Tryz.f4.params.toList Rows.roundUndoSpec.vars false (#[.agg #[.slice none 0 0], .agg #[.int .u8 0, .slice none 0 0, .slice none 0 0, .int .u8 0, .string ⟨#[]⟩, .int .i64 0, .string ⟨#[]⟩, .slice none 0 0, .bool false, .slice none 0 0, .slice none 0 0, .slice none 0 0], .int .i64 0]:Array Value).toList 8=some ([.agg [.nil], .agg [.lit (.int .u8 0), .nil, .nil, .agg [.lit (.int .u8 0), .lit (.string []), .lit (.int .i64 0), .agg [.lit (.string []), .nil, .lit (.bool false)], .nil], .nil, .nil], .lit (.int .i64 0)],[],places):=
 ⟨[],by kernel_rfl⟩
theorem witness(os:Os)(H:Type)(enc:TypeId×Value->H): ∃(w:World) (tape:Tape) (i:Input),w.os=os/\(w.forCall tape i).Shaped Tryz.checked.prog/\i.vars=[]/\Input.okWide Tryz.checked.prog (w.forCall tape i) .any w.heap.size 4 i/\
   (Rows.OpenSpec.upto Rows.roundUndoSpec).preRow enc Tryz.checked.prog Tryz.f4 Rows.roundUndoUptoRow.domain false Rows.roundUndoUptoRow.laid (w.forCall tape i).memory i.args/\({}:Assume).holds Tryz.checked.prog (lone (Frame.enter Tryz.checked.prog 4 i.args .normal) [] (w.forCall tape i)):=by
 obtain⟨places,hx⟩:=zN5 os enc;exact witness_row_at (enc:=enc) (C:=Tryz.checked) false (SF os #[.agg #[.slice none 0 0], .agg #[.int .u8 0, .slice none 0 0, .slice none 0 0, .int .u8 0, .string ⟨#[]⟩, .int .i64 0, .string ⟨#[]⟩, .slice none 0 0, .bool false, .slice none 0 0, .slice none 0 0, .slice none 0 0], .int .i64 0]) #[.agg #[.slice none 0 0], .agg #[.int .u8 0, .slice none 0 0, .slice none 0 0, .int .u8 0, .string ⟨#[]⟩, .int .i64 0, .string ⟨#[]⟩, .slice none 0 0, .bool false, .slice none 0 0, .slice none 0 0, .slice none 0 0], .int .i64 0] rfl (by kernel_rfl) (by kernel_rfl) (by kernel_rfl)
   (OpenSpec.preRow_of_cond 8 hx (by kernel_rfl) (fun k hk=>by cases hk;kernel_rfl) (by kernel_rfl) (zKZ os))
end Go.Proofs.YtanfjibdgcalfaaGreatDoor.roundUndo
