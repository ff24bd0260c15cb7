/- GlueWrites: an input that fits. -/
import Derived.Test.YtnfhfeipljhciaaGreatDoorGl
set_option linter.unusedSimpArgs false
set_option linter.unusedVariables false
namespace Go.Proofs.YtnfhfeipljhciaaGreatDoor.glueWrites
open Go.ChangeShapes Go.WideShapes Go.ChangeAt Go.RowKit Go.Lv
set_option maxRecDepth 100000
theorem own:ownKnob Tryz.prog.godebug=none:=by kernel_rfl
theorem pX(os:Os):laidMet Tryz.prog Rl ((uG os #[.slice none 0 0, .agg #[.int .u8 0, .string ⟨#[]⟩, .int .i64 0, .string ⟨#[]⟩, .bool false], .string ⟨#[]⟩]).forCall (fun _ _=>0) ⟨#[],#[.slice none 0 0, .agg #[.int .u8 0, .string ⟨#[]⟩, .int .i64 0, .string ⟨#[]⟩, .bool false], .string ⟨#[]⟩],[]⟩).memory:=
 laidMet_of_run' 300 (by kernel_rfl) (by kernel_rfl)
theorem zCv(os:Os){H:Type}(enc:TypeId×Value->H): ∃places,DataW.whole enc Tryz.prog ((uG os #[.slice none 0 0, .agg #[.int .u8 0, .string ⟨#[]⟩, .int .i64 0, .string ⟨#[]⟩, .bool false], .string ⟨#[]⟩]).forCall (fun _ _=>0) ⟨#[],#[.slice none 0 0, .agg #[.int .u8 0, .string ⟨#[]⟩, .int .i64 0, .string ⟨#[]⟩, .bool false], .string ⟨#[]⟩],[]⟩).memory Tryz.f8.params.toList Rows.glueWritesSpec.vars false (#[.slice none 0 0, .agg #[.int .u8 0, .string ⟨#[]⟩, .int .i64 0, .string ⟨#[]⟩, .bool false], .string ⟨#[]⟩]:Array Value).toList 8=some ([.nil, .agg [.lit (.int .u8 0), .lit (.string []), .lit (.int .i64 0), .lit (.string []), .lit (.bool false)], .lit (.string [])],[],places):=
 ⟨[],by kernel_rfl⟩
theorem witness(os:Os)(H:Type)(enc:TypeId×Value->H): ∃(w:World) (tape:Tape) (i:Input),w.os=os/\(w.forCall tape i).Shaped Tryz.checked.prog/\i.vars=[]/\Input.okWide Tryz.checked.prog (w.forCall tape i) .any w.heap.size 8 i/\
   (Rows.OpenSpec.upto Rows.glueWritesSpec).preRow enc Tryz.checked.prog Tryz.f8 Rows.glueWritesUptoRow.domain false Rows.glueWritesUptoRow.laid (w.forCall tape i).memory i.args/\({}:Assume).holds Tryz.checked.prog (lone (Frame.enter Tryz.checked.prog 8 i.args .normal) [] (w.forCall tape i)):=by
 obtain⟨places,hx⟩:=zCv os enc;exact witness_row_at (enc:=enc) (C:=Tryz.checked) false (uG os #[.slice none 0 0, .agg #[.int .u8 0, .string ⟨#[]⟩, .int .i64 0, .string ⟨#[]⟩, .bool false], .string ⟨#[]⟩]) #[.slice none 0 0, .agg #[.int .u8 0, .string ⟨#[]⟩, .int .i64 0, .string ⟨#[]⟩, .bool false], .string ⟨#[]⟩] rfl (by kernel_rfl) (by kernel_rfl) (by kernel_rfl)
   (OpenSpec.preRow_of_cond 8 hx (by kernel_rfl) (fun k hk=>by cases hk;kernel_rfl) (by kernel_rfl) (pX os))
end Go.Proofs.YtnfhfeipljhciaaGreatDoor.glueWrites
