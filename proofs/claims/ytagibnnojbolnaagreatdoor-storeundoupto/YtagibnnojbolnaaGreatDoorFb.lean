/- StoreUndo: an input that fits. -/
import Derived.Test.YtagibnnojbolnaaGreatDoorGl
set_option linter.unusedSimpArgs false
set_option linter.unusedVariables false
namespace Go.Proofs.YtagibnnojbolnaaGreatDoor.storeUndo
open Go.ChangeShapes Go.WideShapes Go.ChangeAt Go.RowKit Go.Lv
set_option maxRecDepth 100000
theorem own:ownKnob Tryz.prog.godebug=none:=by kernel_rfl
theorem zJL(os:Os):laidMet Tryz.prog Gu ((UJ os #[.agg #[.slice none 0 0, .int .i64 0], .int .u8 0, .string ⟨#[]⟩, .string ⟨#[]⟩]).forCall (fun _ _=>0) ⟨#[],#[.agg #[.slice none 0 0, .int .i64 0], .int .u8 0, .string ⟨#[]⟩, .string ⟨#[]⟩],[]⟩).memory:=
 laidMet_of_run' 300 (by kernel_rfl) (by kernel_rfl)
theorem zOf(os:Os){H:Type}(enc:TypeId×Value->H): ∃places,DataW.whole enc Tryz.prog ((UJ os #[.agg #[.slice none 0 0, .int .i64 0], .int .u8 0, .string ⟨#[]⟩, .string ⟨#[]⟩]).forCall (fun _ _=>0) ⟨#[],#[.agg #[.slice none 0 0, .int .i64 0], .int .u8 0, .string ⟨#[]⟩, .string ⟨#[]⟩],[]⟩).memory Tryz.f3.params.toList Rows.storeUndoSpec.vars false (#[.agg #[.slice none 0 0, .int .i64 0], .int .u8 0, .string ⟨#[]⟩, .string ⟨#[]⟩]:Array Value).toList 8=some ([.agg [.nil, .lit (.int .i64 0)], .lit (.int .u8 0), .lit (.string []), .lit (.string [])],[],places):=
 ⟨[],by kernel_rfl⟩
theorem witness(os:Os)(H:Type)(enc:TypeId×Value->H): ∃(w:World) (tape:Tape) (i:Input),w.os=os/\(w.forCall tape i).Shaped Tryz.checked.prog/\i.vars=[]/\Input.okWide Tryz.checked.prog (w.forCall tape i) .any w.heap.size 3 i/\
   (Rows.OpenSpec.upto Rows.storeUndoSpec).preRow enc Tryz.checked.prog Tryz.f3 Rows.storeUndoUptoRow.domain false Rows.storeUndoUptoRow.laid (w.forCall tape i).memory i.args/\({}:Assume).holds Tryz.checked.prog (lone (Frame.enter Tryz.checked.prog 3 i.args .normal) [] (w.forCall tape i)):=by
 obtain⟨places,hx⟩:=zOf os enc;exact witness_row_at (enc:=enc) (C:=Tryz.checked) false (UJ os #[.agg #[.slice none 0 0, .int .i64 0], .int .u8 0, .string ⟨#[]⟩, .string ⟨#[]⟩]) #[.agg #[.slice none 0 0, .int .i64 0], .int .u8 0, .string ⟨#[]⟩, .string ⟨#[]⟩] rfl (by kernel_rfl) (by kernel_rfl) (by kernel_rfl)
   (OpenSpec.preRow_of_cond 8 hx (by kernel_rfl) (fun k hk=>by cases hk;kernel_rfl) (by kernel_rfl) (zJL os))
end Go.Proofs.YtagibnnojbolnaaGreatDoor.storeUndo
