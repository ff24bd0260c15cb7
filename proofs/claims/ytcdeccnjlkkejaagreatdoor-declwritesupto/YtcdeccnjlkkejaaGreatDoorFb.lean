/- DeclWrites: an input that fits. -/
import Derived.Test.YtcdeccnjlkkejaaGreatDoorGl
set_option linter.unusedSimpArgs false
set_option linter.unusedVariables false
namespace Go.Proofs.YtcdeccnjlkkejaaGreatDoor.declWrites
open Go.ChangeShapes Go.WideShapes Go.ChangeAt Go.RowKit Go.Lv
set_option maxRecDepth 100000
theorem own:ownKnob Tryz.prog.godebug=none:=by kernel_rfl
theorem gW(os:Os):laidMet Tryz.prog Ck ((KG os #[.agg #[.string ⟨#[]⟩, .slice none 0 0, .bool false], .slice none 0 0]).forCall (fun _ _=>0) ⟨#[],#[.agg #[.string ⟨#[]⟩, .slice none 0 0, .bool false], .slice none 0 0],[]⟩).memory:=
 laidMet_of_run' 300 (by kernel_rfl) (by kernel_rfl)
theorem zCt(os:Os){H:Type}(enc:TypeId×Value->H): ∃places,DataW.whole enc Tryz.prog ((KG os #[.agg #[.string ⟨#[]⟩, .slice none 0 0, .bool false], .slice none 0 0]).forCall (fun _ _=>0) ⟨#[],#[.agg #[.string ⟨#[]⟩, .slice none 0 0, .bool false], .slice none 0 0],[]⟩).memory Tryz.f10.params.toList Rows.declWritesSpec.vars false (#[.agg #[.string ⟨#[]⟩, .slice none 0 0, .bool false], .slice none 0 0]:Array Value).toList 8=some ([.agg [.lit (.string []), .nil, .lit (.bool false)], .nil],[],places):=
 ⟨[],by kernel_rfl⟩
theorem witness(os:Os)(H:Type)(enc:TypeId×Value->H): ∃(w:World) (tape:Tape) (i:Input),w.os=os/\(w.forCall tape i).Shaped Tryz.checked.prog/\i.vars=[]/\Input.okWide Tryz.checked.prog (w.forCall tape i) .any w.heap.size 10 i/\
   (Rows.OpenSpec.upto Rows.declWritesSpec).preRow enc Tryz.checked.prog Tryz.f10 Rows.declWritesUptoRow.domain false Rows.declWritesUptoRow.laid (w.forCall tape i).memory i.args/\({}:Assume).holds Tryz.checked.prog (lone (Frame.enter Tryz.checked.prog 10 i.args .normal) [] (w.forCall tape i)):=by
 obtain⟨places,hx⟩:=zCt os enc;exact witness_row_at (enc:=enc) (C:=Tryz.checked) false (KG os #[.agg #[.string ⟨#[]⟩, .slice none 0 0, .bool false], .slice none 0 0]) #[.agg #[.string ⟨#[]⟩, .slice none 0 0, .bool false], .slice none 0 0] rfl (by kernel_rfl) (by kernel_rfl) (by kernel_rfl)
   (OpenSpec.preRow_of_cond 8 hx (by kernel_rfl) (fun k hk=>by cases hk;kernel_rfl) (by kernel_rfl) (gW os))
end Go.Proofs.YtcdeccnjlkkejaaGreatDoor.declWrites
