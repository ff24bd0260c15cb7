/- DeclMark: an input that fits. -/
import Derived.Test.YtcdeccnjlkkejaaGreatDoorGl
set_option linter.unusedSimpArgs false
set_option linter.unusedVariables false
namespace Go.Proofs.YtcdeccnjlkkejaaGreatDoor.declMark
open Go.ChangeShapes Go.WideShapes Go.ChangeAt Go.RowKit Go.Lv
set_option maxRecDepth 100000
theorem own:ownKnob Tryz.prog.godebug=none:=by kernel_rfl
theorem zAD(os:Os):laidMet Tryz.prog Pk ((gG os #[.agg #[.string ⟨#[]⟩, .slice none 0 0, .bool false]]).forCall (fun _ _=>0) ⟨#[],#[.agg #[.string ⟨#[]⟩, .slice none 0 0, .bool false]],[]⟩).memory:=
 laidMet_of_run' 300 (by kernel_rfl) (by kernel_rfl)
theorem zFA(os:Os){H:Type}(enc:TypeId×Value->H): ∃places,DataW.whole enc Tryz.prog ((gG os #[.agg #[.string ⟨#[]⟩, .slice none 0 0, .bool false]]).forCall (fun _ _=>0) ⟨#[],#[.agg #[.string ⟨#[]⟩, .slice none 0 0, .bool false]],[]⟩).memory Tryz.f13.params.toList Rows.declMarkSpec.vars false (#[.agg #[.string ⟨#[]⟩, .slice none 0 0, .bool false]]:Array Value).toList 8=some ([.agg [.lit (.string []), .nil, .lit (.bool false)]],[],places):=
 ⟨[],by kernel_rfl⟩
theorem witness(os:Os)(H:Type)(enc:TypeId×Value->H): ∃(w:World) (tape:Tape) (i:Input),w.os=os/\(w.forCall tape i).Shaped Tryz.checked.prog/\i.vars=[]/\Input.okWide Tryz.checked.prog (w.forCall tape i) .any w.heap.size 13 i/\
   (Rows.OpenSpec.upto Rows.declMarkSpec).preRow enc Tryz.checked.prog Tryz.f13 Rows.declMarkUptoRow.domain false Rows.declMarkUptoRow.laid (w.forCall tape i).memory i.args/\({}:Assume).holds Tryz.checked.prog (lone (Frame.enter Tryz.checked.prog 13 i.args .normal) [] (w.forCall tape i)):=by
 obtain⟨places,hx⟩:=zFA os enc;exact witness_row_at (enc:=enc) (C:=Tryz.checked) false (gG os #[.agg #[.string ⟨#[]⟩, .slice none 0 0, .bool false]]) #[.agg #[.string ⟨#[]⟩, .slice none 0 0, .bool false]] rfl (by kernel_rfl) (by kernel_rfl) (by kernel_rfl)
   (OpenSpec.preRow_of_cond 8 hx (by kernel_rfl) (fun k hk=>by cases hk;kernel_rfl) (by kernel_rfl) (zAD os))
end Go.Proofs.YtcdeccnjlkkejaaGreatDoor.declMark
