/- DeclBack: an input that fits. -/
import Derived.Test.YtcdeccnjlkkejaaGreatDoorGl
set_option linter.unusedSimpArgs false
set_option linter.unusedVariables false
namespace Go.Proofs.YtcdeccnjlkkejaaGreatDoor.declBack
open Go.ChangeShapes Go.WideShapes Go.ChangeAt Go.RowKit Go.Lv
set_option maxRecDepth 100000
theorem own:ownKnob Tryz.prog.godebug=none:=by kernel_rfl
theorem zAC(os:Os):laidMet Tryz.prog Uk ((gG os #[.string ⟨#[]⟩, .slice none 0 0]).forCall (fun _ _=>0) ⟨#[],#[.string ⟨#[]⟩, .slice none 0 0],[]⟩).memory:=
 laidMet_of_run' 300 (by kernel_rfl) (by kernel_rfl)
theorem zFH(os:Os){H:Type}(enc:TypeId×Value->H): ∃places,DataW.whole enc Tryz.prog ((gG os #[.string ⟨#[]⟩, .slice none 0 0]).forCall (fun _ _=>0) ⟨#[],#[.string ⟨#[]⟩, .slice none 0 0],[]⟩).memory Tryz.f14.params.toList Rows.declBackSpec.vars false (#[.string ⟨#[]⟩, .slice none 0 0]:Array Value).toList 8=some ([.lit (.string []), .nil],[],places):=
 ⟨[],by kernel_rfl⟩
theorem witness(os:Os)(H:Type)(enc:TypeId×Value->H): ∃(w:World) (tape:Tape) (i:Input),w.os=os/\(w.forCall tape i).Shaped Tryz.checked.prog/\i.vars=[]/\Input.okWide Tryz.checked.prog (w.forCall tape i) .any w.heap.size 14 i/\
   (Rows.OpenSpec.upto Rows.declBackSpec).preRow enc Tryz.checked.prog Tryz.f14 Rows.declBackUptoRow.domain false Rows.declBackUptoRow.laid (w.forCall tape i).memory i.args/\({}:Assume).holds Tryz.checked.prog (lone (Frame.enter Tryz.checked.prog 14 i.args .normal) [] (w.forCall tape i)):=by
 obtain⟨places,hx⟩:=zFH os enc;exact witness_row_at (enc:=enc) (C:=Tryz.checked) false (gG os #[.string ⟨#[]⟩, .slice none 0 0]) #[.string ⟨#[]⟩, .slice none 0 0] rfl (by kernel_rfl) (by kernel_rfl) (by kernel_rfl)
   (OpenSpec.preRow_of_cond 8 hx (by kernel_rfl) (fun k hk=>by cases hk;kernel_rfl) (by kernel_rfl) (zAC os))
end Go.Proofs.YtcdeccnjlkkejaaGreatDoor.declBack
