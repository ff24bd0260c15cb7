/- DeclReads: an input that fits. -/
import Derived.Test.YtcdeccnjlkkejaaGreatDoorGl
set_option linter.unusedSimpArgs false
set_option linter.unusedVariables false
namespace Go.Proofs.YtcdeccnjlkkejaaGreatDoor.declReads
open Go.ChangeShapes Go.WideShapes Go.ChangeAt Go.RowKit Go.Lv
set_option maxRecDepth 100000
theorem own:ownKnob Tryz.prog.godebug=none:=by kernel_rfl
theorem NV(os:Os):laidMet Tryz.prog mF ((yG os #[.slice none 0 0, .string ⟨#[]⟩]).forCall (fun _ _=>0) ⟨#[],#[.slice none 0 0, .string ⟨#[]⟩],[]⟩).memory:=
 laidMet_of_run' 300 (by kernel_rfl) (by kernel_rfl)
theorem zCz(os:Os){H:Type}(enc:TypeId×Value->H): ∃places,DataW.whole enc Tryz.prog ((yG os #[.slice none 0 0, .string ⟨#[]⟩]).forCall (fun _ _=>0) ⟨#[],#[.slice none 0 0, .string ⟨#[]⟩],[]⟩).memory Tryz.f8.params.toList Rows.declReadsSpec.vars false (#[.slice none 0 0, .string ⟨#[]⟩]:Array Value).toList 8=some ([.nil, .lit (.string [])],[],places):=
 ⟨[],by kernel_rfl⟩
theorem witness(os:Os)(H:Type)(enc:TypeId×Value->H): ∃(w:World) (tape:Tape) (i:Input),w.os=os/\(w.forCall tape i).Shaped Tryz.checked.prog/\i.vars=[]/\Input.okWide Tryz.checked.prog (w.forCall tape i) .any w.heap.size 8 i/\
   (Rows.OpenSpec.upto Rows.declReadsSpec).preRow enc Tryz.checked.prog Tryz.f8 Rows.declReadsUptoRow.domain false Rows.declReadsUptoRow.laid (w.forCall tape i).memory i.args/\({}:Assume).holds Tryz.checked.prog (lone (Frame.enter Tryz.checked.prog 8 i.args .normal) [] (w.forCall tape i)):=by
 obtain⟨places,hx⟩:=zCz os enc;exact witness_row_at (enc:=enc) (C:=Tryz.checked) false (yG os #[.slice none 0 0, .string ⟨#[]⟩]) #[.slice none 0 0, .string ⟨#[]⟩] rfl (by kernel_rfl) (by kernel_rfl) (by kernel_rfl)
   (OpenSpec.preRow_of_cond 8 hx (by kernel_rfl) (fun k hk=>by cases hk;kernel_rfl) (by kernel_rfl) (NV os))
end Go.Proofs.YtcdeccnjlkkejaaGreatDoor.declReads
