/- SheetKept: an input that fits. -/
import Derived.Test.YtbgmaekmfjhfoaaGreatDoorGl
set_option linter.unusedSimpArgs false
set_option linter.unusedVariables false
namespace Go.Proofs.YtbgmaekmfjhfoaaGreatDoor.sheetKept
open Go.ChangeShapes Go.WideShapes Go.ChangeAt Go.RowKit Go.Lv
set_option maxRecDepth 100000
theorem own:ownKnob Tryz.prog.godebug=none:=by kernel_rfl
theorem zBY(os:Os):laidMet Tryz.prog Hr ((uF os #[.string ⟨#[]⟩, .string ⟨#[]⟩, .string ⟨#[]⟩]).forCall (fun _ _=>0) ⟨#[],#[.string ⟨#[]⟩, .string ⟨#[]⟩, .string ⟨#[]⟩],[]⟩).memory:=
 laidMet_of_run' 300 (by kernel_rfl) (by kernel_rfl)
theorem zGO(os:Os){H:Type}(enc:TypeId×Value->H): ∃places,DataW.whole enc Tryz.prog ((uF os #[.string ⟨#[]⟩, .string ⟨#[]⟩, .string ⟨#[]⟩]).forCall (fun _ _=>0) ⟨#[],#[.string ⟨#[]⟩, .string ⟨#[]⟩, .string ⟨#[]⟩],[]⟩).memory Tryz.f3.params.toList Rows.sheetKeptSpec.vars false (#[.string ⟨#[]⟩, .string ⟨#[]⟩, .string ⟨#[]⟩]:Array Value).toList 8=some ([.lit (.string []), .lit (.string []), .lit (.string [])],[],places):=
 ⟨[],by kernel_rfl⟩
theorem witness(os:Os)(H:Type)(enc:TypeId×Value->H): ∃(w:World) (tape:Tape) (i:Input),w.os=os/\(w.forCall tape i).Shaped Tryz.checked.prog/\i.vars=[]/\Input.okWide Tryz.checked.prog (w.forCall tape i) .any w.heap.size 3 i/\
   (OpenSpec.ofChange Rows.sheetKeptSpec).preRow enc Tryz.checked.prog Tryz.f3 Rows.sheetKeptRow.domain false Rows.sheetKeptRow.laid (w.forCall tape i).memory i.args/\({}:Assume).holds Tryz.checked.prog (lone (Frame.enter Tryz.checked.prog 3 i.args .normal) [] (w.forCall tape i)):=by
 obtain⟨places,hx⟩:=zGO os enc;exact witness_row_at (enc:=enc) (C:=Tryz.checked) false (uF os #[.string ⟨#[]⟩, .string ⟨#[]⟩, .string ⟨#[]⟩]) #[.string ⟨#[]⟩, .string ⟨#[]⟩, .string ⟨#[]⟩] rfl (by kernel_rfl) (by kernel_rfl) (by kernel_rfl)
   (OpenSpec.preRow_of_cond 8 hx (by kernel_rfl) (fun k hk=>by cases hk) (by kernel_rfl) (zBY os))
end Go.Proofs.YtbgmaekmfjhfoaaGreatDoor.sheetKept
