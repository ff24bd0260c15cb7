/- RoundNames: what the row asks of a call. -/
import Derived.Test.YtanfjibdgcalfaaGreatDoorGl
import Derived.Test.YtanfjibdgcalfaaGreatDoorCo
import Derived.Test.YtanfjibdgcalfaaGreatDoorRd
import Derived.Test.YtanfjibdgcalfaaGreatDoorXa
set_option linter.unusedSimpArgs false
set_option linter.unusedVariables false
namespace Go.Proofs.YtanfjibdgcalfaaGreatDoor.roundNames
open Go.ChangeShapes Go.WideShapes Go.ChangeAt Go.RowKit Go.Lv Go.Lv.VT
set_option maxRecDepth 100000
theorem contract (H:Type) (enc:TypeId×Value->H) (W:World) (base:Nat) (args:Array Value) (ds gs:List (DataW H)) (before:List MemPlace)
  (hval: ∀(j:Nat) t v,Tryz.f5.params[j]? =some t->args[j]? =some v->Value.okWide Tryz.prog W .any base t v)
  (hW:DataW.Whole enc Tryz.prog Tryz.f5.params.toList Rows.roundNamesSpec.vars false W args.toList ds gs before) (hL:laidMetH Tryz.prog Cg W) (hS:W.ShapedOpen Tryz.prog):
  Calls Tryz.prog 5 args W fun e W'=> ∃v,e= .returned v/\Rows.roundNamesSpec.post enc Tryz.prog Tryz.f5 false true false false W args v W':=by
 have hW':=hW;obtain⟨p,q,hA0,hV,rfl,hfz,hnd⟩:=hW;have hA:DataW.TrodAll enc Tryz.prog W 0 (fun _=>true) true Tryz.f5.params.toList args.toList ds p:=hA0;rw[Tryz.params5]at hA hval;obtain⟨hnil,rfl,rfl⟩:=trodAll_nil hA;obtain rfl:args= #[]:=by cases args;simp_all
 obtain⟨rfl,rfl⟩:=trodVars_none hV;refine(xM (I:=I) WT (x:=()) (y:=true) eQ (b:=true) rfl rfl (iL hS hL) (vs:= #[]) VN).mono fun e W' ⟨he,hbl⟩=> ?_;subst he;refine⟨_,rfl,nL (tb:=4) (pa:=[]) hW' rfl rfl Tryz.underlying4 rfl rfl (fun sp hsp=> ?_) rfl hbl⟩;rw[Tryz.params5];exact trodAll_mk0
end Go.Proofs.YtanfjibdgcalfaaGreatDoor.roundNames
