/- CssomNames: what the row asks of a call. -/
import Derived.Test.YtamhhfdcmkbofaaGreatDoorGl
import Derived.Test.YtamhhfdcmkbofaaGreatDoorCo
import Derived.Test.YtamhhfdcmkbofaaGreatDoorRd
import Derived.Test.YtamhhfdcmkbofaaGreatDoorXa
set_option linter.unusedSimpArgs false
set_option linter.unusedVariables false
namespace Go.Proofs.YtamhhfdcmkbofaaGreatDoor.cssomNames
open Go.ChangeShapes Go.WideShapes Go.ChangeAt Go.RowKit Go.Lv Go.Lv.VT
set_option maxRecDepth 100000
theorem contract (H:Type) (enc:TypeId×Value->H) (W:World) (base:Nat) (args:Array Value) (ds gs:List (DataW H)) (before:List MemPlace)
  (hval: ∀(j:Nat) t v,Tryz.f3.params[j]? =some t->args[j]? =some v->Value.okWide Tryz.prog W .any base t v)
  (hW:DataW.Whole enc Tryz.prog Tryz.f3.params.toList Rows.cssomNamesSpec.vars false W args.toList ds gs before) (hL:laidMetH Tryz.prog Uf W) (hS:W.ShapedOpen Tryz.prog):
  Calls Tryz.prog 3 args W fun e W'=> ∃v,e= .returned v/\Rows.cssomNamesSpec.post enc Tryz.prog Tryz.f3 false true false false W args v W':=by
 have hW':=hW;obtain⟨p,q,hA0,hV,rfl,hfz,hnd⟩:=hW;have hA:DataW.TrodAll enc Tryz.prog W 0 (fun _=>true) true Tryz.f3.params.toList args.toList ds p:=hA0;rw[Tryz.params3]at hA hval;obtain⟨hnil,rfl,rfl⟩:=trodAll_nil hA;obtain rfl:args= #[]:=by cases args;simp_all
 obtain⟨rfl,rfl⟩:=trodVars_none hV;refine(KJ (I:=I) SV (x:=()) (y:=true) NQ (b:=true) rfl rfl (XG hS hL) (vs:= #[]) XI).mono fun e W' ⟨he,hbl⟩=> ?_;subst he;refine⟨_,rfl,wI (tb:=4) (pa:=[]) hW' rfl rfl Tryz.underlying4 rfl rfl (fun sp hsp=> ?_) rfl hbl⟩;rw[Tryz.params3];exact trodAll_mk0
end Go.Proofs.YtamhhfdcmkbofaaGreatDoor.cssomNames
