/- NestTexts: what the row asks of a call. -/
import Derived.Test.YtcdeccnjlkkejaaGreatDoorGl
import Derived.Test.YtcdeccnjlkkejaaGreatDoorCo
import Derived.Test.YtcdeccnjlkkejaaGreatDoorRd
import Derived.Test.YtcdeccnjlkkejaaGreatDoorNe
set_option linter.unusedSimpArgs false
set_option linter.unusedVariables false
namespace Go.Proofs.YtcdeccnjlkkejaaGreatDoor.nestTexts
open Go.ChangeShapes Go.WideShapes Go.ChangeAt Go.RowKit Go.Lv Go.Lv.VT
set_option maxRecDepth 100000
theorem uF{H:Type}: ∀(l:List (DataW H)),Rows.uptoBulkAll l=(l.map Rows.uptoBulk).sum
 |[]=>by rw[Rows.uptoBulkAll];rfl
 |d::l=>by rw[Rows.uptoBulkAll,uF l];rfl
theorem zCU:zAt @Rows.uptoBulk where
 one:=fun {H} d=>by
  cases d with
  |lit l=>cases l<;>simp[Rows.uptoBulk]
  |nil=>simp[Rows.uptoBulk]
  |ptr d=>simp[Rows.uptoBulk]
  |slice elems spare=>simp[Rows.uptoBulk]
  |agg parts=>simp[Rows.uptoBulk]
  |iface t d=>simp[Rows.uptoBulk]
  |map entries=>simp[Rows.uptoBulk]
  |held h=>simp[Rows.uptoBulk]
 str:=fun l=>by simp[Rows.uptoBulk]
 slice:=fun a b=>by rw[Rows.uptoBulk,uF];omega
 agg:=fun a=>by rw[Rows.uptoBulk,uF];omega
theorem contract (H:Type) (enc:TypeId×Value->H) (W:World) (base:Nat) (args:Array Value) (ds gs:List (DataW H)) (before:List MemPlace)
  (hval: ∀(j:Nat) t v,Tryz.f7.params[j]? =some t->args[j]? =some v->Value.okWide Tryz.prog W .any base t v)
  (hW:DataW.Whole enc Tryz.prog Tryz.f7.params.toList Rows.nestTextsSpec.vars false W args.toList ds gs before) (hL:laidMetH Tryz.prog uk W) (hS:W.ShapedOpen Tryz.prog):
  Calls Tryz.prog 7 args W fun e W'=> ∃v,e= .returned v/\Rows.nestTextsSpec.post enc Tryz.prog Tryz.f7 false true false false W args v W':=by
 have hW':=hW;obtain⟨p,q,hA0,hV,rfl,hfz,hnd⟩:=hW;have hA:DataW.TrodAll enc Tryz.prog W 0 (fun _=>true) true Tryz.f7.params.toList args.toList ds p:=hA0;rw[Tryz.params7]at hA hval;obtain⟨v0,vs0,d0,ds0,p0,q0,hargs,rfl,rfl,h0,r0⟩:=trodAll_cons hA;obtain⟨rfl,rfl,rfl⟩:=trodAll_nil r0;obtain rfl:args= #[v0]:=by cases args;simp_all
 obtain⟨rfl,rfl⟩:=trodVars_none hV;obtain⟨f0,t0⟩:=h0;obtain⟨x0,a0,b0,_⟩: ∃x0:Str,Bh W v0.cells.toList [.str x0]/\jg [.str x0]<=Rows.uptoBulk d0/\Li [.str x0]:=reads ipOK ipRd zCU enc W f0 9 _ d0 p0 (by simp[gd]) t0;have ha:Ai noA W ((((KU FE).inS.sl I).enc x0).1.map (trT (fun i=>i) (lk []))) #[v0]:=by exact M3 (zD0 (hu:=uo) (by intro fs h;cases h) (by intro n e h;cases h) (hval 0 9 v0 rfl rfl) a0) NY
 refine(YZ (I:=I) zhW rfl rfl rfl (x:=x0) (y:=true) (T9 x0) (b:=true) rfl rfl rfl (zDb hS hL) ha).mono fun e W' ⟨he,hbl⟩=> ?_;subst he;refine⟨_,rfl,dW (tb:=4) (pa:=p0++[]) hW' rfl rfl Tryz.underlying4 rfl rfl (fun sp hsp=> ?_) (Bb _) hbl⟩;have hlt: ∀x∈p0++[],x.block<W.heap.size:=fun x hx=>hW'.lt x (by simpa using hx);exact wR (by kernel_rfl) hbl sp _ _ _ _ (by rw[Tryz.params7];intro t ht;simp at ht;subst ht;exact⟨by kernel_rfl,Gc (by kernel_rfl)⟩) hA0 hlt (fun x hx=>hsp x (by simpa using hx))
end Go.Proofs.YtcdeccnjlkkejaaGreatDoor.nestTexts
