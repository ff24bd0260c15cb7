/- NestTexts: what the row asks of a call. -/
import Derived.Test.YtcdeccnjlkkejaaGreatDoorGl
import Derived.Test.YtcdeccnjlkkejaaGreatDoorCo
import Derived.Test.YtcdeccnjlkkejaaGreatDoorRd
import Derived.Test.YtcdeccnjlkkejaaGreatDoorNe
set_option linter.unusedSimpArgs false
set_option linter.unusedVariables false
namespace Go.Proofs.YtcdeccnjlkkejaaGreatDoor.nestTexts
open Go.ChangeShapes Go.WideShapes Go.ChangeAt Go.RowKit Go.Lv Go.Lv.VT
set_option maxRecDepth 100000
theorem mG{H:Type}: ∀(l:List (DataW H)),Rows.uptoBulkAll l=(l.map Rows.uptoBulk).sum
 |[]=>by rw[Rows.uptoBulkAll];rfl
 |d::l=>by rw[Rows.uptoBulkAll,mG l];rfl
theorem zDu:zAZ @Rows.uptoBulk where
 one:=fun {H} d=>by
  cases d with
  |lit l=>cases l<;>simp[Rows.uptoBulk]
  |nil=>simp[Rows.uptoBulk]
  |ptr d=>simp[Rows.uptoBulk]
  |slice f i=>simp[Rows.uptoBulk]
  |agg parts=>simp[Rows.uptoBulk]
  |j t d=>simp[Rows.uptoBulk]
  |map c=>simp[Rows.uptoBulk]
  |m h=>simp[Rows.uptoBulk]
 str:=fun l=>by simp[Rows.uptoBulk]
 slice:=fun a b=>by rw[Rows.uptoBulk,mG];omega
 agg:=fun a=>by rw[Rows.uptoBulk,mG];omega
theorem contract (H:Type) (enc:TypeId×Value->H) (W:World) (base:Nat) (args:Array Value) (U gs:List (DataW H)) (c:List MemPlace)
  (d: ∀(j:Nat) t v,Tryz.f7.params[j]? =some t->args[j]? =some v->Value.okWide Tryz.prog W .any base t v)
  (V:DataW.Whole enc Tryz.prog Tryz.f7.params.toList Rows.nestTextsSpec.vars false W args.toList U gs c) (hL:laidMetH Tryz.prog Gm W) (hS:W.ShapedOpen Tryz.prog):
  Calls Tryz.prog 7 args W fun e Y=> ∃v,e= .returned v/\Rows.nestTextsSpec.post enc Tryz.prog Tryz.f7 false true false false W args v Y:=by
 have m:=V;obtain⟨p,q,r,hV,rfl,a3,a5⟩:=V;have Z:DataW.TrodAll enc Tryz.prog W 0 (fun _=>true) true Tryz.f7.params.toList args.toList U p:=r;rw[Tryz.params7]at Z d;obtain⟨z,a6,d0,a7,A,q0,B,rfl,rfl,h0,r0⟩:=trodAll_cons Z;obtain⟨rfl,rfl,rfl⟩:=trodAll_nil r0;obtain rfl:args= #[z]:=by cases args;simp_all
 obtain⟨rfl,rfl⟩:=trodVars_none hV;obtain⟨f0,t0⟩:=h0;obtain⟨f,a0,b0,_⟩: ∃f:Str,Bi W z.cells.toList [.str f]/\jh [.str f]<=Rows.uptoBulk d0/\Lj [.str f]:=reads ipOK ipRd zDu enc W f0 9 _ d0 A (by simp[gd]) t0;have ha:Ej noA W ((((YV DF).inS.sl I).enc f).1.map (trT (fun i=>i) (lk []))) #[z]:=by exact J4 (zEz (hu:=pq) (by intro fs h;cases h) (by intro n e h;cases h) (d 0 9 z rfl rfl) a0) WZ
 refine(kZ (I:=I) zh6 rfl rfl rfl (x:=f) (y:=true) (zpU f) (b:=true) rfl rfl rfl (zDL hS hL) ha).mono fun e Y ⟨he,u⟩=> ?_;subst he;refine⟨_,rfl,VY (tb:=4) (pa:=A++[]) m rfl rfl Tryz.underlying4 rfl rfl (fun sp J=> ?_) (Ab _) u⟩;have L: ∀x∈A++[],x.block<W.heap.size:=fun x O=>m.lt x (by simpa using O);exact CU (by kernel_rfl) u sp _ _ _ _ (by rw[Tryz.params7];intro t ht;simp at ht;subst ht;exact⟨by kernel_rfl,Jc (by kernel_rfl)⟩) r L (fun x O=>J x (by simpa using O))
end Go.Proofs.YtcdeccnjlkkejaaGreatDoor.nestTexts
