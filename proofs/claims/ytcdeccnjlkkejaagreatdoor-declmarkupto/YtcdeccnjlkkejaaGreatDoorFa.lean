/- DeclMark: what the row asks of a call. -/
import Derived.Test.YtcdeccnjlkkejaaGreatDoorGl
import Derived.Test.YtcdeccnjlkkejaaGreatDoorCo
import Derived.Test.YtcdeccnjlkkejaaGreatDoorRd
import Derived.Test.YtcdeccnjlkkejaaGreatDoorNg
set_option linter.unusedSimpArgs false
set_option linter.unusedVariables false
namespace Go.Proofs.YtcdeccnjlkkejaaGreatDoor.declMark
open Go.ChangeShapes Go.WideShapes Go.ChangeAt Go.RowKit Go.Lv Go.Lv.VT
set_option maxRecDepth 100000
theorem UF{H:Type}: ∀(l:List (DataW H)),Rows.uptoBulkAll l=(l.map Rows.uptoBulk).sum
 |[]=>by rw[Rows.uptoBulkAll];rfl
 |d::l=>by rw[Rows.uptoBulkAll,UF l];rfl
theorem zEB:zBQ @Rows.uptoBulk where
 one:=fun {H} d=>by
  cases d with
  |lit l=>cases l<;>simp[Rows.uptoBulk]
  |nil=>simp[Rows.uptoBulk]
  |ptr d=>simp[Rows.uptoBulk]
  |slice elems spare=>simp[Rows.uptoBulk]
  |agg parts=>simp[Rows.uptoBulk]
  |iface t d=>simp[Rows.uptoBulk]
  |map entries=>simp[Rows.uptoBulk]
  |held h=>simp[Rows.uptoBulk]
 str:=fun l=>by simp[Rows.uptoBulk]
 slice:=fun a b=>by rw[Rows.uptoBulk,UF];omega
 agg:=fun a=>by rw[Rows.uptoBulk,UF];omega
theorem contract (H:Type) (enc:TypeId×Value->H) (W:World) (base:Nat) (args:Array Value) (ds gs:List (DataW H)) (before:List MemPlace)
  (hval: ∀(j:Nat) t v,Tryz.f13.params[j]? =some t->args[j]? =some v->Value.okWide Tryz.prog W .any base t v)
  (hW:DataW.Whole enc Tryz.prog Tryz.f13.params.toList Rows.declMarkSpec.vars false W args.toList ds gs before) (hL:laidMetH Tryz.prog Pk W) (hS:W.ShapedOpen Tryz.prog) (hk:Rows.uptoSmall H (ds++gs)=true):
  Calls Tryz.prog 13 args W fun e W'=> ∃v,e= .returned v/\Rows.declMarkSpec.post enc Tryz.prog Tryz.f13 false true false false W args v W':=by
 have hW':=hW;obtain⟨p,q,hA0,hV,rfl,hfz,hnd⟩:=hW;have hA:DataW.TrodAll enc Tryz.prog W 0 (fun _=>true) true Tryz.f13.params.toList args.toList ds p:=hA0;rw[Tryz.params13]at hA hval;obtain⟨v0,vs0,d0,ds0,p0,q0,hargs,rfl,rfl,h0,r0⟩:=trodAll_cons hA;obtain⟨rfl,rfl,rfl⟩:=trodAll_nil r0;obtain rfl:args= #[v0]:=by cases args;simp_all
 obtain⟨rfl,rfl⟩:=trodVars_none hV;have hb:Rows.uptoBulkAll ([d0]++[])<=1048576:=Vb hk;obtain⟨f0,t0⟩:=h0;obtain⟨x0,a0,b0,_⟩: ∃x0:zJ,bg W v0.cells.toList (Im x0)/\jf (Im x0)<=Rows.uptoBulk d0/\wh (Im x0):=reads ipOK ipRd zEB enc W f0 66 _ d0 p0 (by simp[gd]) t0;simp only[Sa,Ob,Ra,Rows.uptoBulkAll]at hb;have s0:=zD6 (d:=x0) (by omega);have ha:Tg noA W (((KU IC).inS.sl I).enc x0).1 #[v0]:=by exact mZ (zFY (xs:=I.exp 66 x0) rfl Tryz.underlying66 (hval 0 66 v0 rfl rfl) (by rw[<-ipOK.exp 66 x0];exact a0)) PX
 refine(lY (I:=I) zj8 (x:=x0) (y:=true) (H6 s0) (b:=true) rfl rfl (zES hS hL) ha).mono fun e W' ⟨he,hbl⟩=> ?_;subst he;refine⟨_,rfl,zAF (tb:=4) (pa:=p0++[]) hW' rfl rfl Tryz.underlying4 rfl rfl (fun sp hsp=> ?_) (Ra _) hbl⟩;have hlt: ∀x∈p0++[],x.block<W.heap.size:=fun x hx=>hW'.lt x (by simpa using hx);exact JS (by kernel_rfl) hbl sp _ _ _ _ (by rw[Tryz.params13];intro t ht;simp at ht;subst ht;exact⟨by kernel_rfl,Vb (by kernel_rfl)⟩) hA0 hlt (fun x hx=>hsp x (by simpa using hx))
end Go.Proofs.YtcdeccnjlkkejaaGreatDoor.declMark
