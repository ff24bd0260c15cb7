/- CondBack: what the row asks of a call. -/
import Derived.Test.YtkecjfeffabgiaaGreatDoorGl
import Derived.Test.YtkecjfeffabgiaaGreatDoorCo
import Derived.Test.YtkecjfeffabgiaaGreatDoorRd
import Derived.Test.YtkecjfeffabgiaaGreatDoorXm
set_option linter.unusedSimpArgs false
set_option linter.unusedVariables false
namespace Go.Proofs.YtkecjfeffabgiaaGreatDoor.condBack
open Go.ChangeShapes Go.WideShapes Go.ChangeAt Go.RowKit Go.Lv Go.Lv.VT
set_option maxRecDepth 100000
theorem FJ{H:Type}: ∀(l:List (DataW H)),Rows.uptoBulkAll l=(l.map Rows.uptoBulk).sum
 |[]=>by rw[Rows.uptoBulkAll];rfl
 |d::l=>by rw[Rows.uptoBulkAll,FJ l];rfl
theorem A7:zFK @Rows.uptoBulk where
 one:=fun {H} d=>by
  cases d with
  |lit l=>cases l<;>simp[Rows.uptoBulk]
  |nil=>simp[Rows.uptoBulk]
  |ptr d=>simp[Rows.uptoBulk]
  |slice elems spare=>simp[Rows.uptoBulk]
  |agg parts=>simp[Rows.uptoBulk]
  |iface t d=>simp[Rows.uptoBulk]
  |map entries=>simp[Rows.uptoBulk]
  |held h=>simp[Rows.uptoBulk]
 str:=fun l=>by simp[Rows.uptoBulk]
 slice:=fun a b=>by rw[Rows.uptoBulk,FJ];omega
 agg:=fun a=>by rw[Rows.uptoBulk,FJ];omega
theorem contract (H:Type) (enc:TypeId×Value->H) (W:World) (base:Nat) (args:Array Value) (ds gs:List (DataW H)) (before:List MemPlace)
  (hval: ∀(j:Nat) t v,Tryz.f6.params[j]? =some t->args[j]? =some v->Value.okWide Tryz.prog W .any base t v)
  (hW:DataW.Whole enc Tryz.prog Tryz.f6.params.toList Rows.condBackSpec.vars false W args.toList ds gs before) (hL:laidMetH Tryz.prog yn W) (hS:W.ShapedOpen Tryz.prog) (hk:Rows.uptoSmall H (ds++gs)=true):
  Calls Tryz.prog 6 args W fun e W'=> ∃v,e= .returned v/\Rows.condBackSpec.post enc Tryz.prog Tryz.f6 false true false false W args v W':=by
 have hW':=hW;obtain⟨p,q,hA0,hV,rfl,hfz,hnd⟩:=hW;have hA:DataW.TrodAll enc Tryz.prog W 0 (fun _=>true) true Tryz.f6.params.toList args.toList ds p:=hA0;rw[Tryz.params6]at hA hval;obtain⟨v0,vs0,d0,ds0,p0,q0,hargs,rfl,rfl,h0,r0⟩:=trodAll_cons hA;obtain⟨v1,vs1,d1,ds1,p1,q1,rfl,rfl,rfl,h1,r1⟩:=trodAll_cons r0;obtain⟨rfl,rfl,rfl⟩:=trodAll_nil r1;obtain rfl:args= #[v0,v1]:=by cases args;simp_all
 obtain⟨rfl,rfl⟩:=trodVars_none hV;have hb:Rows.uptoBulkAll ([d0,d1]++[])<=1048576:=Ac hk;obtain⟨f0,t0⟩:=h0;obtain⟨f1,t1⟩:=h1;obtain⟨x0,a0,b0,_⟩: ∃x0:zf,wh W v0.cells.toList (zm x0)/\zx (zm x0)<=Rows.uptoBulk d0/\Kj (zm x0):=reads ipOK ipRd A7 enc W f0 27 _ d0 p0 (by simp[gd]) t0;obtain⟨x1,a1,b1,_⟩: ∃x1:zf,wh W v1.cells.toList (zm x1)/\zx (zm x1)<=Rows.uptoBulk d1/\Kj (zm x1):=reads ipOK ipRd A7 enc W f1 27 _ d1 p1 (by simp[gd]) t1;simp only[Sa,Pb,Xa,Rows.uptoBulkAll]at hb;have s0:zx (zm x0)<=1048576:=by omega
 have s1:zx (zm x1)<=1048576:=by omega
 have ha:uh noA W (((XY xG).inS.sl I).enc (x0,x1)).1 #[v0,v1]:=by exact JU (K4 (xs:=I.exp 27 x0) rfl Tryz.underlying27 (hval 0 27 v0 rfl rfl) (by rw[<-ipOK.exp 27 x0];exact a0)) (JU (K4 (xs:=I.exp 27 x1) rfl Tryz.underlying27 (hval 1 27 v1 rfl rfl) (by rw[<-ipOK.exp 27 x1];exact a1)) zDn)
 refine(zA4 (I:=I) zk6 (x:=(x0,x1)) (y:=true) (zuO s0 s1) (b:=true) rfl rfl (zJE hS hL) ha).mono fun e W' ⟨he,hbl⟩=> ?_;subst he;refine⟨_,rfl,zEl (tb:=4) (pa:=p0++(p1++[])) hW' rfl rfl Tryz.underlying4 rfl rfl (fun sp hsp=> ?_) (Xa _) hbl⟩;have hlt: ∀x∈p0++(p1++[]),x.block<W.heap.size:=fun x hx=>hW'.lt x (by simpa using hx);exact wW (by kernel_rfl) hbl sp _ _ _ _ (by rw[Tryz.params6];intro t ht;simp at ht;rcases ht with rfl|rfl<;>exact⟨by kernel_rfl,Ac (by kernel_rfl)⟩) hA0 hlt (fun x hx=>hsp x (by simpa using hx))
end Go.Proofs.YtkecjfeffabgiaaGreatDoor.condBack
