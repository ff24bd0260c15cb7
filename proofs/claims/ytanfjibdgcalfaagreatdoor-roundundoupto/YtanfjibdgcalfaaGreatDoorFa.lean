/- RoundUndo: what the row asks of a call. -/
import Derived.Test.YtanfjibdgcalfaaGreatDoorGl
import Derived.Test.YtanfjibdgcalfaaGreatDoorCo
import Derived.Test.YtanfjibdgcalfaaGreatDoorRd
import Derived.Test.YtanfjibdgcalfaaGreatDoorXd
set_option linter.unusedSimpArgs false
set_option linter.unusedVariables false
namespace Go.Proofs.YtanfjibdgcalfaaGreatDoor.roundUndo
open Go.ChangeShapes Go.WideShapes Go.ChangeAt Go.RowKit Go.Lv Go.Lv.VT
set_option maxRecDepth 100000
theorem kK{H:Type}: ∀(l:List (DataW H)),Rows.uptoBulkAll l=(l.map Rows.uptoBulk).sum
 |[]=>by rw[Rows.uptoBulkAll];rfl
 |d::l=>by rw[Rows.uptoBulkAll,kK l];rfl
theorem NK:zLB @Rows.uptoBulk where
 one:=fun {H} d=>by
  cases d with
  |lit l=>cases l<;>simp[Rows.uptoBulk]
  |nil=>simp[Rows.uptoBulk]
  |ptr d=>simp[Rows.uptoBulk]
  |slice elems spare=>simp[Rows.uptoBulk]
  |agg parts=>simp[Rows.uptoBulk]
  |iface t d=>simp[Rows.uptoBulk]
  |map entries=>simp[Rows.uptoBulk]
  |held h=>simp[Rows.uptoBulk]
 str:=fun l=>by simp[Rows.uptoBulk]
 slice:=fun a b=>by rw[Rows.uptoBulk,kK];omega
 agg:=fun a=>by rw[Rows.uptoBulk,kK];omega
theorem contract (H:Type) (enc:TypeId×Value->H) (W:World) (base:Nat) (args:Array Value) (ds gs:List (DataW H)) (before:List MemPlace)
  (hval: ∀(j:Nat) t v,Tryz.f4.params[j]? =some t->args[j]? =some v->Value.okWide Tryz.prog W .any base t v)
  (hW:DataW.Whole enc Tryz.prog Tryz.f4.params.toList Rows.roundUndoSpec.vars false W args.toList ds gs before) (hL:laidMetH Tryz.prog Mj W) (hS:W.ShapedOpen Tryz.prog) (hk:Rows.uptoSmall H (ds++gs)=true):
  Calls Tryz.prog 4 args W fun e W'=> ∃v,e= .returned v/\Rows.roundUndoSpec.post enc Tryz.prog Tryz.f4 false true false false W args v W':=by
 have hW':=hW;obtain⟨p,q,hA0,hV,rfl,hfz,hnd⟩:=hW;have hA:DataW.TrodAll enc Tryz.prog W 0 (fun _=>true) true Tryz.f4.params.toList args.toList ds p:=hA0;rw[Tryz.params4]at hA hval;obtain⟨v0,vs0,d0,ds0,p0,q0,hargs,rfl,rfl,h0,r0⟩:=trodAll_cons hA;obtain⟨v1,vs1,d1,ds1,p1,q1,rfl,rfl,rfl,h1,r1⟩:=trodAll_cons r0;obtain⟨v2,vs2,d2,ds2,p2,q2,rfl,rfl,rfl,h2,r2⟩:=trodAll_cons r1;obtain⟨rfl,rfl,rfl⟩:=trodAll_nil r2;obtain rfl:args= #[v0,v1,v2]:=by cases args;simp_all
 obtain⟨rfl,rfl⟩:=trodVars_none hV;have hb:Rows.uptoBulkAll ([d0,d1,d2]++[])<=1048576:=Fb hk;obtain⟨f0,t0⟩:=h0;obtain⟨f1,t1⟩:=h1;obtain⟨f2,t2⟩:=h2;obtain⟨x0,a0,b0,_⟩: ∃x0:ZN,Xf W v0.cells.toList (gp x0)/\zI (gp x0)<=Rows.uptoBulk d0/\Yg (gp x0):=reads ipOK ipRd NK enc W f0 25 _ d0 p0 (by simp[gd]) t0;obtain⟨x1,a1,b1,_⟩: ∃x1:zC,Xf W v1.cells.toList (zD x1)/\zI (zD x1)<=Rows.uptoBulk d1/\Yg (zD x1):=reads ipOK ipRd NK enc W f1 39 _ d1 p1 (by simp[gd]) t1;obtain⟨x2,a2,b2,_⟩: ∃x2:Int,Xf W v2.cells.toList [.at (.int .i64 x2)]/\zI [.at (.int .i64 x2)]<=Rows.uptoBulk d2/\Yg [.at (.int .i64 x2)]:=reads ipOK ipRd NK enc W f2 3 _ d2 p2 (by simp[gd]) t2;simp only[Gd,Ad,Td,Rows.uptoBulkAll]at hb;have hs0:zI (gp x0)=1+zL zD x0.rules:=by unfold gp;simp only[zI,bPV,zL];omega
 have hs:zL zD x0.rules+zI (zD x1)<=big:=by unfold big;omega
 have ha:Vf noA W (((VQ LC).inS.sl I).enc (x0,x1,x2)).1 #[v0,v1,v2]:=by exact YF (wR (xs:=I.exp 25 x0) rfl Tryz.underlying25 (hval 0 25 v0 rfl rfl) (by rw[<-ipOK.exp 25 x0];exact a0)) (YF (wR (xs:=I.exp 39 x1) rfl Tryz.underlying39 (hval 1 39 v1 rfl rfl) (by rw[<-ipOK.exp 39 x1];exact a1)) (YF (zOd rfl (hu:=om) (by intro fs h;cases h) (by intro n e h;cases h) (hval 2 3 v2 rfl rfl) a2) zKe))
 refine(zIN (I:=I) zp7 (x:=(x0,x1,x2)) (y:=true) (zB6 (l:=x0.rules) hs zNq) (b:=true) rfl rfl (zNL hS hL) ha).mono fun e W' ⟨he,hbl⟩=> ?_;subst he;refine⟨_,rfl,zK1 (tb:=4) (pa:=p0++(p1++(p2++[]))) hW' rfl rfl Tryz.underlying4 rfl rfl (fun sp hsp=> ?_) (Td _) hbl⟩;have hlt: ∀x∈p0++(p1++(p2++[])),x.block<W.heap.size:=fun x hx=>hW'.lt x (by simpa using hx);exact sN (by kernel_rfl) hbl sp _ _ _ _ (by rw[Tryz.params4];intro t ht;simp at ht;rcases ht with rfl|rfl|rfl<;>exact⟨by kernel_rfl,Fb (by kernel_rfl)⟩) hA0 hlt (fun x hx=>hsp x (by simpa using hx))
end Go.Proofs.YtanfjibdgcalfaaGreatDoor.roundUndo
