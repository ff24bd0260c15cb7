/- DeclWrites: what the row asks of a call. -/
import Derived.Test.YtcdeccnjlkkejaaGreatDoorGl
import Derived.Test.YtcdeccnjlkkejaaGreatDoorCo
import Derived.Test.YtcdeccnjlkkejaaGreatDoorRd
import Derived.Test.YtcdeccnjlkkejaaGreatDoorNg
set_option linter.unusedSimpArgs false
set_option linter.unusedVariables false
namespace Go.Proofs.YtcdeccnjlkkejaaGreatDoor.declWrites
open Go.ChangeShapes Go.WideShapes Go.ChangeAt Go.RowKit Go.Lv Go.Lv.VT
set_option maxRecDepth 100000
theorem JE{H:Type}: ∀(l:List (DataW H)),Rows.uptoBulkAll l=(l.map Rows.uptoBulk).sum
 |[]=>by rw[Rows.uptoBulkAll];rfl
 |d::l=>by rw[Rows.uptoBulkAll,JE l];rfl
theorem JJ:zyU @Rows.uptoBulk where
 one:=fun {H} d=>by
  cases d with
  |lit l=>cases l<;>simp[Rows.uptoBulk]
  |nil=>simp[Rows.uptoBulk]
  |ptr d=>simp[Rows.uptoBulk]
  |slice elems spare=>simp[Rows.uptoBulk]
  |agg parts=>simp[Rows.uptoBulk]
  |iface t d=>simp[Rows.uptoBulk]
  |map entries=>simp[Rows.uptoBulk]
  |held h=>simp[Rows.uptoBulk]
 str:=fun l=>by simp[Rows.uptoBulk]
 slice:=fun a b=>by rw[Rows.uptoBulk,JE];omega
 agg:=fun a=>by rw[Rows.uptoBulk,JE];omega
theorem contract (H:Type) (enc:TypeId×Value->H) (W:World) (base:Nat) (args:Array Value) (ds gs:List (DataW H)) (before:List MemPlace)
  (hval: ∀(j:Nat) t v,Tryz.f10.params[j]? =some t->args[j]? =some v->Value.okWide Tryz.prog W .any base t v)
  (hW:DataW.Whole enc Tryz.prog Tryz.f10.params.toList Rows.declWritesSpec.vars false W args.toList ds gs before) (hL:laidMetH Tryz.prog Ck W) (hS:W.ShapedOpen Tryz.prog) (hk:Rows.uptoSmall H (ds++gs)=true):
  Calls Tryz.prog 10 args W fun e W'=> ∃v,e= .returned v/\Rows.declWritesSpec.post enc Tryz.prog Tryz.f10 false true false false W args v W':=by
 have hW':=hW;obtain⟨p,q,hA0,hV,rfl,hfz,hnd⟩:=hW;have hA:DataW.TrodAll enc Tryz.prog W 0 (fun _=>true) true Tryz.f10.params.toList args.toList ds p:=hA0;rw[Tryz.params10]at hA hval;obtain⟨v0,vs0,d0,ds0,p0,q0,hargs,rfl,rfl,h0,r0⟩:=trodAll_cons hA;obtain⟨v1,vs1,d1,ds1,p1,q1,rfl,rfl,rfl,h1,r1⟩:=trodAll_cons r0;obtain⟨rfl,rfl,rfl⟩:=trodAll_nil r1;obtain rfl:args= #[v0,v1]:=by cases args;simp_all
 obtain⟨rfl,rfl⟩:=trodVars_none hV;have hb:Rows.uptoBulkAll ([d0,d1]++[])<=1048576:=Ob hk;obtain⟨f0,t0⟩:=h0;obtain⟨f1,t1⟩:=h1;obtain⟨x0,a0,b0,_⟩: ∃x0:Zj,Hg W v0.cells.toList (Qi x0)/\Qc (Qi x0)<=Rows.uptoBulk d0/\Mh (Qi x0):=reads ipOK ipRd JJ enc W f0 66 _ d0 p0 (by simp[gd]) t0;obtain⟨x1,a1,b1,_⟩: ∃x1:List Zj,Hg W v1.cells.toList [.sl (x1.map Qi)]/\Qc [.sl (x1.map Qi)]<=Rows.uptoBulk d1/\Mh [.sl (x1.map Qi)]:=reads ipOK ipRd JJ enc W f1 71 _ d1 p1 (by simp[gd]) t1;simp only[Xa,Ub,ja,Rows.uptoBulkAll]at hb;have s0:=uJ (d:=x0) (by omega);have s1:=zA9 (l:=x1) (by omega);have ha:Mg noA W (((KS cB).inS.sl I).enc (x0,x1)).1 #[v0,v1]:=by exact FO (zCP (xs:=I.exp 66 x0) rfl Tryz.underlying66 (hval 0 66 v0 rfl rfl) (by rw[<-ipOK.exp 66 x0];exact a0)) (FO (zCO rfl (hu:=Jm) (by intro fs h;cases h) (by intro n e h;cases h) (hval 1 71 v1 rfl rfl) a1) jX)
 refine(rX (I:=I) zg0 (x:=(x0,x1)) (y:=true) (X7 s0 s1.1 s1.2) (b:=true) rfl rfl (zBP hS hL) ha).mono fun e W' ⟨he,hbl⟩=> ?_;subst he;refine⟨_,rfl,bW (tb:=4) (pa:=p0++(p1++[])) hW' rfl rfl Tryz.underlying4 rfl rfl (fun sp hsp=> ?_) (ja _) hbl⟩;have hlt: ∀x∈p0++(p1++[]),x.block<W.heap.size:=fun x hx=>hW'.lt x (by simpa using hx);exact AQ (by kernel_rfl) hbl sp _ _ _ _ (by rw[Tryz.params10];intro t ht;simp at ht;rcases ht with rfl|rfl<;>exact⟨by kernel_rfl,Ob (by kernel_rfl)⟩) hA0 hlt (fun x hx=>hsp x (by simpa using hx))
end Go.Proofs.YtcdeccnjlkkejaaGreatDoor.declWrites
