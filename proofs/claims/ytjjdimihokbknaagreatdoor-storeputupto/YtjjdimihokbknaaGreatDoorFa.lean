/- StorePut: what the row asks of a call. -/
import Derived.Test.YtjjdimihokbknaaGreatDoorGl
import Derived.Test.YtjjdimihokbknaaGreatDoorCo
import Derived.Test.YtjjdimihokbknaaGreatDoorRd
import Derived.Test.YtjjdimihokbknaaGreatDoorXd
set_option linter.unusedSimpArgs false
set_option linter.unusedVariables false
namespace Go.Proofs.YtjjdimihokbknaaGreatDoor.storePut
open Go.ChangeShapes Go.WideShapes Go.ChangeAt Go.RowKit Go.Lv Go.Lv.VT
set_option maxRecDepth 100000
theorem xJ{H:Type}: ∀(l:List (DataW H)),Rows.uptoBulkAll l=(l.map Rows.uptoBulk).sum
 |[]=>by rw[Rows.uptoBulkAll];rfl
 |d::l=>by rw[Rows.uptoBulkAll,xJ l];rfl
theorem FJ:zJC @Rows.uptoBulk where
 one:=fun {H} d=>by
  cases d with
  |lit l=>cases l<;>simp[Rows.uptoBulk]
  |nil=>simp[Rows.uptoBulk]
  |ptr d=>simp[Rows.uptoBulk]
  |slice elems spare=>simp[Rows.uptoBulk]
  |agg parts=>simp[Rows.uptoBulk]
  |iface t d=>simp[Rows.uptoBulk]
  |map entries=>simp[Rows.uptoBulk]
  |held h=>simp[Rows.uptoBulk]
 str:=fun l=>by simp[Rows.uptoBulk]
 slice:=fun a b=>by rw[Rows.uptoBulk,xJ];omega
 agg:=fun a=>by rw[Rows.uptoBulk,xJ];omega
theorem contract (H:Type) (enc:TypeId×Value->H) (W:World) (base:Nat) (args:Array Value) (ds gs:List (DataW H)) (before:List MemPlace)
  (hval: ∀(j:Nat) t v,Tryz.f3.params[j]? =some t->args[j]? =some v->Value.okWide Tryz.prog W .any base t v)
  (hW:DataW.Whole enc Tryz.prog Tryz.f3.params.toList Rows.storePutSpec.vars false W args.toList ds gs before) (hL:laidMetH Tryz.prog IE W) (hS:W.ShapedOpen Tryz.prog) (hk:Rows.uptoSmall H (ds++gs)=true):
  Calls Tryz.prog 3 args W fun e W'=> ∃v,e= .returned v/\Rows.storePutSpec.post enc Tryz.prog Tryz.f3 false true false false W args v W':=by
 have hW':=hW;obtain⟨p,q,hA0,hV,rfl,hfz,hnd⟩:=hW;have hA:DataW.TrodAll enc Tryz.prog W 0 (fun _=>true) true Tryz.f3.params.toList args.toList ds p:=hA0;rw[Tryz.params3]at hA hval;obtain⟨v0,vs0,d0,ds0,p0,q0,hargs,rfl,rfl,h0,r0⟩:=trodAll_cons hA;obtain⟨v1,vs1,d1,ds1,p1,q1,rfl,rfl,rfl,h1,r1⟩:=trodAll_cons r0;obtain⟨v2,vs2,d2,ds2,p2,q2,rfl,rfl,rfl,h2,r2⟩:=trodAll_cons r1;obtain⟨rfl,rfl,rfl⟩:=trodAll_nil r2;obtain rfl:args= #[v0,v1,v2]:=by cases args;simp_all
 obtain⟨rfl,rfl⟩:=trodVars_none hV;have hb:Rows.uptoBulkAll ([d0,d1,d2]++[])<=1048576:=Jb hk;obtain⟨f0,t0⟩:=h0;obtain⟨f1,t1⟩:=h1;obtain⟨f2,t2⟩:=h2;obtain⟨x0,a0,b0,_⟩: ∃x0:Ze,Vf W v0.cells.toList (vo x0)/\zG (vo x0)<=Rows.uptoBulk d0/\Ug (vo x0):=reads ipOK ipRd FJ enc W f0 24 _ d0 p0 (by simp[gd]) t0;obtain⟨x1,a1,b1,_⟩: ∃x1:Int,Vf W v1.cells.toList [.at (.int .i64 x1)]/\zG [.at (.int .i64 x1)]<=Rows.uptoBulk d1/\Ug [.at (.int .i64 x1)]:=reads ipOK ipRd FJ enc W f1 3 _ d1 p1 (by simp[gd]) t1;obtain⟨x2,a2,b2,_⟩: ∃x2:ZI,Vf W v2.cells.toList (wo x2)/\zG (wo x2)<=Rows.uptoBulk d2/\Ug (wo x2):=reads ipOK ipRd FJ enc W f2 27 _ d2 p2 (by simp[gd]) t2;simp only[Ae,Pd,Sd,Rows.uptoBulkAll]at hb;have hs0:zL Zk x0.sheets<=zG (vo x0):=by unfold vo;simp only[zG,bPV,zL];omega
 have hs2:zL zF x2.rules<=zG (wo x2):=by unfold wo;simp only[zG,bPV,zL];omega
 have hs:zL Zk x0.sheets+zL zF x2.rules<=big:=by unfold big;omega
 have ha:mf noA W (((dO JB).inS.sl I).enc (x0,x1,x2)).1 #[v0,v1,v2]:=by exact vE (RQ (xs:=I.exp 24 x0) rfl Tryz.underlying24 (hval 0 24 v0 rfl rfl) (by rw[<-ipOK.exp 24 x0];exact a0)) (vE (zMh rfl (hu:=Lm) (by intro fs h;cases h) (by intro n e h;cases h) (hval 1 3 v1 rfl rfl) a1) (vE (RQ (xs:=I.exp 27 x2) rfl Tryz.underlying27 (hval 2 27 v2 rfl rfl) (by rw[<-ipOK.exp 27 x2];exact a2)) zIq))
 refine(zG6 (I:=I) zqf (x:=(x0,x1,x2)) (y:=true) (zC5 hs zLs) (b:=true) rfl rfl (zLK hS hL) ha).mono fun e W' ⟨he,hbl⟩=> ?_;subst he;refine⟨_,rfl,zI9 (tb:=4) (pa:=p0++(p1++(p2++[]))) hW' rfl rfl Tryz.underlying4 rfl rfl (fun sp hsp=> ?_) (Sd _) hbl⟩;have hlt: ∀x∈p0++(p1++(p2++[])),x.block<W.heap.size:=fun x hx=>hW'.lt x (by simpa using hx);exact PM (by kernel_rfl) hbl sp _ _ _ _ (by rw[Tryz.params3];intro t ht;simp at ht;rcases ht with rfl|rfl|rfl<;>exact⟨by kernel_rfl,Jb (by kernel_rfl)⟩) hA0 hlt (fun x hx=>hsp x (by simpa using hx))
end Go.Proofs.YtjjdimihokbknaaGreatDoor.storePut
