/- DeclKept: what the row asks of a call. -/
import Derived.Test.YtbamonbfpghnhaaGreatDoorGl
import Derived.Test.YtbamonbfpghnhaaGreatDoorCo
import Derived.Test.YtbamonbfpghnhaaGreatDoorRd
import Derived.Test.YtbamonbfpghnhaaGreatDoorNg
set_option linter.unusedSimpArgs false
set_option linter.unusedVariables false
namespace Go.Proofs.YtbamonbfpghnhaaGreatDoor.declKept
open Go.ChangeShapes Go.WideShapes Go.ChangeAt Go.RowKit Go.Lv Go.Lv.VT
set_option maxRecDepth 100000
theorem OD{H:Type}: ∀(l:List (DataW H)),Rows.uptoBulkAll l=(l.map Rows.uptoBulk).sum
 |[]=>by rw[Rows.uptoBulkAll];rfl
 |d::l=>by rw[Rows.uptoBulkAll,OD l];rfl
theorem JC:zyu @Rows.uptoBulk where
 one:=fun {H} d=>by
  cases d with
  |lit l=>cases l<;>simp[Rows.uptoBulk]
  |nil=>simp[Rows.uptoBulk]
  |ptr d=>simp[Rows.uptoBulk]
  |slice elems spare=>simp[Rows.uptoBulk]
  |agg parts=>simp[Rows.uptoBulk]
  |iface t d=>simp[Rows.uptoBulk]
  |map entries=>simp[Rows.uptoBulk]
  |held h=>simp[Rows.uptoBulk]
 str:=fun l=>by simp[Rows.uptoBulk]
 slice:=fun a b=>by rw[Rows.uptoBulk,OD];omega
 agg:=fun a=>by rw[Rows.uptoBulk,OD];omega
theorem contract (H:Type) (enc:TypeId×Value->H) (W:World) (base:Nat) (args:Array Value) (ds gs:List (DataW H)) (before:List MemPlace)
  (hval: ∀(j:Nat) t v,Tryz.f3.params[j]? =some t->args[j]? =some v->Value.okWide Tryz.prog W .any base t v)
  (hW:DataW.Whole enc Tryz.prog Tryz.f3.params.toList Rows.declKeptSpec.vars false W args.toList ds gs before) (hL:laidMetH Tryz.prog Ck W) (hS:W.ShapedOpen Tryz.prog) (hk:Rows.uptoSmall H (ds++gs)=true):
  Calls Tryz.prog 3 args W fun e W'=> ∃v,e= .returned v/\Rows.declKeptSpec.post enc Tryz.prog Tryz.f3 false true false false W args v W':=by
 have hW':=hW;obtain⟨p,q,hA0,hV,rfl,hfz,hnd⟩:=hW;have hA:DataW.TrodAll enc Tryz.prog W 0 (fun _=>true) true Tryz.f3.params.toList args.toList ds p:=hA0;rw[Tryz.params3]at hA hval;obtain⟨v0,vs0,d0,ds0,p0,q0,hargs,rfl,rfl,h0,r0⟩:=trodAll_cons hA;obtain⟨v1,vs1,d1,ds1,p1,q1,rfl,rfl,rfl,h1,r1⟩:=trodAll_cons r0;obtain⟨v2,vs2,d2,ds2,p2,q2,rfl,rfl,rfl,h2,r2⟩:=trodAll_cons r1;obtain⟨rfl,rfl,rfl⟩:=trodAll_nil r2;obtain rfl:args= #[v0,v1,v2]:=by cases args;simp_all
 obtain⟨rfl,rfl⟩:=trodVars_none hV;have hb:Rows.uptoBulkAll ([d0,d1,d2]++[])<=1048576:=Ac hk;obtain⟨f0,t0⟩:=h0;obtain⟨f1,t1⟩:=h1;obtain⟨f2,t2⟩:=h2;obtain⟨x0,a0,b0,_⟩: ∃x0:List zI,ag W v0.cells.toList [.sl (x0.map Qa)]/\qK [.sl (x0.map Qa)]<=Rows.uptoBulk d0/\Nh [.sl (x0.map Qa)]:=reads ipOK ipRd JC enc W f0 22 _ d0 p0 (by simp[gd]) t0;obtain⟨x1,a1,b1,_⟩: ∃x1:List zI,ag W v1.cells.toList [.sl (x1.map Qa)]/\qK [.sl (x1.map Qa)]<=Rows.uptoBulk d1/\Nh [.sl (x1.map Qa)]:=reads ipOK ipRd JC enc W f1 22 _ d1 p1 (by simp[gd]) t1;obtain⟨x2,a2,b2,_⟩: ∃x2:Int,ag W v2.cells.toList [.at (.int .i64 x2)]/\qK [.at (.int .i64 x2)]<=Rows.uptoBulk d2/\Nh [.at (.int .i64 x2)]:=reads ipOK ipRd JC enc W f2 3 _ d2 p2 (by simp[gd]) t2;simp only[Ra,Nb,Ua,Rows.uptoBulkAll]at hb;have s0:=aJ (l:=x0) (by omega);have s1:=aJ (l:=x1) (by omega);have ha:Yg noA W (((vQ xA).inS.sl I).enc (x0,x1,x2)).1 #[v0,v1,v2]:=by exact SF (JB rfl (hu:=Hl) (by intro fs h;cases h) (by intro n e h;cases h) (hval 0 22 v0 rfl rfl) a0) (SF (JB rfl (hu:=Hl) (by intro fs h;cases h) (by intro n e h;cases h) (hval 1 22 v1 rfl rfl) a1) (SF (JB rfl (hu:=Hm) (by intro fs h;cases h) (by intro n e h;cases h) (hval 2 3 v2 rfl rfl) a2) NW))
 refine(XY (I:=I) S9 (x:=(x0,x1,x2)) (y:=true) (X3 s0.1 s0.2 s1.1 s1.2) (b:=true) rfl rfl (zBB hS hL) ha).mono fun e W' ⟨he,hbl⟩=> ?_;subst he;refine⟨_,rfl,RV (tb:=4) (pa:=p0++(p1++(p2++[]))) hW' rfl rfl Tryz.underlying4 rfl rfl (fun sp hsp=> ?_) (Ua _) hbl⟩;have hlt: ∀x∈p0++(p1++(p2++[])),x.block<W.heap.size:=fun x hx=>hW'.lt x (by simpa using hx);exact IQ (by kernel_rfl) hbl sp _ _ _ _ (by rw[Tryz.params3];intro t ht;simp at ht;rcases ht with rfl|rfl|rfl<;>exact⟨by kernel_rfl,Ac (by kernel_rfl)⟩) hA0 hlt (fun x hx=>hsp x (by simpa using hx))
end Go.Proofs.YtbamonbfpghnhaaGreatDoor.declKept
