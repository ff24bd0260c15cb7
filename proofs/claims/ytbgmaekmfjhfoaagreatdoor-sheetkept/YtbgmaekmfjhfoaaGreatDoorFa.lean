/- SheetKept: what the row asks of a call. -/
import Derived.Test.YtbgmaekmfjhfoaaGreatDoorGl
import Derived.Test.YtbgmaekmfjhfoaaGreatDoorCo
import Derived.Test.YtbgmaekmfjhfoaaGreatDoorRd
import Derived.Test.YtbgmaekmfjhfoaaGreatDoorXj
set_option linter.unusedSimpArgs false
set_option linter.unusedVariables false
namespace Go.Proofs.YtbgmaekmfjhfoaaGreatDoor.sheetKept
open Go.ChangeShapes Go.WideShapes Go.ChangeAt Go.RowKit Go.Lv Go.Lv.VT
set_option maxRecDepth 100000
theorem iE{H:Type}: ∀(l:List (DataW H)),Rows.uptoBulkAll l=(l.map Rows.uptoBulk).sum
 |[]=>by rw[Rows.uptoBulkAll];rfl
 |d::l=>by rw[Rows.uptoBulkAll,iE l];rfl
theorem UD:zCY @Rows.uptoBulk where
 one:=fun {H} d=>by
  cases d with
  |lit l=>cases l<;>simp[Rows.uptoBulk]
  |nil=>simp[Rows.uptoBulk]
  |ptr d=>simp[Rows.uptoBulk]
  |slice elems spare=>simp[Rows.uptoBulk]
  |agg parts=>simp[Rows.uptoBulk]
  |iface t d=>simp[Rows.uptoBulk]
  |map entries=>simp[Rows.uptoBulk]
  |held h=>simp[Rows.uptoBulk]
 str:=fun l=>by simp[Rows.uptoBulk]
 slice:=fun a b=>by rw[Rows.uptoBulk,iE];omega
 agg:=fun a=>by rw[Rows.uptoBulk,iE];omega
theorem contract (H:Type) (enc:TypeId×Value->H) (W:World) (base:Nat) (args:Array Value) (ds gs:List (DataW H)) (before:List MemPlace)
  (hval: ∀(j:Nat) t v,Tryz.f3.params[j]? =some t->args[j]? =some v->Value.okWide Tryz.prog W .any base t v)
  (hW:DataW.Whole enc Tryz.prog Tryz.f3.params.toList Rows.sheetKeptSpec.vars false W args.toList ds gs before) (hL:laidMetH Tryz.prog Hr W) (hS:W.ShapedOpen Tryz.prog):
  Calls Tryz.prog 3 args W fun e W'=> ∃v,e= .returned v/\Rows.sheetKeptSpec.post enc Tryz.prog Tryz.f3 false true false false W args v W':=by
 have hW':=hW;obtain⟨p,q,hA0,hV,rfl,hfz,hnd⟩:=hW;have hA:DataW.TrodAll enc Tryz.prog W 0 (fun _=>true) true Tryz.f3.params.toList args.toList ds p:=hA0;rw[Tryz.params3]at hA hval;obtain⟨v0,vs0,d0,ds0,p0,q0,hargs,rfl,rfl,h0,r0⟩:=trodAll_cons hA;obtain⟨v1,vs1,d1,ds1,p1,q1,rfl,rfl,rfl,h1,r1⟩:=trodAll_cons r0;obtain⟨v2,vs2,d2,ds2,p2,q2,rfl,rfl,rfl,h2,r2⟩:=trodAll_cons r1;obtain⟨rfl,rfl,rfl⟩:=trodAll_nil r2;obtain rfl:args= #[v0,v1,v2]:=by cases args;simp_all
 obtain⟨rfl,rfl⟩:=trodVars_none hV;obtain⟨f0,t0⟩:=h0;obtain⟨f1,t1⟩:=h1;obtain⟨f2,t2⟩:=h2;obtain⟨x0,a0,b0,_⟩: ∃x0:Str,Yg W v0.cells.toList [.str x0]/\zy [.str x0]<=Rows.uptoBulk d0/\Nh [.str x0]:=reads ipOK ipRd UD enc W f0 9 _ d0 p0 (by simp[gd]) t0;obtain⟨x1,a1,b1,_⟩: ∃x1:Str,Yg W v1.cells.toList [.str x1]/\zy [.str x1]<=Rows.uptoBulk d1/\Nh [.str x1]:=reads ipOK ipRd UD enc W f1 9 _ d1 p1 (by simp[gd]) t1;obtain⟨x2,a2,b2,_⟩: ∃x2:Str,Yg W v2.cells.toList [.str x2]/\zy [.str x2]<=Rows.uptoBulk d2/\Nh [.str x2]:=reads ipOK ipRd UD enc W f2 9 _ d2 p2 (by simp[gd]) t2;have ha:Xg noA W (((eQ wB).inS.sl I).enc (x0,x1,x2)).1 #[v0,v1,v2]:=by exact OG (BJ rfl (hu:=GI) (by intro fs h;cases h) (by intro n e h;cases h) (hval 0 9 v0 rfl rfl) a0) (OG (BJ rfl (hu:=GI) (by intro fs h;cases h) (by intro n e h;cases h) (hval 1 9 v1 rfl rfl) a1) (OG (BJ rfl (hu:=GI) (by intro fs h;cases h) (by intro n e h;cases h) (hval 2 9 v2 rfl rfl) a2) zA7))
 refine(VU (I:=I) Y9 (x:=(x0,x1,x2)) (y:=true) (mY (x0,x1,x2)) (b:=true) rfl rfl (zF2 hS hL) ha).mono fun e W' ⟨he,hbl⟩=> ?_;subst he;refine⟨_,rfl,zBZ (tb:=4) (pa:=p0++(p1++(p2++[]))) hW' rfl rfl Tryz.underlying4 rfl rfl (fun sp hsp=> ?_) (Rb _) hbl⟩;have hlt: ∀x∈p0++(p1++(p2++[])),x.block<W.heap.size:=fun x hx=>hW'.lt x (by simpa using hx);exact iP (by kernel_rfl) hbl sp _ _ _ _ (by rw[Tryz.params3];intro t ht;simp at ht;rcases ht with rfl|rfl|rfl<;>exact⟨by kernel_rfl,Ub (by kernel_rfl)⟩) hA0 hlt (fun x hx=>hsp x (by simpa using hx))
end Go.Proofs.YtbgmaekmfjhfoaaGreatDoor.sheetKept
