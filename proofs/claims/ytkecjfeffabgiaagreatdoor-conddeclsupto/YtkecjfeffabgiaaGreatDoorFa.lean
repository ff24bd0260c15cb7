/- CondDecls: what the row asks of a call. -/
import Derived.Test.YtkecjfeffabgiaaGreatDoorGl
import Derived.Test.YtkecjfeffabgiaaGreatDoorCo
import Derived.Test.YtkecjfeffabgiaaGreatDoorRd
import Derived.Test.YtkecjfeffabgiaaGreatDoorXk
set_option linter.unusedSimpArgs false
set_option linter.unusedVariables false
namespace Go.Proofs.YtkecjfeffabgiaaGreatDoor.condDecls
open Go.ChangeShapes Go.WideShapes Go.ChangeAt Go.RowKit Go.Lv Go.Lv.VT
set_option maxRecDepth 100000
theorem KC{H:Type}: ∀(l:List (DataW H)),Rows.uptoBulkAll l=(l.map Rows.uptoBulk).sum
 |[]=>by rw[Rows.uptoBulkAll];rfl
 |d::l=>by rw[Rows.uptoBulkAll,KC l];rfl
theorem zCf:zAD @Rows.uptoBulk where
 one:=fun {H} d=>by
  cases d with
  |lit l=>cases l<;>simp[Rows.uptoBulk]
  |nil=>simp[Rows.uptoBulk]
  |ptr d=>simp[Rows.uptoBulk]
  |slice elems spare=>simp[Rows.uptoBulk]
  |agg parts=>simp[Rows.uptoBulk]
  |iface t d=>simp[Rows.uptoBulk]
  |map entries=>simp[Rows.uptoBulk]
  |held h=>simp[Rows.uptoBulk]
 str:=fun l=>by simp[Rows.uptoBulk]
 slice:=fun a b=>by rw[Rows.uptoBulk,KC];omega
 agg:=fun a=>by rw[Rows.uptoBulk,KC];omega
theorem contract (H:Type) (enc:TypeId×Value->H) (W:World) (base:Nat) (args:Array Value) (ds gs:List (DataW H)) (before:List MemPlace)
  (hval: ∀(j:Nat) t v,Tryz.f8.params[j]? =some t->args[j]? =some v->Value.okWide Tryz.prog W .any base t v)
  (hW:DataW.Whole enc Tryz.prog Tryz.f8.params.toList Rows.condDeclsSpec.vars false W args.toList ds gs before) (hL:laidMetH Tryz.prog Si W) (hS:W.ShapedOpen Tryz.prog) (hk:Rows.uptoSmall H (ds++gs)=true):
  Calls Tryz.prog 8 args W fun e W'=> ∃v,e= .returned v/\Rows.condDeclsSpec.post enc Tryz.prog Tryz.f8 false true false false W args v W':=by
 have hW':=hW;obtain⟨p,q,hA0,hV,rfl,hfz,hnd⟩:=hW;have hA:DataW.TrodAll enc Tryz.prog W 0 (fun _=>true) true Tryz.f8.params.toList args.toList ds p:=hA0;rw[Tryz.params8]at hA hval;obtain⟨v0,vs0,d0,ds0,p0,q0,hargs,rfl,rfl,h0,r0⟩:=trodAll_cons hA;obtain⟨rfl,rfl,rfl⟩:=trodAll_nil r0;obtain rfl:args= #[v0]:=by cases args;simp_all
 obtain⟨rfl,rfl⟩:=trodVars_none hV;have hb:Rows.uptoBulkAll ([d0]++[])<=1048576:=Eb hk;obtain⟨f0,t0⟩:=h0;obtain⟨x0,a0,b0,_⟩: ∃x0:zh,rf W v0.cells.toList (zq x0)/\zJ (zq x0)<=Rows.uptoBulk d0/\bg (zq x0):=reads ipOK ipRd zCf enc W f0 27 _ d0 p0 (by simp[gd]) t0;simp only[Dc,Uc,He,Rows.uptoBulkAll]at hb;have s0:zJ (zq x0)<=big:=by unfold big;omega
 have ha:df noA W (((yP KA).inS.sl I).enc x0).1 #[v0]:=by exact vU (zC2 (xs:=I.exp 27 x0) rfl Tryz.underlying27 (hval 0 27 v0 rfl rfl) (by rw[<-ipOK.exp 27 x0];exact a0)) RS
 refine(FU (I:=I) l7 (x:=x0) (y:=true) (TY s0) (b:=true) rfl rfl (zCr hS hL) ha).mono fun e W' ⟨he,hbl⟩=> ?_;subst he;refine⟨_,rfl,kT (tb:=4) (pa:=p0++[]) hW' rfl rfl Tryz.underlying4 rfl rfl (fun sp hsp=> ?_) (He _) hbl⟩;have hlt: ∀x∈p0++[],x.block<W.heap.size:=fun x hx=>hW'.lt x (by simpa using hx);exact YN (by kernel_rfl) hbl sp _ _ _ _ (by rw[Tryz.params8];intro t ht;simp at ht;subst ht;exact⟨by kernel_rfl,Eb (by kernel_rfl)⟩) hA0 hlt (fun x hx=>hsp x (by simpa using hx))
end Go.Proofs.YtkecjfeffabgiaaGreatDoor.condDecls
