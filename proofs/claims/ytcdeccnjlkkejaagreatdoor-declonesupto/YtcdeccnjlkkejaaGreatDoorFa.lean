/- DeclOnes: what the row asks of a call. -/
import Derived.Test.YtcdeccnjlkkejaaGreatDoorGl
import Derived.Test.YtcdeccnjlkkejaaGreatDoorCo
import Derived.Test.YtcdeccnjlkkejaaGreatDoorRd
import Derived.Test.YtcdeccnjlkkejaaGreatDoorNf
set_option linter.unusedSimpArgs false
set_option linter.unusedVariables false
namespace Go.Proofs.YtcdeccnjlkkejaaGreatDoor.declOnes
open Go.ChangeShapes Go.WideShapes Go.ChangeAt Go.RowKit Go.Lv Go.Lv.VT
set_option maxRecDepth 100000
theorem yz{H:Type}: ∀(l:List (DataW H)),Rows.uptoBulkAll l=(l.map Rows.uptoBulk).sum
 |[]=>by rw[Rows.uptoBulkAll];rfl
 |d::l=>by rw[Rows.uptoBulkAll,yz l];rfl
theorem nN:zvW @Rows.uptoBulk where
 one:=fun {H} d=>by
  cases d with
  |lit l=>cases l<;>simp[Rows.uptoBulk]
  |nil=>simp[Rows.uptoBulk]
  |ptr d=>simp[Rows.uptoBulk]
  |slice elems spare=>simp[Rows.uptoBulk]
  |agg parts=>simp[Rows.uptoBulk]
  |iface t d=>simp[Rows.uptoBulk]
  |map entries=>simp[Rows.uptoBulk]
  |held h=>simp[Rows.uptoBulk]
 str:=fun l=>by simp[Rows.uptoBulk]
 slice:=fun a b=>by rw[Rows.uptoBulk,yz];omega
 agg:=fun a=>by rw[Rows.uptoBulk,yz];omega
theorem contract (H:Type) (enc:TypeId×Value->H) (W:World) (base:Nat) (args:Array Value) (ds gs:List (DataW H)) (before:List MemPlace)
  (hval: ∀(j:Nat) t v,Tryz.f11.params[j]? =some t->args[j]? =some v->Value.okWide Tryz.prog W .any base t v)
  (hW:DataW.Whole enc Tryz.prog Tryz.f11.params.toList Rows.declOnesSpec.vars false W args.toList ds gs before) (hL:laidMetH Tryz.prog mi W) (hS:W.ShapedOpen Tryz.prog) (hk:Rows.uptoSmall H (ds++gs)=true):
  Calls Tryz.prog 11 args W fun e W'=> ∃v,e= .returned v/\Rows.declOnesSpec.post enc Tryz.prog Tryz.f11 false true false false W args v W':=by
 have hW':=hW;obtain⟨p,q,hA0,hV,rfl,hfz,hnd⟩:=hW;have hA:DataW.TrodAll enc Tryz.prog W 0 (fun _=>true) true Tryz.f11.params.toList args.toList ds p:=hA0;rw[Tryz.params11]at hA hval;obtain⟨v0,vs0,d0,ds0,p0,q0,hargs,rfl,rfl,h0,r0⟩:=trodAll_cons hA;obtain⟨rfl,rfl,rfl⟩:=trodAll_nil r0;obtain rfl:args= #[v0]:=by cases args;simp_all
 obtain⟨rfl,rfl⟩:=trodVars_none hV;have hb:Rows.uptoBulkAll ([d0]++[])<=1048576:=Vb hk;obtain⟨f0,t0⟩:=h0;obtain⟨x0,a0,b0,_⟩: ∃x0:List zb,Jg W v0.cells.toList [.sl (x0.map zo)]/\QH [.sl (x0.map zo)]<=Rows.uptoBulk d0/\Kh [.sl (x0.map zo)]:=reads ipOK ipRd nN enc W f0 23 _ d0 p0 (by simp[gd]) t0;simp only[Jc,Xd,Oc,Rows.uptoBulkAll]at hb;have s0:szL x0<big:=by
  have q:=tO x0;have q2:zL zo x0<=QH [.sl (x0.map zo)]:=by simp only[QH,bPV];unfold zL;omega
  unfold big;omega
 have ha:Ah noA W ((((LM Uy).inS.sl I).enc x0).1.map (trT (fun i=>i) (lk []))) #[v0]:=by exact tT (WN (hu:=Pk) (by intro fs h;cases h) (by intro n e h;cases h) (hval 0 23 v0 rfl rfl) a0) mR
 refine(YS (I:=I) dZ rfl rfl rfl (x:=x0) (y:=true) (OX s0) (b:=true) rfl rfl rfl (iO hS hL) ha).mono fun e W' ⟨he,hbl⟩=> ?_;subst he;refine⟨_,rfl,WQ (tb:=4) (pa:=p0++[]) hW' rfl rfl Tryz.underlying4 rfl rfl (fun sp hsp=> ?_) (Oc _) hbl⟩;have hlt: ∀x∈p0++[],x.block<W.heap.size:=fun x hx=>hW'.lt x (by simpa using hx);exact CL (by kernel_rfl) hbl sp _ _ _ _ (by rw[Tryz.params11];intro t ht;simp at ht;subst ht;exact⟨by kernel_rfl,Vb (by kernel_rfl)⟩) hA0 hlt (fun x hx=>hsp x (by simpa using hx))
end Go.Proofs.YtcdeccnjlkkejaaGreatDoor.declOnes
