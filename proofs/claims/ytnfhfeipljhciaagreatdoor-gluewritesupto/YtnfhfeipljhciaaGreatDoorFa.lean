/- GlueWrites: what the row asks of a call. -/
import Derived.Test.YtnfhfeipljhciaaGreatDoorGl
import Derived.Test.YtnfhfeipljhciaaGreatDoorCo
import Derived.Test.YtnfhfeipljhciaaGreatDoorRd
import Derived.Test.YtnfhfeipljhciaaGreatDoorNe
import Derived.Test.YtnfhfeipljhciaaGreatDoorSz
set_option linter.unusedSimpArgs false
set_option linter.unusedVariables false
namespace Go.Proofs.YtnfhfeipljhciaaGreatDoor.glueWrites
open Go.ChangeShapes Go.WideShapes Go.ChangeAt Go.RowKit Go.Lv Go.Lv.VT
set_option maxRecDepth 100000
theorem SF{H:Type}: ∀(l:List (DataW H)),Rows.uptoBulkAll l=(l.map Rows.uptoBulk).sum
 |[]=>by rw[Rows.uptoBulkAll];rfl
 |d::l=>by rw[Rows.uptoBulkAll,SF l];rfl
theorem TE:zzk @Rows.uptoBulk where
 one:=fun {H} d=>by
  cases d with
  |lit l=>cases l<;>simp[Rows.uptoBulk]
  |nil=>simp[Rows.uptoBulk]
  |ptr d=>simp[Rows.uptoBulk]
  |slice elems spare=>simp[Rows.uptoBulk]
  |agg parts=>simp[Rows.uptoBulk]
  |iface t d=>simp[Rows.uptoBulk]
  |map entries=>simp[Rows.uptoBulk]
  |held h=>simp[Rows.uptoBulk]
 str:=fun l=>by simp[Rows.uptoBulk]
 slice:=fun a b=>by rw[Rows.uptoBulk,SF];omega
 agg:=fun a=>by rw[Rows.uptoBulk,SF];omega
theorem contract (H:Type) (enc:TypeId×Value->H) (W:World) (base:Nat) (args:Array Value) (ds gs:List (DataW H)) (before:List MemPlace)
  (hval: ∀(j:Nat) t v,Tryz.f8.params[j]? =some t->args[j]? =some v->Value.okWide Tryz.prog W .any base t v)
  (hW:DataW.Whole enc Tryz.prog Tryz.f8.params.toList Rows.glueWritesSpec.vars false W args.toList ds gs before) (hL:laidMetH Tryz.prog Rl W) (hS:W.ShapedOpen Tryz.prog) (hk:Rows.uptoSmall H (ds++gs)=true):
  Calls Tryz.prog 8 args W fun e W'=> ∃v,e= .returned v/\Rows.glueWritesSpec.post enc Tryz.prog Tryz.f8 false true false false W args v W':=by
 have hW':=hW;obtain⟨p,q,hA0,hV,rfl,hfz,hnd⟩:=hW;have hA:DataW.TrodAll enc Tryz.prog W 0 (fun _=>true) true Tryz.f8.params.toList args.toList ds p:=hA0;rw[Tryz.params8]at hA hval;obtain⟨v0,vs0,d0,ds0,p0,q0,hargs,rfl,rfl,h0,r0⟩:=trodAll_cons hA;obtain⟨v1,vs1,d1,ds1,p1,q1,rfl,rfl,rfl,h1,r1⟩:=trodAll_cons r0;obtain⟨v2,vs2,d2,ds2,p2,q2,rfl,rfl,rfl,h2,r2⟩:=trodAll_cons r1;obtain⟨rfl,rfl,rfl⟩:=trodAll_nil r2;obtain rfl:args= #[v0,v1,v2]:=by cases args;simp_all
 obtain⟨rfl,rfl⟩:=trodVars_none hV;have hb:Rows.uptoBulkAll ([d0,d1,d2]++[])<=1048576:=Bc hk;obtain⟨f0,t0⟩:=h0;obtain⟨f1,t1⟩:=h1;obtain⟨f2,t2⟩:=h2;obtain⟨x0,a0,b0,_⟩: ∃x0:List zb,ng W v0.cells.toList [.sl (x0.map ZX)]/\Qp [.sl (x0.map ZX)]<=Rows.uptoBulk d0/\yh [.sl (x0.map ZX)]:=reads ipOK ipRd TE enc W f0 41 _ d0 p0 (by simp[gd]) t0;obtain⟨x1,a1,b1,_⟩: ∃x1:zb,ng W v1.cells.toList (ZX x1)/\Qp (ZX x1)<=Rows.uptoBulk d1/\yh (ZX x1):=reads ipOK ipRd TE enc W f1 51 _ d1 p1 (by simp[gd]) t1;obtain⟨x2,a2,b2,_⟩: ∃x2:Str,ng W v2.cells.toList [.str x2]/\Qp [.str x2]<=Rows.uptoBulk d2/\yh [.str x2]:=reads ipOK ipRd TE enc W f2 9 _ d2 p2 (by simp[gd]) t2;simp only[ja,Kc,Ya,Rows.uptoBulkAll]at hb;obtain⟨s1,s2⟩:=zBf (x:=x0) (n:=big) (by unfold big;omega);have s3:x1.text.length+x1.unit.length<=big:=by rw[GK]at b1;unfold big;omega
 have s4:x2.length<=big:=by simp only[Qp,bPV]at b2;unfold big;omega
 have ha:Ai noA W ((((vT bD).inS.sl I).enc (x0,x1,x2)).1.map (trT (fun i=>i) (lk []))) #[v0,v1,v2]:=by have e1:(I.exp 51 x1).map (trV (I:=I) (fun i=>i) (lk []))=((ZX x1)).map CV.p:=lJ ipOK 51 x1;show Ai noA W [TV.c (CV.p (.sl (x0.map ZX))),TV.agg ((I.exp 51 x1).map (trV (I:=I) (fun i=>i) (lk []))),TV.c (CV.p (.str x2))] #[v0,v1,v2];rw[e1];exact WH (jU (hu:=Vn) (by intro fs h;cases h) (by intro n e h;cases h) (hval 0 41 v0 rfl rfl) a0) (WH (zCP Tryz.underlying51 (hval 1 51 v1 rfl rfl) a1) (WH (jU (hu:=Iq) (by intro fs h;cases h) (by intro n e h;cases h) (hval 2 9 v2 rfl rfl) a2) uW))
 refine(wY (I:=I) zgy rfl rfl rfl (x:=(x0,x1,x2)) (y:=true) (P9 s1 s2 s3 s4) (b:=true) rfl rfl rfl (zBW hS hL) ha).mono fun e W' ⟨he,hbl⟩=> ?_;subst he;refine⟨_,rfl,FW (tb:=4) (pa:=p0++(p1++(p2++[]))) hW' rfl rfl Tryz.underlying4 rfl rfl (fun sp hsp=> ?_) (Ya _) hbl⟩;have hlt: ∀x∈p0++(p1++(p2++[])),x.block<W.heap.size:=fun x hx=>hW'.lt x (by simpa using hx);exact uR (by kernel_rfl) hbl sp _ _ _ _ (by rw[Tryz.params8];intro t ht;simp at ht;rcases ht with rfl|rfl|rfl<;>exact⟨by kernel_rfl,Bc (by kernel_rfl)⟩) hA0 hlt (fun x hx=>hsp x (by simpa using hx))
end Go.Proofs.YtnfhfeipljhciaaGreatDoor.glueWrites
