/- CondLogic: what the row asks of a call. -/
import Derived.Test.YtkecjfeffabgiaaGreatDoorGl
import Derived.Test.YtkecjfeffabgiaaGreatDoorCo
import Derived.Test.YtkecjfeffabgiaaGreatDoorRd
import Derived.Test.YtkecjfeffabgiaaGreatDoorXk
set_option linter.unusedSimpArgs false
set_option linter.unusedVariables false
namespace Go.Proofs.YtkecjfeffabgiaaGreatDoor.condLogic
open Go.ChangeShapes Go.WideShapes Go.ChangeAt Go.RowKit Go.Lv Go.Lv.VT
set_option maxRecDepth 100000
theorem kC{H:Type}: ∀(l:List (DataW H)),Rows.uptoBulkAll l=(l.map Rows.uptoBulk).sum
 |[]=>by rw[Rows.uptoBulkAll];rfl
 |d::l=>by rw[Rows.uptoBulkAll,kC l];rfl
theorem Dw:zAu @Rows.uptoBulk where
 one:=fun {H} d=>by
  cases d with
  |lit l=>cases l<;>simp[Rows.uptoBulk]
  |nil=>simp[Rows.uptoBulk]
  |ptr d=>simp[Rows.uptoBulk]
  |slice elems spare=>simp[Rows.uptoBulk]
  |agg parts=>simp[Rows.uptoBulk]
  |iface t d=>simp[Rows.uptoBulk]
  |map entries=>simp[Rows.uptoBulk]
  |held h=>simp[Rows.uptoBulk]
 str:=fun l=>by simp[Rows.uptoBulk]
 slice:=fun a b=>by rw[Rows.uptoBulk,kC];omega
 agg:=fun a=>by rw[Rows.uptoBulk,kC];omega
theorem contract (H:Type) (enc:TypeId×Value->H) (W:World) (base:Nat) (args:Array Value) (ds gs:List (DataW H)) (before:List MemPlace)
  (hval: ∀(j:Nat) t v,Tryz.f5.params[j]? =some t->args[j]? =some v->Value.okWide Tryz.prog W .any base t v)
  (hW:DataW.Whole enc Tryz.prog Tryz.f5.params.toList Rows.condLogicSpec.vars false W args.toList ds gs before) (hL:laidMetH Tryz.prog Ui W) (hS:W.ShapedOpen Tryz.prog) (hk:Rows.uptoSmall H (ds++gs)=true):
  Calls Tryz.prog 5 args W fun e W'=> ∃v,e= .returned v/\Rows.condLogicSpec.post enc Tryz.prog Tryz.f5 false true false false W args v W':=by
 have hW':=hW;obtain⟨p,q,hA0,hV,rfl,hfz,hnd⟩:=hW;have hA:DataW.TrodAll enc Tryz.prog W 0 (fun _=>true) true Tryz.f5.params.toList args.toList ds p:=hA0;rw[Tryz.params5]at hA hval;obtain⟨v0,vs0,d0,ds0,p0,q0,hargs,rfl,rfl,h0,r0⟩:=trodAll_cons hA;obtain⟨v1,vs1,d1,ds1,p1,q1,rfl,rfl,rfl,h1,r1⟩:=trodAll_cons r0;obtain⟨v2,vs2,d2,ds2,p2,q2,rfl,rfl,rfl,h2,r2⟩:=trodAll_cons r1;obtain⟨v3,vs3,d3,ds3,p3,q3,rfl,rfl,rfl,h3,r3⟩:=trodAll_cons r2;obtain⟨rfl,rfl,rfl⟩:=trodAll_nil r3;obtain rfl:args= #[v0,v1,v2,v3]:=by cases args;simp_all
 obtain⟨rfl,rfl⟩:=trodVars_none hV;have hb:Rows.uptoBulkAll ([d0,d1,d2,d3]++[])<=1048576:=Db hk;obtain⟨f0,t0⟩:=h0;obtain⟨f1,t1⟩:=h1;obtain⟨f2,t2⟩:=h2;obtain⟨f3,t3⟩:=h3;obtain⟨x0,a0,b0,_⟩: ∃x0:zh,Lf W v0.cells.toList (zq x0)/\zC (zq x0)<=Rows.uptoBulk d0/\Kg (zq x0):=reads ipOK ipRd Dw enc W f0 27 _ d0 p0 (by simp[gd]) t0;obtain⟨x1,a1,b1,_⟩: ∃x1:zh,Lf W v1.cells.toList (zq x1)/\zC (zq x1)<=Rows.uptoBulk d1/\Kg (zq x1):=reads ipOK ipRd Dw enc W f1 27 _ d1 p1 (by simp[gd]) t1;obtain⟨x2,a2,b2,_⟩: ∃x2:List Bool,Lf W v2.cells.toList [.sl (x2.map fun z=>[.at (.bool z)])]/\zC [.sl (x2.map fun z=>[.at (.bool z)])]<=Rows.uptoBulk d2/\Kg [.sl (x2.map fun z=>[.at (.bool z)])]:=reads ipOK ipRd Dw enc W f2 30 _ d2 p2 (by simp[gd]) t2;obtain⟨x3,a3,b3,_⟩: ∃x3:List Bool,Lf W v3.cells.toList [.sl (x3.map fun z=>[.at (.bool z)])]/\zC [.sl (x3.map fun z=>[.at (.bool z)])]<=Rows.uptoBulk d3/\Kg [.sl (x3.map fun z=>[.at (.bool z)])]:=reads ipOK ipRd Dw enc W f3 30 _ d3 p3 (by simp[gd]) t3;simp only[Dc,Uc,Ke,Rows.uptoBulkAll]at hb;have s0:zC (zq x0)+zC (zq x1)<=2000000:=by omega
 have s2:x2.length<=big:=by
  have q:zC [.sl (x2.map fun z=>[.at (.bool z)])]<=1048576:=by omega
  have q2:=aK x2;unfold big;omega
 have s3:x3.length<=big:=by
  have q:zC [.sl (x3.map fun z=>[.at (.bool z)])]<=1048576:=by omega
  have q2:=aK x3;unfold big;omega
 have ha:jf noA W (((uP GA).inS.sl I).enc (x0,x1,x2,x3)).1 #[v0,v1,v2,v3]:=by exact Sy (NR (xs:=I.exp 27 x0) rfl Tryz.underlying27 (hval 0 27 v0 rfl rfl) (by rw[<-ipOK.exp 27 x0];exact a0)) (Sy (NR (xs:=I.exp 27 x1) rfl Tryz.underlying27 (hval 1 27 v1 rfl rfl) (by rw[<-ipOK.exp 27 x1];exact a1)) (Sy (PR rfl (hu:=Gj) (by intro fs h;cases h) (by intro n e h;cases h) (hval 2 30 v2 rfl rfl) a2) (Sy (PR rfl (hu:=Gj) (by intro fs h;cases h) (by intro n e h;cases h) (hval 3 30 v3 rfl rfl) a3) jS)))
 refine(UV (I:=I) O8 (x:=(x0,x1,x2,x3)) (y:=true) (yX s0 s2 s3) (b:=true) rfl rfl (zCk hS hL) ha).mono fun e W' ⟨he,hbl⟩=> ?_;subst he;refine⟨_,rfl,vS (tb:=4) (pa:=p0++(p1++(p2++(p3++[])))) hW' rfl rfl Tryz.underlying4 rfl rfl (fun sp hsp=> ?_) (Ke _) hbl⟩;have hlt: ∀x∈p0++(p1++(p2++(p3++[]))),x.block<W.heap.size:=fun x hx=>hW'.lt x (by simpa using hx);exact NN (by kernel_rfl) hbl sp _ _ _ _ (by rw[Tryz.params5];intro t ht;simp at ht;rcases ht with rfl|rfl|rfl|rfl<;>exact⟨by kernel_rfl,Db (by kernel_rfl)⟩) hA0 hlt (fun x hx=>hsp x (by simpa using hx))
end Go.Proofs.YtkecjfeffabgiaaGreatDoor.condLogic
