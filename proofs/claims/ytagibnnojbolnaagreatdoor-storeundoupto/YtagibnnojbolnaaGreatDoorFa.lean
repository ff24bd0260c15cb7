/- StoreUndo: what the row asks of a call. -/
import Derived.Test.YtagibnnojbolnaaGreatDoorGl
import Derived.Test.YtagibnnojbolnaaGreatDoorCo
import Derived.Test.YtagibnnojbolnaaGreatDoorRd
import Derived.Test.YtagibnnojbolnaaGreatDoorXl
set_option linter.unusedSimpArgs false
set_option linter.unusedVariables false
namespace Go.Proofs.YtagibnnojbolnaaGreatDoor.storeUndo
open Go.ChangeShapes Go.WideShapes Go.ChangeAt Go.RowKit Go.Lv Go.Lv.VT
set_option maxRecDepth 100000
theorem wO{H:Type}: ∀(l:List (DataW H)),Rows.uptoBulkAll l=(l.map Rows.uptoBulk).sum
 |[]=>by rw[Rows.uptoBulkAll];rfl
 |d::l=>by rw[Rows.uptoBulkAll,wO l];rfl
theorem MI:zKH @Rows.uptoBulk where
 one:=fun {H} d=>by
  cases d with
  |lit l=>cases l<;>simp[Rows.uptoBulk]
  |nil=>simp[Rows.uptoBulk]
  |ptr d=>simp[Rows.uptoBulk]
  |slice elems spare=>simp[Rows.uptoBulk]
  |agg parts=>simp[Rows.uptoBulk]
  |iface t d=>simp[Rows.uptoBulk]
  |map entries=>simp[Rows.uptoBulk]
  |held h=>simp[Rows.uptoBulk]
 str:=fun l=>by simp[Rows.uptoBulk]
 slice:=fun a b=>by rw[Rows.uptoBulk,wO];omega
 agg:=fun a=>by rw[Rows.uptoBulk,wO];omega
theorem contract (H:Type) (enc:TypeId×Value->H) (W:World) (base:Nat) (args:Array Value) (ds gs:List (DataW H)) (before:List MemPlace)
  (hval: ∀(j:Nat) t v,Tryz.f3.params[j]? =some t->args[j]? =some v->Value.okWide Tryz.prog W .any base t v)
  (hW:DataW.Whole enc Tryz.prog Tryz.f3.params.toList Rows.storeUndoSpec.vars false W args.toList ds gs before) (hL:laidMetH Tryz.prog Gu W) (hS:W.ShapedOpen Tryz.prog) (hk:Rows.uptoSmall H (ds++gs)=true):
  Calls Tryz.prog 3 args W fun e W'=> ∃v,e= .returned v/\Rows.storeUndoSpec.post enc Tryz.prog Tryz.f3 false true false false W args v W':=by
 have hW':=hW;obtain⟨p,q,hA0,hV,rfl,hfz,hnd⟩:=hW;have hA:DataW.TrodAll enc Tryz.prog W 0 (fun _=>true) true Tryz.f3.params.toList args.toList ds p:=hA0;rw[Tryz.params3]at hA hval;obtain⟨v0,vs0,d0,ds0,p0,q0,hargs,rfl,rfl,h0,r0⟩:=trodAll_cons hA;obtain⟨v1,vs1,d1,ds1,p1,q1,rfl,rfl,rfl,h1,r1⟩:=trodAll_cons r0;obtain⟨v2,vs2,d2,ds2,p2,q2,rfl,rfl,rfl,h2,r2⟩:=trodAll_cons r1;obtain⟨v3,vs3,d3,ds3,p3,q3,rfl,rfl,rfl,h3,r3⟩:=trodAll_cons r2;obtain⟨rfl,rfl,rfl⟩:=trodAll_nil r3;obtain rfl:args= #[v0,v1,v2,v3]:=by cases args;simp_all
 obtain⟨rfl,rfl⟩:=trodVars_none hV;have hb:Rows.uptoBulkAll ([d0,d1,d2,d3]++[])<=1048576:=Ib hk;obtain⟨f0,t0⟩:=h0;obtain⟨f1,t1⟩:=h1;obtain⟨f2,t2⟩:=h2;obtain⟨f3,t3⟩:=h3;obtain⟨x0,a0,b0,o0⟩: ∃x0:ZJ,ng W v0.cells.toList (fu x0)/\zq (fu x0)<=Rows.uptoBulk d0/\yh (fu x0):=reads ipOK ipRd MI enc W f0 24 _ d0 p0 (by simp[gd]) t0;obtain⟨x1,a1,b1,o1⟩: ∃x1:UInt8,ng W v1.cells.toList [.at (.int .u8 ((UInt8.toNat x1:Nat):Int))]/\zq [.at (.int .u8 ((UInt8.toNat x1:Nat):Int))]<=Rows.uptoBulk d1/\yh [.at (.int .u8 ((UInt8.toNat x1:Nat):Int))]:=reads ipOK ipRd MI enc W f1 5 _ d1 p1 (by simp[gd]) t1;obtain⟨x2,a2,b2,o2⟩: ∃x2:Str,ng W v2.cells.toList [.str x2]/\zq [.str x2]<=Rows.uptoBulk d2/\yh [.str x2]:=reads ipOK ipRd MI enc W f2 9 _ d2 p2 (by simp[gd]) t2;obtain⟨x3,a3,b3,o3⟩: ∃x3:Str,ng W v3.cells.toList [.str x3]/\zq [.str x3]<=Rows.uptoBulk d3/\yh [.str x3]:=reads ipOK ipRd MI enc W f3 9 _ d3 p3 (by simp[gd]) t3;simp only[Sb,Bc,Yb,Rows.uptoBulkAll]at hb;have hs0:zL Zt x0.sheets<=zq (fu x0):=by unfold fu;simp only[zq,bPV,zL];omega
 have hs:zL Zt x0.sheets<=1100000:=by omega
 have ha:Gh noA W (((YT bG).inS.sl I).enc (x0,((UInt8.toNat x1:Nat):Int),x2,x3)).1 #[v0,v1,v2,v3]:=by exact gD (zOD (xs:=I.exp 24 x0) rfl Tryz.underlying24 (hval 0 24 v0 rfl rfl) (by rw[<-ipOK.exp 24 x0];exact a0)) (gD (rM rfl (hu:=zOZ) (by intro fs h;cases h) (by intro n e h;cases h) (hval 1 5 v1 rfl rfl) a1) (gD (rM rfl (hu:=DU) (by intro fs h;cases h) (by intro n e h;cases h) (hval 2 9 v2 rfl rfl) a2) (gD (rM rfl (hu:=DU) (by intro fs h;cases h) (by intro n e h;cases h) (hval 3 9 v3 rfl rfl) a3) zIO)))
 refine(zGT (I:=I) zn4 (x:=(x0,((UInt8.toNat x1:Nat):Int),x2,x3)) (y:=true) (yZ hs) (b:=true) rfl rfl (zND hS hL) ha).mono fun e W' ⟨he,hbl⟩=> ?_;subst he;refine⟨_,rfl,zJM (tb:=4) (pa:=p0++(p1++(p2++(p3++[])))) hW' rfl rfl Tryz.underlying4 rfl rfl (fun sp hsp=> ?_) (Yb _) hbl⟩;have hlt: ∀x∈p0++(p1++(p2++(p3++[]))),x.block<W.heap.size:=fun x hx=>hW'.lt x (by simpa using hx);exact ER (by kernel_rfl) hbl sp _ _ _ _ (by rw[Tryz.params3];intro t ht;simp at ht;rcases ht with rfl|rfl|rfl|rfl<;>exact⟨by kernel_rfl,Ib (by kernel_rfl)⟩) hA0 hlt (fun x hx=>hsp x (by simpa using hx))
end Go.Proofs.YtagibnnojbolnaaGreatDoor.storeUndo
