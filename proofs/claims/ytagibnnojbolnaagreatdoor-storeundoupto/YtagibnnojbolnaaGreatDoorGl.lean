/- What the rows of the layer 'glue' say of package-level variables: as the evaluator takes it; a world for the witness. -/
import Derived.Test.YtagibnnojbolnaaGreatDoorCards
import Derived.Test.YtagibnnojbolnaaGreatDoorTie
import Derived.Test.YtagibnnojbolnaaGreatDoorGa
import Derived.Test.YtagibnnojbolnaaGreatDoorLf
import Derived.WalkKit
import Derived.ProofKit
import Derived.OpenShut
import Derived.Deep.DeepHandedRow
import Derived.Lib.LaidTab
import Derived.LaidSub
import Derived.Shelf.Vars
set_option linter.unusedSimpArgs false
set_option linter.unusedVariables false
namespace Go.Proofs.YtagibnnojbolnaaGreatDoor
open Go.ChangeShapes Go.WideShapes Go.ChangeAt Go.RowKit Go.Lv
set_option maxRecDepth 100000
abbrev Gu:List (String×DataW Unit):=Rows.storeUndoRow.laid
theorem zMk{W:World}(h:W.ShapedOpen Tryz.prog): ∃o,W.heap[0]? =some o/\uO o:=by
 obtain⟨m,hm⟩:=cell_of_shapedOpen_int (g:=0) (t:=3) (zero:= #[.int .i64 0]) (k:= .i64) h (Ib (by kernel_rfl)) (by kernel_rfl) rfl (by kernel_rfl) (by kernel_rfl) (by kernel_rfl);unfold World.cell? at hm;simp only at hm;split at hm
 ·rename_i cs t fr e;exact⟨_,e,cs,t,fr,m,rfl,hm⟩
 all_goals cases hm
theorem zJH {H:Type} {enc:TypeId×Value->H} {P:Program} {w:World} {base fuel:Nat} {sp:Nat->Bool} {t:TypeId} {m} {cs:List Value} {d:DataW H} {p:List MemPlace} (ht:P.underlying t=some (.interface m))
  (h:DataW.trod enc P w base sp false fuel t cs=some (d,p)):cs=[.nilIface]\/ ∃u v,cs=[.iface u v]:=by
 cases fuel with
 |zero=>simp[DataW.trod]at h
 |succ fuel=> unfold DataW.trod at h;rw[ht]at h;split at h<;>first|(rename_i e;cases e;done)|exact .inl rfl|exact .inr ⟨_,_,rfl⟩|cases h
theorem zJr{W:World}(h:laidMetH Tryz.prog Gu W): ∃o,W.heap[errG]? =some o/\vO o:=by
 have h1:laidMet Tryz.prog Gu W:=h;have h2:=h1.filter (fun x=>x.1== "strconv.ErrRange");rw[show Gu.filter (fun x=>x.1== "strconv.ErrRange")=[("strconv.ErrRange",Rows.laid_strconv_ErrRange)] by kernel_rfl]at h2;obtain⟨ps,⟨g,t,cs,fuel,p,q,hg,ht,hv,hd,_,_⟩,_⟩:=h2;obtain rfl:=Option.some.inj ((show Tryz.prog.globalNamed "strconv.ErrRange" =some errG by kernel_rfl).symm.trans hg);obtain rfl:=Option.some.inj ((show(Tryz.prog.globals[errG]?).map (·.type)=some 387 by kernel_rfl).symm.trans ht);have hc:=zJH Tryz.underlying387 hd;unfold World.var? at hv;rw[hg,Aa]at hv;split at hv
 ·rename_i cs' t fr e;cases hv;refine⟨_,e,t,fr,?_⟩;obtain⟨l⟩:=cs;rcases hc with hc|⟨u,v,hc⟩
  ·have hc:l=_:=hc;subst hc;exact⟨_,rfl, .inl rfl⟩
  ·have hc:l=_:=hc;subst hc;exact⟨_,rfl, .inr ⟨u,v,rfl⟩⟩
 ·cases hv
theorem zND{W:World}(hs:W.ShapedOpen Tryz.prog)(h:laidMetH Tryz.prog Gu W):Glob (Dom noA W) W:=by
 have key: ∀q∈tabG,∃o,W.heap[q.1]? =some o/\q.2 o:=by
  intro q hq;rcases Jb.1 hq with rfl|hq
  ·exact zMk hs
  rcases Jb.1 hq with rfl|hq
  ·exact zJr h
  ·cases hq
 intro q hq;obtain⟨o,h1,h2⟩:=key q hq;exact⟨⟨(Lb.1 h1).1,rfl,fun _ _ _ e=>by cases e⟩,o,h1,h2⟩
def Cq(cs:List Value):Obj->Obj
 | .cells _ t fr=> .cells cs.toArray t fr
 |o=>o
def u8s(l:List Nat):List Value:=l.map fun(n:Nat)=>Value.int .u8 (n:Int)
def accT:List Nat:=[128,191,160,191,128,159,144,191,128,143,0,0,0,0,0,0,0,0,0,0,0,0,0,0,0,0,0,0,0,0,0,0]
def zNk:List Nat:=[0,1,28,2,29,14,24,3,30,22,20,15,25,17,4,8,31,27,13,23,21,19,16,7,26,12,18,6,11,5,10,9]
def zNl:List Nat:=[0,1,56,2,57,49,28,3,61,58,42,50,38,29,17,4,62,47,59,36,45,43,51,22,53,39,33,30,24,18,12,5,63,55,48,27,60,41,37,16,46,35,44,21,52,32,23,11,54,26,40,15,34,20,31,10,25,14,19,9,13,8,7,6]
def zOa:List Value:=(List.range 20).map fun i=> .int .u64 ((10 ^ i:Nat):Int)
def zOd:List UInt8:=[118,97,108,117,101,32,111,117,116,32,111,102,32,114,97,110,103,101]
def zMU:List UInt8:=[105,110,118,97,108,105,100,32,115,121,110,116,97,120]
def errV(n:Nat):List Value:=[.iface 402 (.pointer (some ⟨n,0,none⟩))]
noncomputable def UJ(os:Os)(args:Array Value):World:=
 {World.holding Tryz.prog os ⟨#[],args,[]⟩with heap:=(((((((((World.holding Tryz.prog os ⟨#[],args,[]⟩).heap.modify 1 (Cq (u8s Go.Pinned.utf8FirstZ))).modify 2 (Cq (u8s accT))).modify 5 (Cq zOa)).modify 6 (Cq (u8s zNk))).modify 7 (Cq (u8s zNl))).modify 3 (Cq (errV (World.holding Tryz.prog os ⟨#[],args,[]⟩).heap.size))).modify 4 (Cq (errV ((World.holding Tryz.prog os ⟨#[],args,[]⟩).heap.size+1)))).push (.cells #[.string ⟨zMU.toArray⟩] 404 (0,0))).push (.cells #[.string ⟨zOd.toArray⟩] 404 (0,0))}
end Go.Proofs.YtagibnnojbolnaaGreatDoor
