/- What the rows of the layer 'glue' say of package-level variables: as the evaluator takes it; a world for the witness. -/
import Derived.Test.YtpcfcdmidhbkmaaGreatDoorCards
import Derived.Test.YtpcfcdmidhbkmaaGreatDoorTie
import Derived.Test.YtpcfcdmidhbkmaaGreatDoorGa
import Derived.Test.YtpcfcdmidhbkmaaGreatDoorLf
import Derived.WalkKit
import Derived.ProofKit
import Derived.OpenShut
import Derived.Deep.DeepHandedRow
import Derived.Lib.LaidTab
import Derived.LaidSub
import Derived.Shelf.Vars
set_option linter.unusedSimpArgs false
set_option linter.unusedVariables false
namespace Go.Proofs.YtpcfcdmidhbkmaaGreatDoor
open Go.ChangeShapes Go.WideShapes Go.ChangeAt Go.RowKit Go.Lv
set_option maxRecDepth 100000
theorem lN{W:World}{name:String}{g:Nat}{k:IntKind}{zs:List Int}(hg:Tryz.prog.globalNamed name=some g)(h:Lib.TabIs Tryz.prog W name k zs): ∃o,W.heap[g]? =some o/\mq k zs o:=by
 unfold Lib.TabIs World.var? at h;rw[hg,Aa]at h;split at h
 ·rename_i cs t fr e;cases h;exact⟨_,e,t,fr,rfl⟩
 ·cases h
abbrev Xj:List (String×DataW Unit):=Rows.gluePartsRow.laid
theorem pU{W:World}(h:laidMetH Tryz.prog Xj W):Lib.TabIs Tryz.prog W "internal/strconv.uint64pow10" .u64 Lib.pow10Tab:=by have h1:laidMet Tryz.prog Xj W:=h;have h2:=h1.filter (fun x=>x.1== "internal/strconv.uint64pow10");rw[show Xj.filter (fun x=>x.1== "internal/strconv.uint64pow10")=[("internal/strconv.uint64pow10",Lib.tabData .u64 Lib.pow10Tab)] by kernel_rfl]at h2;exact Lib.tabIs_of_head (rest:=[]) (g:=1) (t:=(Tryz.prog.globals[1]?.map (·.type)).getD 0) (e:=67) (n:=20) (by kernel_rfl) (by kernel_rfl) (by kernel_rfl) (by kernel_rfl) (by kernel_rfl) (by kernel_rfl) h2
theorem FZ{W:World}(h:laidMetH Tryz.prog Xj W):Lib.TabIs Tryz.prog W "math/bits.deBruijn64tab" .u8 cu:=by have h1:laidMet Tryz.prog Xj W:=h;have h2:=h1.filter (fun x=>x.1== "math/bits.deBruijn64tab");rw[show Xj.filter (fun x=>x.1== "math/bits.deBruijn64tab")=[("math/bits.deBruijn64tab",Lib.tabData .u8 cu)] by kernel_rfl]at h2;exact Lib.tabIs_of_head (rest:=[]) (g:=3) (t:=(Tryz.prog.globals[3]?.map (·.type)).getD 0) (e:=5) (n:=64) (by kernel_rfl) (by kernel_rfl) (by kernel_rfl) (by kernel_rfl) (by kernel_rfl) (by kernel_rfl) h2
theorem gQ{W:World}(h:W.ShapedOpen Tryz.prog): ∃o,W.heap[0]? =some o/\PD o:=by
 obtain⟨m,hm⟩:=cell_of_shapedOpen_int (g:=0) (t:=3) (zero:= #[.int .i64 0]) (k:= .i64) h (jb (by kernel_rfl)) (by kernel_rfl) rfl (by kernel_rfl) (by kernel_rfl) (by kernel_rfl);unfold World.cell? at hm;simp only at hm;split at hm
 ·rename_i cs t fr e;exact⟨_,e,cs,t,fr,m,rfl,hm⟩
 all_goals cases hm
theorem aQ{W:World}(hs:W.ShapedOpen Tryz.prog)(h:laidMetH Tryz.prog Xj W):Glob (Dom noA W) W:=by
 have key: ∀q∈tabG,∃o,W.heap[q.1]? =some o/\q.2 o:=by
  intro q hq;rcases Bb.1 hq with rfl|hq
  ·exact gQ hs
  rcases Bb.1 hq with rfl|hq
  ·exact lN (by kernel_rfl) (pU h)
  rcases Bb.1 hq with rfl|hq
  ·exact lN (by kernel_rfl) (FZ h)
  ·cases hq
 intro q hq;obtain⟨o,h1,h2⟩:=key q hq;exact⟨⟨(Rb.1 h1).1,rfl,fun _ _ _ e=>by cases e⟩,o,h1,h2⟩
def Ls(cs:List Value):Obj->Obj
 | .cells _ t fr=> .cells cs.toArray t fr
 |o=>o
def u8s(l:List Nat):List Value:=l.map fun(n:Nat)=>Value.int .u8 (n:Int)
def accT:List Nat:=[128,191,160,191,128,159,144,191,128,143,0,0,0,0,0,0,0,0,0,0,0,0,0,0,0,0,0,0,0,0,0,0]
def OQ:List Nat:=[0,1,28,2,29,14,24,3,30,22,20,15,25,17,4,8,31,27,13,23,21,19,16,7,26,12,18,6,11,5,10,9]
noncomputable def VF(os:Os)(args:Array Value):World:=
 {World.holding Tryz.prog os ⟨#[],args,[]⟩with heap:=(((((World.holding Tryz.prog os ⟨#[],args,[]⟩).heap.modify 1 (Ls (fB.map fun z=> .int .u64 z))).modify 2 (Ls (u8s OQ))).modify 3 (Ls (cu.map fun z=> .int .u8 z))).modify 4 (Ls (u8s Go.Pinned.utf8FirstZ))).modify 5 (Ls (u8s accT))}
end Go.Proofs.YtpcfcdmidhbkmaaGreatDoor
