/- What the rows of the layer 'glue' say of package-level variables: as the evaluator takes it; a world for the witness. -/
import Derived.Test.YtkecjfeffabgiaaGreatDoorCards
import Derived.Test.YtkecjfeffabgiaaGreatDoorTie
import Derived.Test.YtkecjfeffabgiaaGreatDoorGa
import Derived.Test.YtkecjfeffabgiaaGreatDoorLf
import Derived.WalkKit
import Derived.ProofKit
import Derived.OpenShut
import Derived.Deep.DeepHandedRow
import Derived.Lib.LaidTab
import Derived.LaidSub
import Derived.Shelf.Vars
set_option linter.unusedSimpArgs false
set_option linter.unusedVariables false
namespace Go.Proofs.YtkecjfeffabgiaaGreatDoor
open Go.ChangeShapes Go.WideShapes Go.ChangeAt Go.RowKit Go.Lv
set_option maxRecDepth 100000
theorem JW{W:World}{name:String}{g:Nat}{k:IntKind}{zs:List Int}(hg:Tryz.prog.globalNamed name=some g)(h:Lib.TabIs Tryz.prog W name k zs): ∃o,W.heap[g]? =some o/\VC k zs o:=by
 unfold Lib.TabIs World.var? at h;rw[hg,Aa]at h;split at h
 ·rename_i cs t fr e;cases h;exact⟨_,e,t,fr,rfl⟩
 ·cases h
abbrev yn:List (String×DataW Unit):=Rows.condTellsRow.laid
theorem zEk{W:World}(h:laidMetH Tryz.prog yn W):Lib.TabIs Tryz.prog W "internal/strconv.uint64pow10" .u64 Lib.pow10Tab:=by have h1:laidMet Tryz.prog yn W:=h;have h2:=h1.filter (fun x=>x.1== "internal/strconv.uint64pow10");rw[show yn.filter (fun x=>x.1== "internal/strconv.uint64pow10")=[("internal/strconv.uint64pow10",Lib.tabData .u64 Lib.pow10Tab)] by kernel_rfl]at h2;exact Lib.tabIs_of_head (rest:=[]) (g:=1) (t:=(Tryz.prog.globals[1]?.map (·.type)).getD 0) (e:=206) (n:=20) (by kernel_rfl) (by kernel_rfl) (by kernel_rfl) (by kernel_rfl) (by kernel_rfl) (by kernel_rfl) h2
theorem zvv{W:World}(h:laidMetH Tryz.prog yn W):Lib.TabIs Tryz.prog W "math/bits.deBruijn64tab" .u8 yA:=by have h1:laidMet Tryz.prog yn W:=h;have h2:=h1.filter (fun x=>x.1== "math/bits.deBruijn64tab");rw[show yn.filter (fun x=>x.1== "math/bits.deBruijn64tab")=[("math/bits.deBruijn64tab",Lib.tabData .u8 yA)] by kernel_rfl]at h2;exact Lib.tabIs_of_head (rest:=[]) (g:=5) (t:=(Tryz.prog.globals[5]?.map (·.type)).getD 0) (e:=5) (n:=64) (by kernel_rfl) (by kernel_rfl) (by kernel_rfl) (by kernel_rfl) (by kernel_rfl) (by kernel_rfl) h2
theorem zHR{W:World}(h:W.ShapedOpen Tryz.prog): ∃o,W.heap[0]? =some o/\BI o:=by
 obtain⟨m,hm⟩:=cell_of_shapedOpen_int (g:=0) (t:=3) (zero:= #[.int .i64 0]) (k:= .i64) h (Ac (by kernel_rfl)) (by kernel_rfl) rfl (by kernel_rfl) (by kernel_rfl) (by kernel_rfl);unfold World.cell? at hm;simp only at hm;split at hm
 ·rename_i cs t fr e;exact⟨_,e,cs,t,fr,m,rfl,hm⟩
 all_goals cases hm
theorem zJE{W:World}(hs:W.ShapedOpen Tryz.prog)(h:laidMetH Tryz.prog yn W):Glob (Dom noA W) W:=by
 have key: ∀q∈tabG,∃o,W.heap[q.1]? =some o/\q.2 o:=by
  intro q hq;rcases Jb.1 hq with rfl|hq
  ·exact zHR hs
  rcases Jb.1 hq with rfl|hq
  ·exact JW (by kernel_rfl) (zEk h)
  rcases Jb.1 hq with rfl|hq
  ·exact JW (by kernel_rfl) (zvv h)
  ·cases hq
 intro q hq;obtain⟨o,h1,h2⟩:=key q hq;exact⟨⟨(Ec.1 h1).1,rfl,fun _ _ _ e=>by cases e⟩,o,h1,h2⟩
def wy(cs:List Value):Obj->Obj
 | .cells _ t fr=> .cells cs.toArray t fr
 |o=>o
def u8s(l:List Nat):List Value:=l.map fun(n:Nat)=>Value.int .u8 (n:Int)
def accT:List Nat:=[128,191,160,191,128,159,144,191,128,143,0,0,0,0,0,0,0,0,0,0,0,0,0,0,0,0,0,0,0,0,0,0]
def zJf:List Nat:=[0,1,28,2,29,14,24,3,30,22,20,15,25,17,4,8,31,27,13,23,21,19,16,7,26,12,18,6,11,5,10,9]
noncomputable def FL(os:Os)(args:Array Value):World:=
 {World.holding Tryz.prog os ⟨#[],args,[]⟩with heap:=(((((World.holding Tryz.prog os ⟨#[],args,[]⟩).heap.modify 1 (wy (yO.map fun z=> .int .u64 z))).modify 4 (wy (u8s zJf))).modify 5 (wy (yA.map fun z=> .int .u8 z))).modify 2 (wy (u8s Go.Pinned.utf8FirstZ))).modify 3 (wy (u8s accT))}
end Go.Proofs.YtkecjfeffabgiaaGreatDoor
