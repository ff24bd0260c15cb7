/- What the rows of the layer 'glue' say of package-level variables: as the evaluator takes it; a world for the witness. -/
import Derived.Test.YtcdeccnjlkkejaaGreatDoorCards
import Derived.Test.YtcdeccnjlkkejaaGreatDoorTie
import Derived.Test.YtcdeccnjlkkejaaGreatDoorGa
import Derived.Test.YtcdeccnjlkkejaaGreatDoorLf
import Derived.WalkKit
import Derived.ProofKit
import Derived.OpenShut
import Derived.Deep.DeepHandedRow
import Derived.Lib.LaidTab
import Derived.LaidSub
import Derived.Shelf.Vars
set_option linter.unusedSimpArgs false
set_option linter.unusedVariables false
namespace Go.Proofs.YtcdeccnjlkkejaaGreatDoor
open Go.ChangeShapes Go.WideShapes Go.ChangeAt Go.RowKit Go.Lv
set_option maxRecDepth 100000
abbrev mF:List (String×DataW Unit):=Rows.declReadsRow.laid
theorem zBi{W:World}(h:W.ShapedOpen Tryz.prog): ∃o,W.heap[0]? =some o/\iE o:=by
 obtain⟨m,hm⟩:=cell_of_shapedOpen_int (g:=0) (t:=3) (zero:= #[.int .i64 0]) (k:= .i64) h (jb (by kernel_rfl)) (by kernel_rfl) rfl (by kernel_rfl) (by kernel_rfl) (by kernel_rfl);unfold World.cell? at hm;simp only at hm;split at hm
 ·rename_i cs t fr e;exact⟨_,e,cs,t,fr,m,rfl,hm⟩
 all_goals cases hm
theorem zCb{W:World}(hs:W.ShapedOpen Tryz.prog)(h:laidMetH Tryz.prog mF W):Glob (Dom noA W) W:=by
 have key: ∀q∈tabG,∃o,W.heap[q.1]? =some o/\q.2 o:=by
  intro q hq;rcases Jb.1 hq with rfl|hq
  ·exact zBi hs
  ·cases hq
 intro q hq;obtain⟨o,h1,h2⟩:=key q hq;exact⟨⟨(Yd.1 h1).1,fun _ _ e=>by cases e⟩,o,h1,h2⟩
def PU(cs:List Value):Obj->Obj
 | .cells _ t fr=> .cells cs.toArray t fr
 |o=>o
def u8s(l:List Nat):List Value:=l.map fun(n:Nat)=>Value.int .u8 (n:Int)
def accT:List Nat:=[128,191,160,191,128,159,144,191,128,143,0,0,0,0,0,0,0,0,0,0,0,0,0,0,0,0,0,0,0,0,0,0]
noncomputable def yG(os:Os)(args:Array Value):World:=
 {World.holding Tryz.prog os ⟨#[],args,[]⟩with heap:=(((World.holding Tryz.prog os ⟨#[],args,[]⟩).heap.modify 4 (PU (u8s Go.Pinned.utf8FirstZ))).modify 5 (PU (u8s accT)))}
end Go.Proofs.YtcdeccnjlkkejaaGreatDoor
