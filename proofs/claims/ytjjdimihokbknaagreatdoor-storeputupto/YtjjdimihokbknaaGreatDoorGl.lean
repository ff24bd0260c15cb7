/- What the rows of the layer 'glue' say of package-level variables: as the evaluator takes it; a world for the witness. -/
import Derived.Test.YtjjdimihokbknaaGreatDoorCards
import Derived.Test.YtjjdimihokbknaaGreatDoorTie
import Derived.Test.YtjjdimihokbknaaGreatDoorGa
import Derived.Test.YtjjdimihokbknaaGreatDoorLf
import Derived.WalkKit
import Derived.ProofKit
import Derived.OpenShut
import Derived.Deep.DeepHandedRow
import Derived.Lib.LaidTab
import Derived.LaidSub
import Derived.Shelf.Vars
set_option linter.unusedSimpArgs false
set_option linter.unusedVariables false
namespace Go.Proofs.YtjjdimihokbknaaGreatDoor
open Go.ChangeShapes Go.WideShapes Go.ChangeAt Go.RowKit Go.Lv
set_option maxRecDepth 100000
abbrev IE:List (String×DataW Unit):=Rows.storePutRow.laid
theorem zKZ{W:World}(h:W.ShapedOpen Tryz.prog): ∃o,W.heap[0]? =some o/\WJ o:=by
 obtain⟨m,hm⟩:=cell_of_shapedOpen_int (g:=0) (t:=3) (zero:= #[.int .i64 0]) (k:= .i64) h (Jb (by kernel_rfl)) (by kernel_rfl) rfl (by kernel_rfl) (by kernel_rfl) (by kernel_rfl);unfold World.cell? at hm;simp only at hm;split at hm
 ·rename_i cs t fr e;exact⟨_,e,cs,t,fr,m,rfl,hm⟩
 all_goals cases hm
theorem zLK{W:World}(hs:W.ShapedOpen Tryz.prog)(h:laidMetH Tryz.prog IE W):Glob (Dom noA W) W:=by
 have key: ∀q∈tabG,∃o,W.heap[q.1]? =some o/\q.2 o:=by
  intro q hq;rcases ma.1 hq with rfl|hq
  ·exact zKZ hs
  ·cases hq
 intro q hq;obtain⟨o,h1,h2⟩:=key q hq;exact⟨⟨(Bb.1 h1).1,rfl,fun _ _ _ e=>by cases e⟩,o,h1,h2⟩
def Kl(cs:List Value):Obj->Obj
 | .cells _ t fr=> .cells cs.toArray t fr
 |o=>o
def u8s(l:List Nat):List Value:=l.map fun(n:Nat)=>Value.int .u8 (n:Int)
def accT:List Nat:=[128,191,160,191,128,159,144,191,128,143,0,0,0,0,0,0,0,0,0,0,0,0,0,0,0,0,0,0,0,0,0,0]
def zLv:List Nat:=[0,1,28,2,29,14,24,3,30,22,20,15,25,17,4,8,31,27,13,23,21,19,16,7,26,12,18,6,11,5,10,9]
def zLw:List Nat:=[0,1,56,2,57,49,28,3,61,58,42,50,38,29,17,4,62,47,59,36,45,43,51,22,53,39,33,30,24,18,12,5,63,55,48,27,60,41,37,16,46,35,44,21,52,32,23,11,54,26,40,15,34,20,31,10,25,14,19,9,13,8,7,6]
def zL2:List Value:=(List.range 20).map fun i=> .int .u64 ((10 ^ i:Nat):Int)
def zL6:List UInt8:=[118,97,108,117,101,32,111,117,116,32,111,102,32,114,97,110,103,101]
def zLj:List UInt8:=[105,110,118,97,108,105,100,32,115,121,110,116,97,120]
def errV(n:Nat):List Value:=[.iface 404 (.pointer (some ⟨n,0,none⟩))]
noncomputable def mE(os:Os)(args:Array Value):World:=
 {World.holding Tryz.prog os ⟨#[],args,[]⟩with heap:=(((((((((World.holding Tryz.prog os ⟨#[],args,[]⟩).heap.modify 1 (Kl (u8s Go.Pinned.utf8FirstZ))).modify 2 (Kl (u8s accT))).modify 5 (Kl zL2)).modify 6 (Kl (u8s zLv))).modify 7 (Kl (u8s zLw))).modify 3 (Kl (errV (World.holding Tryz.prog os ⟨#[],args,[]⟩).heap.size))).modify 4 (Kl (errV ((World.holding Tryz.prog os ⟨#[],args,[]⟩).heap.size+1)))).push (.cells #[.string ⟨zLj.toArray⟩] 406 (0,0))).push (.cells #[.string ⟨zL6.toArray⟩] 406 (0,0))}
end Go.Proofs.YtjjdimihokbknaaGreatDoor
