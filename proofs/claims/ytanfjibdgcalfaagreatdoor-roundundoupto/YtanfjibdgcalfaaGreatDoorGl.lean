/- What the rows of the layer 'glue' say of package-level variables: as the evaluator takes it; a world for the witness. -/
import Derived.Test.YtanfjibdgcalfaaGreatDoorCards
import Derived.Test.YtanfjibdgcalfaaGreatDoorTie
import Derived.Test.YtanfjibdgcalfaaGreatDoorGa
import Derived.Test.YtanfjibdgcalfaaGreatDoorLf
import Derived.WalkKit
import Derived.ProofKit
import Derived.OpenShut
import Derived.Deep.DeepHandedRow
import Derived.Lib.LaidTab
import Derived.LaidSub
import Derived.Shelf.Vars
set_option linter.unusedSimpArgs false
set_option linter.unusedVariables false
namespace Go.Proofs.YtanfjibdgcalfaaGreatDoor
open Go.ChangeShapes Go.WideShapes Go.ChangeAt Go.RowKit Go.Lv
set_option maxRecDepth 100000
theorem YN{W:World}{name:String}{g:Nat}{k:IntKind}{zs:List Int}(hg:Tryz.prog.globalNamed name=some g)(h:Lib.TabIs Tryz.prog W name k zs): ∃o,W.heap[g]? =some o/\Tv k zs o:=by
 unfold Lib.TabIs World.var? at h;rw[hg,Ba]at h;split at h
 ·rename_i cs t fr e;cases h;exact⟨_,e,t,fr,rfl⟩
 ·cases h
abbrev Mj:List (String×DataW Unit):=Rows.roundNamesRow.laid
theorem zK0{W:World}(h:laidMetH Tryz.prog Mj W):Lib.TabIs Tryz.prog W "internal/strconv.uint64pow10" .u64 Lib.pow10Tab:=by have h1:laidMet Tryz.prog Mj W:=h;have h2:=h1.filter (fun x=>x.1== "internal/strconv.uint64pow10");rw[show Mj.filter (fun x=>x.1== "internal/strconv.uint64pow10")=[("internal/strconv.uint64pow10",Lib.tabData .u64 Lib.pow10Tab)] by kernel_rfl]at h2;exact Lib.tabIs_of_head (rest:=[]) (g:=1) (t:=(Tryz.prog.globals[1]?.map (·.type)).getD 0) (e:=335) (n:=20) (by kernel_rfl) (by kernel_rfl) (by kernel_rfl) (by kernel_rfl) (by kernel_rfl) (by kernel_rfl) h2
theorem zE6{W:World}(h:laidMetH Tryz.prog Mj W):Lib.TabIs Tryz.prog W "math/bits.deBruijn64tab" .u8 Nt:=by have h1:laidMet Tryz.prog Mj W:=h;have h2:=h1.filter (fun x=>x.1== "math/bits.deBruijn64tab");rw[show Mj.filter (fun x=>x.1== "math/bits.deBruijn64tab")=[("math/bits.deBruijn64tab",Lib.tabData .u8 Nt)] by kernel_rfl]at h2;exact Lib.tabIs_of_head (rest:=[]) (g:=5) (t:=(Tryz.prog.globals[5]?.map (·.type)).getD 0) (e:=5) (n:=64) (by kernel_rfl) (by kernel_rfl) (by kernel_rfl) (by kernel_rfl) (by kernel_rfl) (by kernel_rfl) h2
theorem zMX{W:World}(h:W.ShapedOpen Tryz.prog): ∃o,W.heap[0]? =some o/\UK o:=by
 obtain⟨m,hm⟩:=cell_of_shapedOpen_int (g:=0) (t:=3) (zero:= #[.int .i64 0]) (k:= .i64) h (Fb (by kernel_rfl)) (by kernel_rfl) rfl (by kernel_rfl) (by kernel_rfl) (by kernel_rfl);unfold World.cell? at hm;simp only at hm;split at hm
 ·rename_i cs t fr e;exact⟨_,e,cs,t,fr,m,rfl,hm⟩
 all_goals cases hm
theorem zNL{W:World}(hs:W.ShapedOpen Tryz.prog)(h:laidMetH Tryz.prog Mj W):Glob (Dom noA W) W:=by
 have key: ∀q∈tabG,∃o,W.heap[q.1]? =some o/\q.2 o:=by
  intro q hq;rcases Db.1 hq with rfl|hq
  ·exact zMX hs
  rcases Db.1 hq with rfl|hq
  ·exact YN (by kernel_rfl) (zK0 h)
  rcases Db.1 hq with rfl|hq
  ·exact YN (by kernel_rfl) (zE6 h)
  ·cases hq
 intro q hq;obtain⟨o,h1,h2⟩:=key q hq;exact⟨⟨(Ya.1 h1).1,rfl,fun _ _ _ e=>by cases e⟩,o,h1,h2⟩
def Xl(cs:List Value):Obj->Obj
 | .cells _ t fr=> .cells cs.toArray t fr
 |o=>o
def u8s(l:List Nat):List Value:=l.map fun(n:Nat)=>Value.int .u8 (n:Int)
def accT:List Nat:=[128,191,160,191,128,159,144,191,128,143,0,0,0,0,0,0,0,0,0,0,0,0,0,0,0,0,0,0,0,0,0,0]
def zNt:List Nat:=[0,1,28,2,29,14,24,3,30,22,20,15,25,17,4,8,31,27,13,23,21,19,16,7,26,12,18,6,11,5,10,9]
def zN4:List UInt8:=[118,97,108,117,101,32,111,117,116,32,111,102,32,114,97,110,103,101]
def zNh:List UInt8:=[105,110,118,97,108,105,100,32,115,121,110,116,97,120]
def errV(n:Nat):List Value:=[.iface 463 (.pointer (some ⟨n,0,none⟩))]
noncomputable def SF(os:Os)(args:Array Value):World:=
 {World.holding Tryz.prog os ⟨#[],args,[]⟩with heap:=(((((((((World.holding Tryz.prog os ⟨#[],args,[]⟩).heap.modify 1 (Xl (iJ.map fun z=> .int .u64 z))).modify 4 (Xl (u8s zNt))).modify 5 (Xl (Nt.map fun z=> .int .u8 z))).modify 2 (Xl (u8s Go.Pinned.utf8FirstZ))).modify 3 (Xl (u8s accT))).modify 6 (Xl (errV (World.holding Tryz.prog os ⟨#[],args,[]⟩).heap.size))).modify 7 (Xl (errV ((World.holding Tryz.prog os ⟨#[],args,[]⟩).heap.size+1)))).push (.cells #[.string ⟨zNh.toArray⟩] 465 (0,0))).push (.cells #[.string ⟨zN4.toArray⟩] 465 (0,0))}
end Go.Proofs.YtanfjibdgcalfaaGreatDoor
