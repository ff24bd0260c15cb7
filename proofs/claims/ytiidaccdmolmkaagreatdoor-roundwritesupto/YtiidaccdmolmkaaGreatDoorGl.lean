import Derived.Test.YtiidaccdmolmkaaGreatDoorGa
import Derived.Test.YtiidaccdmolmkaaGreatDoorCards
import Derived.Test.YtiidaccdmolmkaaGreatDoorTie
import Derived.Deep.DeepHandedRow
import Derived.Lib.LaidTab
import Derived.LaidSub
import Derived.Shelf.Vars
set_option linter.all false
namespace Go.Proofs.YtiidaccdmolmkaaGreatDoor
open Go.ChangeShapes Go.WideShapes Go.ChangeAt Go.RowKit Go.Lv
set_option maxRecDepth 100000
def GV{W:World}{name:String}{g:Nat}{k:IntKind}{zs:List Int}(a:Tryz.prog.globalNamed name=some g)(h:Lib.TabIs Tryz.prog W name k zs): ∃o,W.heap[g]? =some o/\FC k zs o:=by
 unfold Lib.TabIs World.var? at h;rw[a,Aa]at h;split at h
 ·rename_i cs t fr e;cases h;exact⟨_,e,t,fr,rfl⟩
 ·cases h
abbrev Ro:List (String×DataW Unit):=Rows.roundWritesRow.laid
def zM0{W:World}(h:laidMetH Tryz.prog Ro W):Lib.TabIs Tryz.prog W "internal/strconv.uint64pow10" .u64 Lib.pow10Tab:=by have h1:laidMet Tryz.prog Ro W:=h;have h2:=h1.filter (λx=>x.1== "internal/strconv.uint64pow10");rw[show Ro.filter (λx=>x.1== "internal/strconv.uint64pow10")=[("internal/strconv.uint64pow10",Lib.tabData .u64 Lib.pow10Tab)] by kernel_rfl]at h2;exact Lib.tabIs_of_head (rest:=[]) (g:=1) (t:=(Tryz.prog.globals[1]?.map (·.type)).getD 0) (e:=240) (n:=20) (by kernel_rfl) (by kernel_rfl) (by kernel_rfl) (by kernel_rfl) (by kernel_rfl) (by kernel_rfl) h2
def zD2{W:World}(h:laidMetH Tryz.prog Ro W):Lib.TabIs Tryz.prog W "math/bits.deBruijn64tab" .u8 BA:=by have h1:laidMet Tryz.prog Ro W:=h;have h2:=h1.filter (λx=>x.1== "math/bits.deBruijn64tab");rw[show Ro.filter (λx=>x.1== "math/bits.deBruijn64tab")=[("math/bits.deBruijn64tab",Lib.tabData .u8 BA)] by kernel_rfl]at h2;exact Lib.tabIs_of_head (rest:=[]) (g:=3) (t:=(Tryz.prog.globals[3]?.map (·.type)).getD 0) (e:=5) (n:=64) (by kernel_rfl) (by kernel_rfl) (by kernel_rfl) (by kernel_rfl) (by kernel_rfl) (by kernel_rfl) h2
def zQw{W:World}(h:W.ShapedOpen Tryz.prog): ∃o,W.heap[0]? =some o/\NS o:=by
 obtain⟨m,hm⟩:=cell_of_shapedOpen_int (g:=0) (t:=3) (zero:= #[.int .i64 0]) (k:= .i64) h (jb (by kernel_rfl)) (by kernel_rfl) rfl (by kernel_rfl) (by kernel_rfl) (by kernel_rfl);unfold World.cell? at hm;simp only at hm;split at hm
 ·rename_i cs t fr e;exact⟨_,e,cs,t,fr,m,rfl,hm⟩
 all_goals cases hm
def zSh{W:World}(hs:W.ShapedOpen Tryz.prog)(h:laidMetH Tryz.prog Ro W):Glob (fm noA W) W:=by
 have b: ∀q∈tabG,∃o,W.heap[q.1]? =some o/\q.2 o:=by
  intro q a;rcases ib.1 a with rfl|a
  ·exact zQw hs
  rcases ib.1 a with rfl|a
  ·exact GV (by kernel_rfl) (zM0 h)
  rcases ib.1 a with rfl|a
  ·exact GV (by kernel_rfl) (zD2 h)
  ·cases a
 intro q a;obtain⟨o,h1,h2⟩:=b q a;exact⟨⟨(Sb.1 h1).1,rfl,λ_ _ _ e=>by cases e⟩,o,h1,h2⟩
def xC(cs:List Value):Obj->Obj
 | .cells _ t fr=> .cells cs.toArray t fr
 |o=>o
def u8s(l:List Nat):List Value:=l.map λ(n:Nat)=>Value.int .u8 (n:Int)
def accT:List Nat:=[128,191,160,191,128,159,144,191,128,143,0,0,0,0,0,0,0,0,0,0,0,0,0,0,0,0,0,0,0,0,0,0]
def zRR:List Nat:=[0,1,28,2,29,14,24,3,30,22,20,15,25,17,4,8,31,27,13,23,21,19,16,7,26,12,18,6,11,5,10,9]
noncomputable def UN(os:Os)(args:Array Value):World:=
 {World.holding Tryz.prog os ⟨#[],args,[]⟩with heap:=(((((World.holding Tryz.prog os ⟨#[],args,[]⟩).heap.modify 1 (xC (jQ.map λz=> .int .u64 z))).modify 2 (xC (u8s zRR))).modify 3 (xC (BA.map λz=> .int .u8 z))).modify 4 (xC (u8s Go.Pinned.utf8FirstZ))).modify 5 (xC (u8s accT))}
end Go.Proofs.YtiidaccdmolmkaaGreatDoor
