/- Nodes that are put into a trie. -/
import Derived.Test.YtcdeccnjlkkejaaGreatDoorCa
import Derived.Lib.Hide
import Derived.Laws.AppendOwn
import Derived.Deep.RegionWith
import Derived.Deep.MidRow
import Derived.Laws.MakeOwn
set_option linter.unusedSimpArgs false
set_option linter.unusedVariables false
namespace Go.Proofs
set_option maxRecDepth 100000
set_option maxHeartbeats 4000000
theorem Cl.add_leaf (a g:Nat) (t val b:ByteArray) (p:Int) (w:World) (f:t.toList.isEmpty=true) (t2:(t.toList==[])=true) (c:w.cell? ⟨a,0,none⟩=some (.string b)) (h:w.cell? ⟨a,1,none⟩=some (.int .i64 0))
  (d:w.frozen? ⟨a,0,none⟩=false) (i:w.frozen? ⟨a,1,none⟩=false):
  Calls Tryz.prog 262 #[.pointer (some ⟨a,0,none⟩), .string t, .string val, .int .i64 p, .pointer (some ⟨g,0,none⟩)] w fun e w'=>e= .returned (.tuple #[])/\
   w'=(w.setCell ⟨a,0,none⟩ (.string val)).setCell ⟨a,1,none⟩ (.int .i64 p):=by
 go_enter Tryz.func262,Tryz.ntmps262
 go_wp2
 go_returns
 grind
theorem Cl.new_cell(w:World)(cs:Array Value)(t:TypeId)(o n:Nat)(a:n=w.heap.size):(w.alloc (.cells cs t)).cell? ⟨n,o,none⟩=cs[o]? :=by simp_all
theorem Cl.new_frozen(w:World)(cs:Array Value)(t:TypeId)(o n:Nat)(a:n=w.heap.size):(w.alloc (.cells cs t)).frozen? ⟨n,o,none⟩=false:=by simp_all
theorem Cl.lt_of{w:World}{a:Addr}{v:Value}(h:w.cell? a=some v):a.block<w.heap.size:=World.block_lt_of_cell? w a h
structure Cl.Ch (w w':World) (bs:List Nat):Prop where
 os:w'.os=w.os
 tape:w'.tape=w.tape
 output:w'.output=w.output
 size:w.heap.size<=w'.heap.size
 other: ∀b,b<w.heap.size->b ∉ bs->w'.heap[b]? =w.heap[b]?
 frz: ∀a:Addr,a.block<w.heap.size->w'.frozen? a=w.frozen? a
theorem Cl.add_new (g tb m:Nat) (s val:ByteArray) (l:0<s.size) (p:Int) (w:World) (D:m<4) (q:(s.extract 1 s.size).toList.isEmpty=true) (t2:((s.extract 1 s.size).toList==[])=true)
  (x:w.cell? ⟨g,2,none⟩=some (.string ⟨#[]⟩)) (z:w.cell? ⟨g,4,none⟩=some (.slice (some ⟨tb,0,none⟩) 4 4)) (F:w.cell? ⟨g,6+s[0].toNat,none⟩=some (.int .u8 m))
  (b:(⟨tb,m,none⟩:Addr)≠⟨g,4,none⟩) (c:w.cell? ⟨tb,m,none⟩=some (.pointer none)) (y:w.frozen? ⟨tb,m,none⟩=false):
  Calls Tryz.prog 262 #[.pointer (some ⟨g,0,none⟩), .string s, .string val, .int .i64 p, .pointer (some ⟨g,0,none⟩)] w fun e w'=>e= .returned (.tuple #[])/\
   ∃nq k,w'=(((((w.drewN nq).alloc (.cells #[.string ⟨#[]⟩, .int .i64 0, .string ⟨#[]⟩, .pointer none, .slice none 0 0] 268)).setCell ⟨tb,m,none⟩ (.pointer (some ⟨w.heap.size,0,none⟩))).drewN k).setCell ⟨w.heap.size,0,none⟩ (.string val)).setCell ⟨w.heap.size,1,none⟩ (.int .i64 p):=by
 have j:tb<w.heap.size:=Cl.lt_of c;have v:g<w.heap.size:=Cl.lt_of x;have A:=Cl.ne1 l;have r:=Cl.ne2 l;have B:(s[0].toNat:Int)<256:=by have:=s[0].toNat_lt;omega
 go_enter Tryz.func262,Tryz.ntmps262
 go_wp2_with fail
 go_quiet (fail)
 have u:((w.drewN nq).alloc (.cells #[.string ⟨#[]⟩, .int .i64 0, .string ⟨#[]⟩, .pointer none, .slice none 0 0] 268)).cell? ⟨tb,m,none⟩=some (.pointer none):=by rw[World.cell?_alloc_past _ _ _ (show tb<(w.drewN nq).heap.size from j)];exact c
 have G:((w.drewN nq).alloc (.cells #[.string ⟨#[]⟩, .int .i64 0, .string ⟨#[]⟩, .pointer none, .slice none 0 0] 268)).frozen? ⟨tb,m,none⟩=false:=by rw[World.frozen?_alloc_past _ _ _ (show tb<(w.drewN nq).heap.size from j)];exact y
 have a: ∀o,(⟨tb,m,none⟩:Addr)≠⟨w.heap.size,o,none⟩:=fun o h=>by injection h with h;omega
 have C:(((w.drewN nq).alloc (.cells #[.string ⟨#[]⟩, .int .i64 0, .string ⟨#[]⟩, .pointer none, .slice none 0 0] 268)).setCell ⟨tb,m,none⟩ (.pointer (some ⟨w.heap.size,0,none⟩))).cell? ⟨tb,m,none⟩=some (.pointer (some ⟨w.heap.size,0,none⟩)):=World.cell?_setCell_same _ _ _ u;have d:(((w.drewN nq).alloc (.cells #[.string ⟨#[]⟩, .int .i64 0, .string ⟨#[]⟩, .pointer none, .slice none 0 0] 268)).setCell ⟨tb,m,none⟩ (.pointer (some ⟨w.heap.size,0,none⟩))).cell? ⟨w.heap.size,0,none⟩=some (.string ⟨#[]⟩):=by rw[World.cell?_setCell_other _ _ _ _ (a _),Cl.new_cell (w.drewN nq) _ _ _ w.heap.size rfl];rfl
 have f:(((w.drewN nq).alloc (.cells #[.string ⟨#[]⟩, .int .i64 0, .string ⟨#[]⟩, .pointer none, .slice none 0 0] 268)).setCell ⟨tb,m,none⟩ (.pointer (some ⟨w.heap.size,0,none⟩))).cell? ⟨w.heap.size,1,none⟩=some (.int .i64 0):=by rw[World.cell?_setCell_other _ _ _ _ (a _),Cl.new_cell (w.drewN nq) _ _ _ w.heap.size rfl];rfl
 have i:(((w.drewN nq).alloc (.cells #[.string ⟨#[]⟩, .int .i64 0, .string ⟨#[]⟩, .pointer none, .slice none 0 0] 268)).setCell ⟨tb,m,none⟩ (.pointer (some ⟨w.heap.size,0,none⟩))).frozen? ⟨w.heap.size,0,none⟩=false:=by rw[World.frozen?_setCell,Cl.new_frozen (w.drewN nq) _ _ _ w.heap.size rfl]
 have n:(((w.drewN nq).alloc (.cells #[.string ⟨#[]⟩, .int .i64 0, .string ⟨#[]⟩, .pointer none, .slice none 0 0] 268)).setCell ⟨tb,m,none⟩ (.pointer (some ⟨w.heap.size,0,none⟩))).frozen? ⟨w.heap.size,1,none⟩=false:=by rw[World.frozen?_setCell,Cl.new_frozen (w.drewN nq) _ _ _ w.heap.size rfl]
 have E:(((w.drewN nq).alloc (.cells #[.string ⟨#[]⟩, .int .i64 0, .string ⟨#[]⟩, .pointer none, .slice none 0 0] 268)).setCell ⟨tb,m,none⟩ (.pointer (some ⟨w.heap.size,0,none⟩))).cell? ⟨g,4,none⟩=some (.slice (some ⟨tb,0,none⟩) 4 4):=by rw[World.cell?_setCell_other _ _ _ _ b,World.cell?_alloc_past _ _ _ (show g<(w.drewN nq).heap.size from v)];exact z
 have t:=Lib.hid (fun k=>Cl.add_leaf w.heap.size g (s.extract 1 s.size) val ⟨#[]⟩ p ((((w.drewN nq).alloc (.cells #[.string ⟨#[]⟩, .int .i64 0, .string ⟨#[]⟩, .pointer none, .slice none 0 0] 268)).setCell ⟨tb,m,none⟩ (.pointer (some ⟨w.heap.size,0,none⟩))).drewN k) q t2 d f i n);clear d f i n a q t2
 go_wp2_with fail
 go_region_with (go_at_call 262;refine(t.out _).mono ?_;rintro e w' ⟨rfl,rfl⟩)
 all_goals (go_end0;exact⟨rfl,_,_,rfl⟩)
theorem Cl.nil1:(ByteArray.mk #[]).toList.isEmpty=true:=by simp_all
theorem Cl.nil2:((ByteArray.mk #[]).toList==[])=true:=by simp_all
theorem Cl.add_tail (a g:Nat) (t val:ByteArray) (p:Int) (w:World) (s:t.toList.isEmpty=false) (t2:(t.toList==[])=false) (h2:w.cell? ⟨a,2,none⟩=some (.string ⟨#[]⟩)) (i:w.cell? ⟨a,3,none⟩=some (.pointer none)) (q:w.cell? ⟨a,4,none⟩=some (.slice none 0 0))
  (u:w.frozen? ⟨a,2,none⟩=false) (l:w.frozen? ⟨a,3,none⟩=false):
  Calls Tryz.prog 262 #[.pointer (some ⟨a,0,none⟩), .string t, .string val, .int .i64 p, .pointer (some ⟨g,0,none⟩)] w fun e w'=>e= .returned (.tuple #[])/\
   w'=((w.setCell ⟨a,2,none⟩ (.string t)).setCell ⟨a,3,none⟩ (.pointer (some ⟨w.heap.size,0,none⟩))).alloc (.cells #[.string val, .int .i64 p, .string ⟨#[]⟩, .pointer none, .slice none 0 0] 268):=by
 have n:a<w.heap.size:=Cl.lt_of h2;have c:a<(w.setCell ⟨a,2,none⟩ (.string t)).heap.size:=by simpa using n
 have v:((w.setCell ⟨a,2,none⟩ (.string t)).alloc (.cells #[.string ⟨#[]⟩, .int .i64 0, .string ⟨#[]⟩, .pointer none, .slice none 0 0] 268)).cell? ⟨a,3,none⟩=some (.pointer none):=by rw[World.cell?_alloc_past _ _ _ c,World.cell?_setCell_other _ _ _ _ (by simp)];exact i
 have o:((w.setCell ⟨a,2,none⟩ (.string t)).alloc (.cells #[.string ⟨#[]⟩, .int .i64 0, .string ⟨#[]⟩, .pointer none, .slice none 0 0] 268)).frozen? ⟨a,3,none⟩=false:=by rw[World.frozen?_alloc_past _ _ _ c];simpa using l
 have h:(w.setCell ⟨a,2,none⟩ (.string t)).cell? ⟨a,3,none⟩=some (.pointer none):=by rw[World.cell?_setCell_other _ _ _ _ (by simp)];exact i
 have b:w.heap.size=((w.setCell ⟨a,2,none⟩ (.string t)).setCell ⟨a,3,none⟩ (.pointer (some ⟨w.heap.size,0,none⟩))).heap.size:=by simp
 have r:(((w.setCell ⟨a,2,none⟩ (.string t)).setCell ⟨a,3,none⟩ (.pointer (some ⟨w.heap.size,0,none⟩))).alloc (.cells #[.string ⟨#[]⟩, .int .i64 0, .string ⟨#[]⟩, .pointer none, .slice none 0 0] 268)).cell? ⟨a,3,none⟩=some (.pointer (some ⟨w.heap.size,0,none⟩)):=by rw[World.cell?_alloc_past _ _ _ (by grind)];exact World.cell?_setCell_same _ _ _ h
 have j:(((w.setCell ⟨a,2,none⟩ (.string t)).setCell ⟨a,3,none⟩ (.pointer (some ⟨w.heap.size,0,none⟩))).alloc (.cells #[.string ⟨#[]⟩, .int .i64 0, .string ⟨#[]⟩, .pointer none, .slice none 0 0] 268)).cell? ⟨w.heap.size,0,none⟩=some (.string ⟨#[]⟩):=by rw[Cl.new_cell _ _ _ _ _ b];rfl
 have d:(((w.setCell ⟨a,2,none⟩ (.string t)).setCell ⟨a,3,none⟩ (.pointer (some ⟨w.heap.size,0,none⟩))).alloc (.cells #[.string ⟨#[]⟩, .int .i64 0, .string ⟨#[]⟩, .pointer none, .slice none 0 0] 268)).cell? ⟨w.heap.size,1,none⟩=some (.int .i64 0):=by rw[Cl.new_cell _ _ _ _ _ b];rfl
 have f:(((w.setCell ⟨a,2,none⟩ (.string t)).setCell ⟨a,3,none⟩ (.pointer (some ⟨w.heap.size,0,none⟩))).alloc (.cells #[.string ⟨#[]⟩, .int .i64 0, .string ⟨#[]⟩, .pointer none, .slice none 0 0] 268)).frozen? ⟨w.heap.size,0,none⟩=false:=Cl.new_frozen _ _ _ _ _ b;have k:(((w.setCell ⟨a,2,none⟩ (.string t)).setCell ⟨a,3,none⟩ (.pointer (some ⟨w.heap.size,0,none⟩))).alloc (.cells #[.string ⟨#[]⟩, .int .i64 0, .string ⟨#[]⟩, .pointer none, .slice none 0 0] 268)).frozen? ⟨w.heap.size,1,none⟩=false:=Cl.new_frozen _ _ _ _ _ b;have m:=Lib.hid (Cl.add_leaf w.heap.size g ⟨#[]⟩ val ⟨#[]⟩ p _ Cl.nil1 Cl.nil2 j d f k);clear j d f k c h b;go_enter Tryz.func262,Tryz.ntmps262
 go_wp2_with (go_at_call 262;refine m.out.mono ?_;rintro e w' ⟨rfl,rfl⟩)
 go_returns
 exact⟨rfl,rfl⟩
theorem Cl.add_two (g tb m:Nat) (s val:ByteArray) (n:0<s.size) (p:Int) (w:World) (E:m<4) (r:(s.extract 1 s.size).toList.isEmpty=false) (t2:((s.extract 1 s.size).toList==[])=false)
  (y:w.cell? ⟨g,2,none⟩=some (.string ⟨#[]⟩)) (A:w.cell? ⟨g,4,none⟩=some (.slice (some ⟨tb,0,none⟩) 4 4)) (G:w.cell? ⟨g,6+s[0].toNat,none⟩=some (.int .u8 m))
  (b:(⟨tb,m,none⟩:Addr)≠⟨g,4,none⟩) (c:w.cell? ⟨tb,m,none⟩=some (.pointer none)) (z:w.frozen? ⟨tb,m,none⟩=false):
  Calls Tryz.prog 262 #[.pointer (some ⟨g,0,none⟩), .string s, .string val, .int .i64 p, .pointer (some ⟨g,0,none⟩)] w fun e w'=>e= .returned (.tuple #[])/\
   ∃nq k,w'=((((((w.drewN nq).alloc (.cells #[.string ⟨#[]⟩, .int .i64 0, .string ⟨#[]⟩, .pointer none, .slice none 0 0] 268)).setCell ⟨tb,m,none⟩ (.pointer (some ⟨w.heap.size,0,none⟩))).drewN k).setCell ⟨w.heap.size,2,none⟩ (.string (s.extract 1 s.size))).setCell ⟨w.heap.size,3,none⟩ (.pointer (some ⟨w.heap.size+1,0,none⟩))).alloc (.cells #[.string val, .int .i64 p, .string ⟨#[]⟩, .pointer none, .slice none 0 0] 268):=by
 have l:tb<w.heap.size:=Cl.lt_of c;have x:g<w.heap.size:=Cl.lt_of y;have B:=Cl.ne1 n;have t:=Cl.ne2 n;have C:(s[0].toNat:Int)<256:=by have:=s[0].toNat_lt;omega
 go_enter Tryz.func262,Tryz.ntmps262
 go_wp2_with fail
 go_quiet (fail)
 have v:((w.drewN nq).alloc (.cells #[.string ⟨#[]⟩, .int .i64 0, .string ⟨#[]⟩, .pointer none, .slice none 0 0] 268)).cell? ⟨tb,m,none⟩=some (.pointer none):=by rw[World.cell?_alloc_past _ _ _ (show tb<(w.drewN nq).heap.size from l)];exact c
 have H:((w.drewN nq).alloc (.cells #[.string ⟨#[]⟩, .int .i64 0, .string ⟨#[]⟩, .pointer none, .slice none 0 0] 268)).frozen? ⟨tb,m,none⟩=false:=by rw[World.frozen?_alloc_past _ _ _ (show tb<(w.drewN nq).heap.size from l)];exact z
 have a: ∀o,(⟨tb,m,none⟩:Addr)≠⟨w.heap.size,o,none⟩:=fun o h=>by injection h with h;omega
 have D:(((w.drewN nq).alloc (.cells #[.string ⟨#[]⟩, .int .i64 0, .string ⟨#[]⟩, .pointer none, .slice none 0 0] 268)).setCell ⟨tb,m,none⟩ (.pointer (some ⟨w.heap.size,0,none⟩))).cell? ⟨tb,m,none⟩=some (.pointer (some ⟨w.heap.size,0,none⟩)):=World.cell?_setCell_same _ _ _ v;have i:(((w.drewN nq).alloc (.cells #[.string ⟨#[]⟩, .int .i64 0, .string ⟨#[]⟩, .pointer none, .slice none 0 0] 268)).setCell ⟨tb,m,none⟩ (.pointer (some ⟨w.heap.size,0,none⟩))).cell? ⟨w.heap.size,2,none⟩=some (.string ⟨#[]⟩):=by rw[World.cell?_setCell_other _ _ _ _ (a _),Cl.new_cell (w.drewN nq) _ _ _ w.heap.size rfl];rfl
 have f:(((w.drewN nq).alloc (.cells #[.string ⟨#[]⟩, .int .i64 0, .string ⟨#[]⟩, .pointer none, .slice none 0 0] 268)).setCell ⟨tb,m,none⟩ (.pointer (some ⟨w.heap.size,0,none⟩))).cell? ⟨w.heap.size,3,none⟩=some (.pointer none):=by rw[World.cell?_setCell_other _ _ _ _ (a _),Cl.new_cell (w.drewN nq) _ _ _ w.heap.size rfl];rfl
 have d:(((w.drewN nq).alloc (.cells #[.string ⟨#[]⟩, .int .i64 0, .string ⟨#[]⟩, .pointer none, .slice none 0 0] 268)).setCell ⟨tb,m,none⟩ (.pointer (some ⟨w.heap.size,0,none⟩))).cell? ⟨w.heap.size,4,none⟩=some (.slice none 0 0):=by rw[World.cell?_setCell_other _ _ _ _ (a _),Cl.new_cell (w.drewN nq) _ _ _ w.heap.size rfl];rfl
 have j:(((w.drewN nq).alloc (.cells #[.string ⟨#[]⟩, .int .i64 0, .string ⟨#[]⟩, .pointer none, .slice none 0 0] 268)).setCell ⟨tb,m,none⟩ (.pointer (some ⟨w.heap.size,0,none⟩))).frozen? ⟨w.heap.size,2,none⟩=false:=by rw[World.frozen?_setCell,Cl.new_frozen (w.drewN nq) _ _ _ w.heap.size rfl]
 have q:(((w.drewN nq).alloc (.cells #[.string ⟨#[]⟩, .int .i64 0, .string ⟨#[]⟩, .pointer none, .slice none 0 0] 268)).setCell ⟨tb,m,none⟩ (.pointer (some ⟨w.heap.size,0,none⟩))).frozen? ⟨w.heap.size,3,none⟩=false:=by rw[World.frozen?_setCell,Cl.new_frozen (w.drewN nq) _ _ _ w.heap.size rfl]
 have F:(((w.drewN nq).alloc (.cells #[.string ⟨#[]⟩, .int .i64 0, .string ⟨#[]⟩, .pointer none, .slice none 0 0] 268)).setCell ⟨tb,m,none⟩ (.pointer (some ⟨w.heap.size,0,none⟩))).cell? ⟨g,4,none⟩=some (.slice (some ⟨tb,0,none⟩) 4 4):=by rw[World.cell?_setCell_other _ _ _ _ b,World.cell?_alloc_past _ _ _ (show g<(w.drewN nq).heap.size from x)];exact A
 have u:=Lib.hid (fun k=>Cl.add_tail w.heap.size g (s.extract 1 s.size) val p ((((w.drewN nq).alloc (.cells #[.string ⟨#[]⟩, .int .i64 0, .string ⟨#[]⟩, .pointer none, .slice none 0 0] 268)).setCell ⟨tb,m,none⟩ (.pointer (some ⟨w.heap.size,0,none⟩))).drewN k) r t2 i f d j q);clear i f d j q a r t2
 go_wp2_with fail
 go_region_with (go_at_call 262;refine(u.out _).mono ?_;rintro e w' ⟨rfl,rfl⟩)
 all_goals (go_end0;exact⟨rfl,_,_,rfl⟩)
theorem Cl.add_old (g tb a m:Nat) (s val f:ByteArray) (d:0<s.size) (p:Int) (w:World) (o:m<4) (i:(s.extract 1 s.size).toList.isEmpty=true) (t2:((s.extract 1 s.size).toList==[])=true)
  (v:w.cell? ⟨g,2,none⟩=some (.string ⟨#[]⟩)) (t:w.cell? ⟨g,4,none⟩=some (.slice (some ⟨tb,0,none⟩) 4 4)) (q:w.cell? ⟨g,6+s[0].toNat,none⟩=some (.int .u8 m))
  (u:w.cell? ⟨tb,m,none⟩=some (.pointer (some ⟨a,0,none⟩))) (j:w.cell? ⟨a,0,none⟩=some (.string f)) (b:w.cell? ⟨a,1,none⟩=some (.int .i64 0))
  (c:w.frozen? ⟨a,0,none⟩=false) (h:w.frozen? ⟨a,1,none⟩=false):
  Calls Tryz.prog 262 #[.pointer (some ⟨g,0,none⟩), .string s, .string val, .int .i64 p, .pointer (some ⟨g,0,none⟩)] w fun e w'=>e= .returned (.tuple #[])/\
   ∃k,w'=((w.drewN k).setCell ⟨a,0,none⟩ (.string val)).setCell ⟨a,1,none⟩ (.int .i64 p):=by
 have x:=Cl.ne1 d;have l:=Cl.ne2 d;have r:(s[0].toNat:Int)<256:=by have:=s[0].toNat_lt;omega
 have n:=Lib.hid (fun k=>Cl.add_leaf a g (s.extract 1 s.size) val f p (w.drewN k) i t2 j b c h);clear j b c h i t2;go_enter Tryz.func262,Tryz.ntmps262
 go_wp2_with fail
 go_quiet (fail)
 go_wp2_with fail
 go_region_with (go_at_call 262;refine(n.out _).mono ?_;rintro e w' ⟨rfl,rfl⟩)
 all_goals (go_end0;exact⟨rfl,_,rfl⟩)
structure Cl.Old (w:World) (ob:Nat):Prop where
 o0:w.cell? ⟨ob,0,none⟩=some (.string ⟨#[13,10]⟩)
 o1:w.cell? ⟨ob,1,none⟩=some (.string ⟨#[10]⟩)
 o2:w.cell? ⟨ob,2,none⟩=some (.string ⟨#[13]⟩)
 o3:w.cell? ⟨ob,3,none⟩=some (.string ⟨#[10]⟩)
 o4:w.cell? ⟨ob,4,none⟩=some (.string ⟨#[12]⟩)
 o5:w.cell? ⟨ob,5,none⟩=some (.string ⟨#[10]⟩)
 o6:w.cell? ⟨ob,6,none⟩=some (.string ⟨#[0]⟩)
 o7:w.cell? ⟨ob,7,none⟩=some (.string ⟨#[239,191,189]⟩)
def Cl.mk(k:Nat):Int:=if k=13\/k=10\/k=12\/k=0 then 1 else 0
def Cl.cnt:Nat->Int
 |0=>0
 |k+1=>Cl.cnt k+Cl.mk k
noncomputable def Cl.marks:Array Value:=((List.range 256).map fun k=>Value.int .u8 (Cl.mk k)).toArray
noncomputable def Cl.C1:Array Value:=((((Tryz.zeroCells270.setIfInBounds 19 (.int .u8 1)).setIfInBounds 16 (.int .u8 1)).setIfInBounds 19 (.int .u8 1)).setIfInBounds 18 (.int .u8 1)).setIfInBounds 6 (.int .u8 1)
theorem Cl.c1_size:Cl.C1.size=262:=by kernel_rfl
theorem Cl.c1_tail:(Cl.C1.toList.drop 6)=Cl.marks.toList:=by kernel_rfl
theorem Cl.c1_mark{k:Nat}(h:k<256):Cl.C1[6+k]? =some (.int .u8 (Cl.mk k)):=by
 have a:(Cl.C1.toList.drop 6)[k]? =Cl.marks.toList[k]? :=by rw[Cl.c1_tail]
 rw[Tc]at a;rw[<-Wd,a];simp[Cl.marks,h]
theorem Cl.inf222:(Tryz.prog.info? 243).map (·.size)=some Cl.marks.toList.length:=by kernel_rfl
theorem Cl.und222:Tryz.prog.underlying 243=some (.array 256 5):=by kernel_rfl
theorem Cl.range1{w W:World}(C:Array Value)(hC:C=Cl.C1)(hW: ∀o,W.cell? ⟨w.heap.size,o,none⟩=C[o]?):W.rangeAt w.heap.size 6 Cl.marks.toList:=fun j v hv=>by
 rw[hW,hC];have hj:j<256:=by have:=(Ma.1 hv).1;simpa [Cl.marks] using this
 rw[Cl.c1_mark hj,<-hv];simp[Cl.marks,hj]
theorem Cl.index_run{k:Nat}(b:k<256){v:Value}(c:Cl.marks[k]? =some v)(W:World):(Instr.index 243 (.agg Cl.marks) (.int .i64 k)).run Tryz.prog W= .ok v W:=by
 have a:(0:Int)<=k/\(k:Int)<(256:Nat):=by omega
 simp[Instr.index,run_underlying Cl.und222,asIntOf,a,go_sem];simp[b,c]
theorem Cl.und243:Tryz.prog.underlying 266=some (.slice 265):=by kernel_rfl
theorem Cl.inf242: ∃i,Tryz.prog.info? 265=some i/\i.zero=some (.pointer none)/\i.size=1/\i.bytes=8:=⟨(Tryz.prog.info? 265).getD default,by kernel_rfl,by kernel_rfl,by kernel_rfl,by kernel_rfl⟩
theorem Cl.mk4(W:World):(Instr.makeSlice 266 (.int .i64 4) (.int .i64 4)).run Tryz.prog W= .ok (.slice (some ⟨W.heap.size,0,none⟩) 4 4) (W.alloc (.cells #[.pointer none, .pointer none, .pointer none, .pointer none] 265)):=by
 obtain⟨i,hi,hz,hs,hb⟩:=Cl.inf242;have:=run_makeSlice (P:=Tryz.prog) (w:=W) 266 265 i _ Cl.und243 hi hz .i64 .i64 4 4 (by omega) (by omega) (by rw[hs];decide) (by rw[hb];decide) (by decide);rw[hs]at this;rw[this];have hm:madeCells (Value.pointer none).cells (Int.toNat 4*1)= #[.pointer none, .pointer none, .pointer none, .pointer none]:=by apply Array.ext';simp[madeCells,Value.cells,List.range,List.range.loop,Nat.mod_one]
 rw[hm];rfl
structure Cl.Fr (w w':World) (L:List (Nat×Nat)):Prop where
 os:w'.os=w.os
 tape:w'.tape=w.tape
 output:w'.output=w.output
 size:w.heap.size<=w'.heap.size
 blk: ∀b,b<w.heap.size->(∀o,(b,o) ∉ L)->w'.heap[b]? =w.heap[b]?
 cell: ∀b o,b<w.heap.size->(b,o) ∉ L->w'.cell? ⟨b,o,none⟩=w.cell? ⟨b,o,none⟩
 frz: ∀b o,b<w.heap.size->w'.frozen? ⟨b,o,none⟩=w.frozen? ⟨b,o,none⟩
theorem Cl.Fr.trans{w f e:World}{L M:List (Nat×Nat)}(h:Cl.Fr w f L)(g:Cl.Fr f e M):Cl.Fr w e (L++M)where
 os:=g.os.trans h.os
 tape:=g.tape.trans h.tape
 output:=g.output.trans h.output
 size:=Ub h.size g.size
 blk:=fun b a d=>(g.blk b (Cc a h.size) fun o c=>d o (List.mem_append_right _ c)).trans (h.blk b a fun o c=>d o (Ie _ c))
 cell:=fun b o a d=>(g.cell b o (Cc a h.size) fun c=>d (List.mem_append_right _ c)).trans (h.cell b o a fun c=>d (Ie _ c))
 frz:=fun b o a=>(g.frz b o (Cc a h.size)).trans (h.frz b o a)
theorem Cl.Fr.wk{w w':World}{L M:List (Nat×Nat)}(h:Cl.Fr w w' L)(e: ∀b o,(b,o)∈L->b<w.heap.size->(b,o)∈M):Cl.Fr w w' M where
 os:=h.os
 tape:=h.tape
 output:=h.output
 size:=h.size
 blk:=fun b a d=>h.blk b a fun o c=>d o (e b o c a)
 cell:=fun b o a d=>h.cell b o a fun c=>d (e b o c a)
 frz:=h.frz
theorem Cl.Fr.drewN(w:World)(n:Nat):Cl.Fr w (w.drewN n) []:=⟨rfl,rfl,rfl,Ua _,fun _ _ _=>rfl,fun _ _ _ _=>rfl,fun _ _ _=>rfl⟩
theorem Cl.Fr.set(w:World)(b o:Nat)(v:Value):Cl.Fr w (w.setCell ⟨b,o,none⟩ v) [(b,o)]where
 os:=rfl
 tape:=rfl
 output:=rfl
 size:=by simp
 blk:=fun x _ hn=>by have:b≠x:=fun e=>hn o (by simp[e]);simp[World.setCell,Array.getElem?_modify,this]
 cell:=fun x y _ hn=>World.cell?_setCell_other _ _ _ _ (fun e=>by grind)
 frz:=fun x y _=>World.frozen?_setCell ..
theorem Cl.Fr.alloc(w:World)(o:Obj):Cl.Fr w (w.alloc o) []where
 os:=rfl
 tape:=rfl
 output:=rfl
 size:=by simp_all
 blk:=fun x a _=>by rw[heap_alloc_old w o a]
 cell:=fun x y a _=>World.cell?_alloc_past _ _ _ a
 frz:=fun x y a=>World.frozen?_alloc_past _ _ _ a
structure Cl.Node (w:World) (b:Nat) (v:ByteArray) (p:Int) (s:ByteArray) (x:Value):Prop where
 c0:w.cell? ⟨b,0,none⟩=some (.string v)
 c1:w.cell? ⟨b,1,none⟩=some (.int .i64 p)
 c2:w.cell? ⟨b,2,none⟩=some (.string s)
 c3:w.cell? ⟨b,3,none⟩=some x
 c4:w.cell? ⟨b,4,none⟩=some (.slice none 0 0)
 f0:w.frozen? ⟨b,0,none⟩=false
 f1:w.frozen? ⟨b,1,none⟩=false
theorem Cl.Node.keep{w w':World}{b:Nat}{v s:ByteArray}{p:Int}{x:Value}{L:List (Nat×Nat)}(h:Cl.Node w b v p s x)(f:Cl.Fr w w' L)(c: ∀o,(b,o) ∉ L):Cl.Node w' b v p s x:=by have a:b<w.heap.size:=Cl.lt_of h.c0;exact⟨(f.cell _ _ a (c _)).trans h.c0,(f.cell _ _ a (c _)).trans h.c1,(f.cell _ _ a (c _)).trans h.c2,(f.cell _ _ a (c _)).trans h.c3,(f.cell _ _ a (c _)).trans h.c4,(f.frz _ _ a).trans h.f0,(f.frz _ _ a).trans h.f1⟩
theorem Cl.Node.new(w:World)(v s:ByteArray)(p:Int)(x:Value)(n:Nat)(a:n=w.heap.size):Cl.Node (w.alloc (.cells #[.string v, .int .i64 p, .string s,x, .slice none 0 0] 268)) n v p s x:=by
 refine⟨?_,?_,?_,?_,?_,?_,?_⟩
 all_goals simp_all
theorem Cl.Node.set0{w:World}{b:Nat}{v s:ByteArray}{p:Int}{x:Value}(h:Cl.Node w b v p s x)(u:ByteArray):Cl.Node (w.setCell ⟨b,0,none⟩ (.string u)) b u p s x:=by have a: ∀o,o≠0->(w.setCell ⟨b,0,none⟩ (.string u)).cell? ⟨b,o,none⟩=w.cell? ⟨b,o,none⟩:=fun o a=>World.cell?_setCell_other _ _ _ _ (fun e=>by grind);exact⟨World.cell?_setCell_same _ _ _ h.c0,(a 1 (by omega)).trans h.c1,(a 2 (by omega)).trans h.c2,(a 3 (by omega)).trans h.c3,(a 4 (by omega)).trans h.c4,(World.frozen?_setCell ..).trans h.f0,(World.frozen?_setCell ..).trans h.f1⟩
theorem Cl.Node.set1{w:World}{b:Nat}{v s:ByteArray}{p:Int}{x:Value}(h:Cl.Node w b v p s x)(q:Int):Cl.Node (w.setCell ⟨b,1,none⟩ (.int .i64 q)) b v q s x:=by have a: ∀o,o≠1->(w.setCell ⟨b,1,none⟩ (.int .i64 q)).cell? ⟨b,o,none⟩=w.cell? ⟨b,o,none⟩:=fun o a=>World.cell?_setCell_other _ _ _ _ (fun e=>by grind);exact⟨(a 0 (by omega)).trans h.c0,World.cell?_setCell_same _ _ _ h.c1,(a 2 (by omega)).trans h.c2,(a 3 (by omega)).trans h.c3,(a 4 (by omega)).trans h.c4,(World.frozen?_setCell ..).trans h.f0,(World.frozen?_setCell ..).trans h.f1⟩
theorem Cl.Node.set2{w:World}{b:Nat}{v s:ByteArray}{p:Int}{x:Value}(h:Cl.Node w b v p s x)(u:ByteArray):Cl.Node (w.setCell ⟨b,2,none⟩ (.string u)) b v p u x:=by have a: ∀o,o≠2->(w.setCell ⟨b,2,none⟩ (.string u)).cell? ⟨b,o,none⟩=w.cell? ⟨b,o,none⟩:=fun o a=>World.cell?_setCell_other _ _ _ _ (fun e=>by grind);exact⟨(a 0 (by omega)).trans h.c0,(a 1 (by omega)).trans h.c1,World.cell?_setCell_same _ _ _ h.c2,(a 3 (by omega)).trans h.c3,(a 4 (by omega)).trans h.c4,(World.frozen?_setCell ..).trans h.f0,(World.frozen?_setCell ..).trans h.f1⟩
theorem Cl.Node.set3{w:World}{b:Nat}{v s:ByteArray}{p:Int}{x:Value}(h:Cl.Node w b v p s x)(y:Value):Cl.Node (w.setCell ⟨b,3,none⟩ y) b v p s y:=by have a: ∀o,o≠3->(w.setCell ⟨b,3,none⟩ y).cell? ⟨b,o,none⟩=w.cell? ⟨b,o,none⟩:=fun o a=>World.cell?_setCell_other _ _ _ _ (fun e=>by grind);exact⟨(a 0 (by omega)).trans h.c0,(a 1 (by omega)).trans h.c1,(a 2 (by omega)).trans h.c2,World.cell?_setCell_same _ _ _ h.c3,(a 4 (by omega)).trans h.c4,(World.frozen?_setCell ..).trans h.f0,(World.frozen?_setCell ..).trans h.f1⟩
theorem Cl.fr_new(w:World)(tb m:Nat)(v:ByteArray)(p:Int)(f:w.cell? ⟨tb,m,none⟩=some (.pointer none))(nq k:Nat):
  let w':=(((((w.drewN nq).alloc (.cells #[.string ⟨#[]⟩, .int .i64 0, .string ⟨#[]⟩, .pointer none, .slice none 0 0] 268)).setCell ⟨tb,m,none⟩ (.pointer (some ⟨w.heap.size,0,none⟩))).drewN k).setCell ⟨w.heap.size,0,none⟩ (.string v)).setCell ⟨w.heap.size,1,none⟩ (.int .i64 p)
  Cl.Fr w w' [(tb,m)]/\w'.cell? ⟨tb,m,none⟩=some (.pointer (some ⟨w.heap.size,0,none⟩))/\Cl.Node w' w.heap.size v p ⟨#[]⟩ (.pointer none):=by
 intro w';have q:tb<w.heap.size:=Cl.lt_of f;have a: ∀o,(w.heap.size,o) ∉ [(tb,m)]:=fun o h=>by simp at h;omega
 have g:=(Cl.Fr.drewN w nq).trans (Cl.Fr.alloc _ (.cells #[.string ⟨#[]⟩, .int .i64 0, .string ⟨#[]⟩, .pointer none, .slice none 0 0] 268));have b:=Cl.Node.new (w.drewN nq) ⟨#[]⟩ ⟨#[]⟩ 0 (.pointer none) w.heap.size rfl;have r:=(g.cell tb m q (by simp)).trans f;have d:=Cl.Fr.set ((w.drewN nq).alloc (.cells #[.string ⟨#[]⟩, .int .i64 0, .string ⟨#[]⟩, .pointer none, .slice none 0 0] 268)) tb m (.pointer (some ⟨w.heap.size,0,none⟩));have t:=b.keep d a;have j:=World.cell?_setCell_same _ _ (.pointer (some ⟨w.heap.size,0,none⟩)) r;have c:=d.trans (Cl.Fr.drewN _ k);have s:=b.keep c (by simpa using a);have l:=s.set0 v;have i:=l.set1 p;have n:=(c.trans (Cl.Fr.set _ w.heap.size 0 (.string v))).trans (Cl.Fr.set _ w.heap.size 1 (.int .i64 p));refine⟨(g.trans n).wk ?_,?_,i⟩
 ·grind
 ·have e: ∀o,(⟨w.heap.size,o,none⟩:Addr)≠⟨tb,m,none⟩:=fun o h=>by grind
  show(World.setCell _ _ _).cell? _=_;rw[World.cell?_setCell_other _ _ _ _ (e _),World.cell?_setCell_other _ _ _ _ (e _)];exact j
theorem Cl.fr_two(w:World)(tb m:Nat)(v s:ByteArray)(p:Int)(f:w.cell? ⟨tb,m,none⟩=some (.pointer none))(nq k:Nat):
  let w':=((((((w.drewN nq).alloc (.cells #[.string ⟨#[]⟩, .int .i64 0, .string ⟨#[]⟩, .pointer none, .slice none 0 0] 268)).setCell ⟨tb,m,none⟩ (.pointer (some ⟨w.heap.size,0,none⟩))).drewN k).setCell ⟨w.heap.size,2,none⟩ (.string s)).setCell ⟨w.heap.size,3,none⟩ (.pointer (some ⟨w.heap.size+1,0,none⟩))).alloc (.cells #[.string v, .int .i64 p, .string ⟨#[]⟩, .pointer none, .slice none 0 0] 268)
  Cl.Fr w w' [(tb,m)]/\w'.cell? ⟨tb,m,none⟩=some (.pointer (some ⟨w.heap.size,0,none⟩))/\Cl.Node w' w.heap.size ⟨#[]⟩ 0 s (.pointer (some ⟨w.heap.size+1,0,none⟩))/\Cl.Node w' (w.heap.size+1) v p ⟨#[]⟩ (.pointer none):=by
 intro w';have t:tb<w.heap.size:=Cl.lt_of f;have b: ∀o,(w.heap.size,o) ∉ [(tb,m)]:=fun o h=>by simp at h;omega
 have c:=(Cl.Fr.drewN w nq).trans (Cl.Fr.alloc _ (.cells #[.string ⟨#[]⟩, .int .i64 0, .string ⟨#[]⟩, .pointer none, .slice none 0 0] 268));have i:=Cl.Node.new (w.drewN nq) ⟨#[]⟩ ⟨#[]⟩ 0 (.pointer none) w.heap.size rfl;have u:=(c.cell tb m t (by simp)).trans f;have q:=Cl.Fr.set ((w.drewN nq).alloc (.cells #[.string ⟨#[]⟩, .int .i64 0, .string ⟨#[]⟩, .pointer none, .slice none 0 0] 268)) tb m (.pointer (some ⟨w.heap.size,0,none⟩));have l:=World.cell?_setCell_same _ _ (.pointer (some ⟨w.heap.size,0,none⟩)) u;have d:=q.trans (Cl.Fr.drewN _ k);have x:=i.keep d (by simpa using b);have r:=x.set2 s;have j:=r.set3 (.pointer (some ⟨w.heap.size+1,0,none⟩));have g:=(d.trans (Cl.Fr.set _ w.heap.size 2 (.string s))).trans (Cl.Fr.set _ w.heap.size 3 (.pointer (some ⟨w.heap.size+1,0,none⟩)));have a:=Cl.Fr.alloc (((((((w.drewN nq).alloc (.cells #[.string ⟨#[]⟩, .int .i64 0, .string ⟨#[]⟩, .pointer none, .slice none 0 0] 268)).setCell ⟨tb,m,none⟩ (.pointer (some ⟨w.heap.size,0,none⟩))).drewN k).setCell ⟨w.heap.size,2,none⟩ (.string s)).setCell ⟨w.heap.size,3,none⟩ (.pointer (some ⟨w.heap.size+1,0,none⟩)))) (.cells #[.string v, .int .i64 p, .string ⟨#[]⟩, .pointer none, .slice none 0 0] 268);have n:w'.cell? ⟨tb,m,none⟩=some (.pointer (some ⟨w.heap.size,0,none⟩)):=by
  have e: ∀o,(⟨w.heap.size,o,none⟩:Addr)≠⟨tb,m,none⟩:=fun o h=>by grind
  refine(a.cell tb m ?_ (by simp)).trans ?_
  ·have:=(c.trans g).size;omega
  ·rw[World.cell?_setCell_other _ _ _ _ (e _),World.cell?_setCell_other _ _ _ _ (e _)];exact l
 refine⟨((c.trans g).trans a).wk ?_,n,j.keep a (by simp),Cl.Node.new _ _ _ _ _ _ ?_⟩
 ·grind
 ·simp_all
structure Cl.Base (w:World) (g tb ob:Nat):Prop where
 l1:ob<g
 l2:g<tb
 p1:w.cell? ⟨g,1,none⟩=some (.int .i64 0)
 p2:w.cell? ⟨g,2,none⟩=some (.string ⟨#[]⟩)
 p4:w.cell? ⟨g,4,none⟩=some (.slice (some ⟨tb,0,none⟩) 4 4)
 p5:w.cell? ⟨g,5,none⟩=some (.int .i64 4)
 pm: ∀k:Nat,k<256->w.cell? ⟨g,6+k,none⟩=some (.int .u8 (Cl.mp k))
 ft: ∀m,m<4->w.frozen? ⟨tb,m,none⟩=false
 lt:tb<w.heap.size
 old:Cl.Old w ob
theorem Cl.Base.keep{w w':World}{g tb e:Nat}{L:List (Nat×Nat)}(h:Cl.Base w g tb e)(f:Cl.Fr w w' L)(p: ∀b o,(b,o)∈L->tb<=b):Cl.Base w' g tb e:=by
 have l:=h.l1;have j:=h.l2;have i:=h.lt;have c:=fun o=>f.cell g o (by omega) fun d=>by grind
 have a:=fun o=>f.cell e o (by omega) fun d=>by grind
 have O:=h.old;exact⟨l,j,(c _).trans h.p1,(c _).trans h.p2,(c _).trans h.p4,(c _).trans h.p5,fun k n=>(c _).trans (h.pm k n),fun m d=>(f.frz _ _ i).trans (h.ft m d),Cc i f.size,
  ⟨(a _).trans O.o0,(a _).trans O.o1,(a _).trans O.o2,(a _).trans O.o3,(a _).trans O.o4,(a _).trans O.o5,(a _).trans O.o6,(a _).trans O.o7⟩⟩
theorem Cl.addA{w:World}{g tb d:Nat}(h:Cl.Base w g tb d)(a:w.cell? ⟨tb,3,none⟩=some (.pointer none))(k:Nat):
  Calls Tryz.prog 262 #[.pointer (some ⟨g,0,none⟩), .string ⟨#[13,10]⟩, .string ⟨#[10]⟩, .int .i64 8, .pointer (some ⟨g,0,none⟩)] (w.drewN k) fun e w'=>e= .returned (.tuple #[])/\
   Cl.Fr w w' [(tb,3)]/\w'.cell? ⟨tb,3,none⟩=some (.pointer (some ⟨w.heap.size,0,none⟩))/\Cl.Node w' w.heap.size ⟨#[]⟩ 0 ⟨#[10]⟩ (.pointer (some ⟨w.heap.size+1,0,none⟩))/\Cl.Node w' (w.heap.size+1) ⟨#[10]⟩ 8 ⟨#[]⟩ (.pointer none):=by
 have n:=h.l2;refine(Cl.add_two g tb 3 ⟨#[13,10]⟩ ⟨#[10]⟩ (by decide) 8 (w.drewN k) (by omega) (by decide+kernel) (by decide+kernel) h.p2 h.p4 (h.pm 13 (by omega)) (fun e=>by grind) a (h.ft 3 (by omega))).mono ?_;rintro e w' ⟨rfl,b,l,rfl⟩;have j:((⟨#[13,10]⟩:ByteArray).extract 1 (⟨#[13,10]⟩:ByteArray).size)=⟨#[10]⟩:=by decide+kernel
 rw[j];obtain⟨f,c,i,m⟩:=Cl.fr_two (w.drewN k) tb 3 ⟨#[10]⟩ ⟨#[10]⟩ 8 a b l;exact⟨rfl,(Cl.Fr.drewN w k).trans f,c,i,m⟩
theorem Cl.addB{w:World}{g tb f b d:Nat}(h:Cl.Base w g tb f)(i:w.cell? ⟨tb,3,none⟩=some (.pointer (some ⟨b,0,none⟩)))(a:Cl.Node w b ⟨#[]⟩ 0 ⟨#[10]⟩ (.pointer (some ⟨d,0,none⟩)))(k:Nat):
  Calls Tryz.prog 262 #[.pointer (some ⟨g,0,none⟩), .string ⟨#[13]⟩, .string ⟨#[10]⟩, .int .i64 6, .pointer (some ⟨g,0,none⟩)] (w.drewN k) fun e w'=>e= .returned (.tuple #[])/\
   Cl.Fr w w' [(b,0),(b,1)]/\Cl.Node w' b ⟨#[10]⟩ 6 ⟨#[10]⟩ (.pointer (some ⟨d,0,none⟩)):=by
 refine(Cl.add_old g tb b 3 ⟨#[13]⟩ ⟨#[10]⟩ ⟨#[]⟩ (by decide) 6 (w.drewN k) (by omega) (by decide+kernel) (by decide+kernel) h.p2 h.p4 (h.pm 13 (by omega)) i a.c0 a.c1 a.f0 a.f1).mono ?_;rintro e w' ⟨rfl,c,rfl⟩;refine⟨rfl,((Cl.Fr.drewN w k).trans (Cl.Fr.drewN _ c)).trans ((Cl.Fr.set _ b 0 _).trans (Cl.Fr.set _ b 1 _)),?_⟩;exact(Cl.Node.set0 (w:=(w.drewN k).drewN c) ⟨a.c0,a.c1,a.c2,a.c3,a.c4,a.f0,a.f1⟩ _).set1 _
theorem Cl.addC{w:World}{g tb d:Nat}(h:Cl.Base w g tb d)(a:w.cell? ⟨tb,2,none⟩=some (.pointer none))(k:Nat):
  Calls Tryz.prog 262 #[.pointer (some ⟨g,0,none⟩), .string ⟨#[12]⟩, .string ⟨#[10]⟩, .int .i64 4, .pointer (some ⟨g,0,none⟩)] (w.drewN k) fun e w'=>e= .returned (.tuple #[])/\
   Cl.Fr w w' [(tb,2)]/\w'.cell? ⟨tb,2,none⟩=some (.pointer (some ⟨w.heap.size,0,none⟩))/\Cl.Node w' w.heap.size ⟨#[10]⟩ 4 ⟨#[]⟩ (.pointer none):=by
 have l:=h.l2;refine(Cl.add_new g tb 2 ⟨#[12]⟩ ⟨#[10]⟩ (by decide) 4 (w.drewN k) (by omega) (by decide+kernel) (by decide+kernel) h.p2 h.p4 (h.pm 12 (by omega)) (fun e=>by grind) a (h.ft 2 (by omega))).mono ?_;rintro e w' ⟨rfl,b,j,rfl⟩;obtain⟨f,c,i⟩:=Cl.fr_new (w.drewN k) tb 2 ⟨#[10]⟩ 4 a b j;exact⟨rfl,(Cl.Fr.drewN w k).trans f,c,i⟩
theorem Cl.addD{w:World}{g tb d:Nat}(h:Cl.Base w g tb d)(a:w.cell? ⟨tb,0,none⟩=some (.pointer none))(k:Nat):
  Calls Tryz.prog 262 #[.pointer (some ⟨g,0,none⟩), .string ⟨#[0]⟩, .string ⟨#[239,191,189]⟩, .int .i64 2, .pointer (some ⟨g,0,none⟩)] (w.drewN k) fun e w'=>e= .returned (.tuple #[])/\
   Cl.Fr w w' [(tb,0)]/\w'.cell? ⟨tb,0,none⟩=some (.pointer (some ⟨w.heap.size,0,none⟩))/\Cl.Node w' w.heap.size ⟨#[239,191,189]⟩ 2 ⟨#[]⟩ (.pointer none):=by
 have l:=h.l2;refine(Cl.add_new g tb 0 ⟨#[0]⟩ ⟨#[239,191,189]⟩ (by decide) 2 (w.drewN k) (by omega) (by decide+kernel) (by decide+kernel) h.p2 h.p4 (h.pm 0 (by omega)) (fun e=>by grind) a (h.ft 0 (by omega))).mono ?_;rintro e w' ⟨rfl,b,j,rfl⟩;obtain⟨f,c,i⟩:=Cl.fr_new (w.drewN k) tb 0 ⟨#[239,191,189]⟩ 2 a b j;exact⟨rfl,(Cl.Fr.drewN w k).trans f,c,i⟩
theorem Cl.Fr.none{w w':World}{L:List (Nat×Nat)}(h:Cl.Fr w w' L){v:World}(f:Cl.Fr v w [])(c: ∀b o,(b,o)∈L->v.heap.size<=b):Cl.Fr v w' []:=
 (f.trans h).wk fun b o a d=>by grind
def Cl.St(w:World)(g tb e:Nat):Nat->World->Prop
 |0,W=>Cl.Base W g tb e/\Cl.Fr w W []/\w.heap.size<=tb/\W.cell? ⟨tb,0,none⟩=some (.pointer none)/\W.cell? ⟨tb,1,none⟩=some (.pointer none)/\W.cell? ⟨tb,2,none⟩=some (.pointer none)/\W.cell? ⟨tb,3,none⟩=some (.pointer none)
 |1,W=>Cl.Base W g tb e/\Cl.Fr w W []/\w.heap.size<=tb/\W.cell? ⟨tb,0,none⟩=some (.pointer none)/\W.cell? ⟨tb,1,none⟩=some (.pointer none)/\W.cell? ⟨tb,2,none⟩=some (.pointer none)/\
   ∃c d,tb<c/\tb<d/\c≠d/\W.cell? ⟨tb,3,none⟩=some (.pointer (some ⟨c,0,none⟩))/\Cl.Node W c ⟨#[]⟩ 0 ⟨#[10]⟩ (.pointer (some ⟨d,0,none⟩))/\Cl.Node W d ⟨#[10]⟩ 8 ⟨#[]⟩ (.pointer none)
 |2,W=>Cl.Base W g tb e/\Cl.Fr w W []/\w.heap.size<=tb/\W.cell? ⟨tb,0,none⟩=some (.pointer none)/\W.cell? ⟨tb,1,none⟩=some (.pointer none)/\W.cell? ⟨tb,2,none⟩=some (.pointer none)/\
   ∃c d,tb<c/\tb<d/\W.cell? ⟨tb,3,none⟩=some (.pointer (some ⟨c,0,none⟩))/\Cl.Node W c ⟨#[10]⟩ 6 ⟨#[10]⟩ (.pointer (some ⟨d,0,none⟩))/\Cl.Node W d ⟨#[10]⟩ 8 ⟨#[]⟩ (.pointer none)
 |3,W=>Cl.Base W g tb e/\Cl.Fr w W []/\w.heap.size<=tb/\W.cell? ⟨tb,0,none⟩=some (.pointer none)/\W.cell? ⟨tb,1,none⟩=some (.pointer none)/\
   ∃b c d,tb<b/\tb<c/\tb<d/\W.cell? ⟨tb,2,none⟩=some (.pointer (some ⟨b,0,none⟩))/\Cl.Node W b ⟨#[10]⟩ 4 ⟨#[]⟩ (.pointer none)/\
    W.cell? ⟨tb,3,none⟩=some (.pointer (some ⟨c,0,none⟩))/\Cl.Node W c ⟨#[10]⟩ 6 ⟨#[10]⟩ (.pointer (some ⟨d,0,none⟩))/\Cl.Node W d ⟨#[10]⟩ 8 ⟨#[]⟩ (.pointer none)
 |4,W=>Cl.Old W e/\Cl.Fr w W []/\ ∃a b c d,Cl.TW W g tb a b c d
 |_,_=>False
theorem Cl.st0{w W:World}{g tb b:Nat}(h:Cl.St w g tb b 0 W)(k:Nat):
  Calls Tryz.prog 262 #[.pointer (some ⟨g,0,none⟩), .string ⟨#[13,10]⟩, .string ⟨#[10]⟩, .int .i64 8, .pointer (some ⟨g,0,none⟩)] (W.drewN k) fun e w'=>e= .returned (.tuple #[])/\Cl.St w g tb b 1 w':=by
 obtain⟨a,p,m,q,i,n,f⟩:=h;refine(Cl.addA a f k).mono ?_;rintro e w' ⟨rfl,F,j,l,r⟩;have c:=a.lt;have e: ∀o,o≠3->w'.cell? ⟨tb,o,none⟩=W.cell? ⟨tb,o,none⟩:=fun o d=>F.cell tb o c (by simp[d]);exact⟨rfl,a.keep F (by simp),F.none p (by simp;omega),m,(e 0 (by omega)).trans q,(e 1 (by omega)).trans i,(e 2 (by omega)).trans n,_,_,c,by omega,by omega,j,l,r⟩
theorem Cl.st1{w W:World}{g tb i:Nat}(h:Cl.St w g tb i 1 W)(k:Nat):
  Calls Tryz.prog 262 #[.pointer (some ⟨g,0,none⟩), .string ⟨#[13]⟩, .string ⟨#[10]⟩, .int .i64 6, .pointer (some ⟨g,0,none⟩)] (W.drewN k) fun e w'=>e= .returned (.tuple #[])/\Cl.St w g tb i 2 w':=by
 obtain⟨a,s,n,t,l,p,c,d,v,x,z,f,m,u⟩:=h;refine(Cl.addB a f m k).mono ?_;rintro e w' ⟨rfl,F,r⟩;have q:=a.lt;have e: ∀o,w'.cell? ⟨tb,o,none⟩=W.cell? ⟨tb,o,none⟩:=fun o=>F.cell tb o q (by simp;omega);have y: ∀b o,(b,o)∈[(c,0),(c,1)]->tb<b:=by simp;omega
 exact⟨rfl,a.keep F fun b o j=>by grind,F.none s fun b o j=>by grind,n,(e 0).trans t,(e 1).trans l,(e 2).trans p,c,d,v,x,(e 3).trans f,r,u.keep F (by simp;omega)⟩
theorem Cl.st2{w W:World}{g tb b:Nat}(h:Cl.St w g tb b 2 W)(k:Nat):
  Calls Tryz.prog 262 #[.pointer (some ⟨g,0,none⟩), .string ⟨#[12]⟩, .string ⟨#[10]⟩, .int .i64 4, .pointer (some ⟨g,0,none⟩)] (W.drewN k) fun e w'=>e= .returned (.tuple #[])/\Cl.St w g tb b 3 w':=by
 obtain⟨a,r,n,t,l,p,c,d,v,x,j,m,u⟩:=h;refine(Cl.addC a p k).mono ?_;rintro e w' ⟨rfl,F,s,q⟩;have f:=a.lt;have e: ∀o,o≠2->w'.cell? ⟨tb,o,none⟩=W.cell? ⟨tb,o,none⟩:=fun o i=>F.cell tb o f (by simp[i]);exact⟨rfl,a.keep F (by simp),F.none r (by simp;omega),n,(e 0 (by omega)).trans t,(e 1 (by omega)).trans l,_,c,d,f,v,x,s,q,(e 3 (by omega)).trans j,m.keep F (by simp;omega),u.keep F (by simp;omega)⟩
theorem Cl.st3{w W:World}{g tb m:Nat}(h:Cl.St w g tb m 3 W)(k:Nat):
  Calls Tryz.prog 262 #[.pointer (some ⟨g,0,none⟩), .string ⟨#[0]⟩, .string ⟨#[239,191,189]⟩, .int .i64 2, .pointer (some ⟨g,0,none⟩)] (W.drewN k) fun e w'=>e= .returned (.tuple #[])/\Cl.St w g tb m 4 w':=by
 obtain⟨l,n,E,v,t,b,c,d,C,D,A,q,x,s,p,u⟩:=h;refine(Cl.addD l v k).mono ?_;rintro e w' ⟨rfl,F,y,f⟩;have r:=l.lt;have e: ∀o,o≠0->w'.cell? ⟨tb,o,none⟩=W.cell? ⟨tb,o,none⟩:=fun o z=>F.cell tb o r (by simp[z]);have B:=l.keep F (by simp);have i:=x.keep F (by simp;omega);have a:=p.keep F (by simp;omega);have j:=u.keep F (by simp;omega);exact⟨rfl,B.old,F.none n (by simp;omega),_,b,c,d,⟨B.p1,B.p4,B.p5,B.pm,y,(e 1 (by omega)).trans t,(e 2 (by omega)).trans q,(e 3 (by omega)).trans s,f.c0,f.c1,f.c2,f.c4,i.c0,i.c1,i.c2,i.c4,a.c0,a.c1,a.c2,a.c3,a.c4,j.c0,j.c1,j.c2,j.c4⟩⟩
theorem Cl.St.gr{w W:World}{g tb c:Nat}(h:Cl.St w g tb c 4 W):Cl.Gr w W:=⟨h.2.1.os,h.2.1.tape,h.2.1.output,h.2.1.size,fun b a=>h.2.1.blk b a (by simp)⟩
end Go.Proofs
