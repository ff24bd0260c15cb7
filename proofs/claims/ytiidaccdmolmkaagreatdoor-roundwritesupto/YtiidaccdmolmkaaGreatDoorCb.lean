import Derived.Test.YtiidaccdmolmkaaGreatDoorCa
import Derived.Laws.AppendOwn
import Derived.Deep.MidRow
import Derived.Laws.MakeOwn
set_option linter.all false
namespace Go.Proofs
set_option maxRecDepth 100000
set_option maxHeartbeats 4000000
def Cl.m9 (nb g:Nat)(t val v0:ByteArray)(p:Int)(w:World)(t1:t.toList.isEmpty=true)(t2:(t.toList==[])=true)(h0:w.cell? ⟨nb,0,none⟩=some (.string v0))(h1:w.cell? ⟨nb,1,none⟩=some (.int .i64 0))
  (f0:w.frozen? ⟨nb,0,none⟩=false) (f1:w.frozen? ⟨nb,1,none⟩=false):
  Calls Tryz.prog 353 #[.pointer (some ⟨nb,0,none⟩), .string t, .string val, .int .i64 p, .pointer (some ⟨g,0,none⟩)] w λe w'=>e= .returned (.tuple #[])/\
   w'=(w.setCell ⟨nb,0,none⟩ (.string val)).setCell ⟨nb,1,none⟩ (.int .i64 p):=by
 go_enter Tryz.func353,Tryz.ntmps353
 go_wp2
 go_returns
 exact⟨rfl,rfl⟩
def Cl.ml(w:World)(cs:Array Value)(t:TypeId)(o n:Nat)(hn:n=w.heap.size):(w.alloc (.cells cs t)).cell? ⟨n,o,none⟩=cs[o]? :=by subst hn;have h:=heap_alloc_new w (.cells cs t);simp only[World.cell?,h];simp
def Cl.mm(w:World)(cs:Array Value)(t:TypeId)(o n:Nat)(hn:n=w.heap.size):(w.alloc (.cells cs t)).frozen? ⟨n,o,none⟩=false:=by subst hn;have h:=heap_alloc_new w (.cells cs t);simp only[World.frozen?,h];simp
def Cl.mu{w:World}{a:Addr}{v:Value}(h:w.cell? a=some v):a.block<w.heap.size:=World.block_lt_of_cell? w a h
structure Cl.Ch (w w':World) (bs:List Nat):Prop where
 os:w'.os=w.os
 tape:w'.tape=w.tape
 output:w'.output=w.output
 size:w.heap.size<=w'.heap.size
 other: ∀b,b<w.heap.size->b ∉ bs->w'.heap[b]? =w.heap[b]?
 frz: ∀a:Addr,a.block<w.heap.size->w'.frozen? a=w.frozen? a
def Cl.nw (g tb m:Nat)(s val:ByteArray)(hs:0<s.size)(p:Int)(w:World)(hm:m<4)(t1:(s.extract 1 s.size).toList.isEmpty=true)(t2:((s.extract 1 s.size).toList==[])=true)
  (p2:w.cell? ⟨g,2,none⟩=some (.string ⟨#[]⟩)) (p4:w.cell? ⟨g,4,none⟩=some (.slice (some ⟨tb,0,none⟩) 4 4)) (pm:w.cell? ⟨g,6+s[0].toNat,none⟩=some (.int .u8 m))
  (hgt:(⟨tb,m,none⟩:Addr)≠⟨g,4,none⟩) (ht:w.cell? ⟨tb,m,none⟩=some (.pointer none)) (ft:w.frozen? ⟨tb,m,none⟩=false):
  Calls Tryz.prog 353 #[.pointer (some ⟨g,0,none⟩), .string s, .string val, .int .i64 p, .pointer (some ⟨g,0,none⟩)] w λe w'=>e= .returned (.tuple #[])/\
   ∃nq k,w'=(((((w.drewN nq).alloc (.cells #[.string ⟨#[]⟩, .int .i64 0, .string ⟨#[]⟩, .pointer none, .slice none 0 0] 361)).setCell ⟨tb,m,none⟩ (.pointer (some ⟨w.heap.size,0,none⟩))).drewN k).setCell ⟨w.heap.size,0,none⟩ (.string val)).setCell ⟨w.heap.size,1,none⟩ (.int .i64 p):=by
 have hb:tb<w.heap.size:=Cl.mu ht;have hg:g<w.heap.size:=Cl.mu p2;have he:=Cl.ne1 hs;have he2:=Cl.ne2 hs;have hc:(s[0].toNat:Int)<256:=by have:=s[0].toNat_lt;omega
 go_enter Tryz.func353,Tryz.ntmps353
 go_wp2_with fail
 go_quiet (fail)
 have a1:((w.drewN nq).alloc (.cells #[.string ⟨#[]⟩, .int .i64 0, .string ⟨#[]⟩, .pointer none, .slice none 0 0] 361)).cell? ⟨tb,m,none⟩=some (.pointer none):=by rw[World.cell?_alloc_past _ _ _ (show tb<(w.drewN nq).heap.size from hb)];exact ht
 have z1:((w.drewN nq).alloc (.cells #[.string ⟨#[]⟩, .int .i64 0, .string ⟨#[]⟩, .pointer none, .slice none 0 0] 361)).frozen? ⟨tb,m,none⟩=false:=by rw[World.frozen?_alloc_past _ _ _ (show tb<(w.drewN nq).heap.size from hb)];exact ft
 have hne: ∀o,(⟨tb,m,none⟩:Addr)≠⟨w.heap.size,o,none⟩:=λo h=>by injection h with h;omega
 have b1:(((w.drewN nq).alloc (.cells #[.string ⟨#[]⟩, .int .i64 0, .string ⟨#[]⟩, .pointer none, .slice none 0 0] 361)).setCell ⟨tb,m,none⟩ (.pointer (some ⟨w.heap.size,0,none⟩))).cell? ⟨tb,m,none⟩=some (.pointer (some ⟨w.heap.size,0,none⟩)):=World.cell?_setCell_same _ _ _ a1;have n0:(((w.drewN nq).alloc (.cells #[.string ⟨#[]⟩, .int .i64 0, .string ⟨#[]⟩, .pointer none, .slice none 0 0] 361)).setCell ⟨tb,m,none⟩ (.pointer (some ⟨w.heap.size,0,none⟩))).cell? ⟨w.heap.size,0,none⟩=some (.string ⟨#[]⟩):=by rw[World.cell?_setCell_other _ _ _ _ (hne _),Cl.ml (w.drewN nq) _ _ _ w.heap.size rfl];rfl
 have n1:(((w.drewN nq).alloc (.cells #[.string ⟨#[]⟩, .int .i64 0, .string ⟨#[]⟩, .pointer none, .slice none 0 0] 361)).setCell ⟨tb,m,none⟩ (.pointer (some ⟨w.heap.size,0,none⟩))).cell? ⟨w.heap.size,1,none⟩=some (.int .i64 0):=by rw[World.cell?_setCell_other _ _ _ _ (hne _),Cl.ml (w.drewN nq) _ _ _ w.heap.size rfl];rfl
 have z2:(((w.drewN nq).alloc (.cells #[.string ⟨#[]⟩, .int .i64 0, .string ⟨#[]⟩, .pointer none, .slice none 0 0] 361)).setCell ⟨tb,m,none⟩ (.pointer (some ⟨w.heap.size,0,none⟩))).frozen? ⟨w.heap.size,0,none⟩=false:=by rw[World.frozen?_setCell,Cl.mm (w.drewN nq) _ _ _ w.heap.size rfl]
 have z3:(((w.drewN nq).alloc (.cells #[.string ⟨#[]⟩, .int .i64 0, .string ⟨#[]⟩, .pointer none, .slice none 0 0] 361)).setCell ⟨tb,m,none⟩ (.pointer (some ⟨w.heap.size,0,none⟩))).frozen? ⟨w.heap.size,1,none⟩=false:=by rw[World.frozen?_setCell,Cl.mm (w.drewN nq) _ _ _ w.heap.size rfl]
 have q4:(((w.drewN nq).alloc (.cells #[.string ⟨#[]⟩, .int .i64 0, .string ⟨#[]⟩, .pointer none, .slice none 0 0] 361)).setCell ⟨tb,m,none⟩ (.pointer (some ⟨w.heap.size,0,none⟩))).cell? ⟨g,4,none⟩=some (.slice (some ⟨tb,0,none⟩) 4 4):=by rw[World.cell?_setCell_other _ _ _ _ hgt,World.cell?_alloc_past _ _ _ (show g<(w.drewN nq).heap.size from hg)];exact p4
 have HL:=Lib.hid (λk=>Cl.m9 w.heap.size g (s.extract 1 s.size) val ⟨#[]⟩ p ((((w.drewN nq).alloc (.cells #[.string ⟨#[]⟩, .int .i64 0, .string ⟨#[]⟩, .pointer none, .slice none 0 0] 361)).setCell ⟨tb,m,none⟩ (.pointer (some ⟨w.heap.size,0,none⟩))).drewN k) t1 t2 n0 n1 z2 z3);clear n0 n1 z2 z3 hne t1 t2
 go_wp2_with fail
 go_region_with (go_at_call 353;refine(HL.out _).mono ?_;rintro e w' ⟨rfl,rfl⟩)
 all_goals (go_end0;exact⟨rfl,_,_,rfl⟩)
def Cl.pN:(ByteArray.mk #[]).toList.isEmpty=true:=by rw[Lib.toList_data];rfl
def Cl.pL:((ByteArray.mk #[]).toList==[])=true:=by rw[Lib.toList_data];rfl
def Cl.oR (nb g:Nat)(t val:ByteArray)(p:Int)(w:World)(t1:t.toList.isEmpty=false)(t2:(t.toList==[])=false)(h2:w.cell? ⟨nb,2,none⟩=some (.string ⟨#[]⟩))(h3:w.cell? ⟨nb,3,none⟩=some (.pointer none))(h4:w.cell? ⟨nb,4,none⟩=some (.slice none 0 0))
  (f2:w.frozen? ⟨nb,2,none⟩=false) (f3:w.frozen? ⟨nb,3,none⟩=false):
  Calls Tryz.prog 353 #[.pointer (some ⟨nb,0,none⟩), .string t, .string val, .int .i64 p, .pointer (some ⟨g,0,none⟩)] w λe w'=>e= .returned (.tuple #[])/\
   w'=((w.setCell ⟨nb,2,none⟩ (.string t)).setCell ⟨nb,3,none⟩ (.pointer (some ⟨w.heap.size,0,none⟩))).alloc (.cells #[.string val, .int .i64 p, .string ⟨#[]⟩, .pointer none, .slice none 0 0] 361):=by
 have hb:nb<w.heap.size:=Cl.mu h2;have hb2:nb<(w.setCell ⟨nb,2,none⟩ (.string t)).heap.size:=by simpa using hb
 have a3:((w.setCell ⟨nb,2,none⟩ (.string t)).alloc (.cells #[.string ⟨#[]⟩, .int .i64 0, .string ⟨#[]⟩, .pointer none, .slice none 0 0] 361)).cell? ⟨nb,3,none⟩=some (.pointer none):=by rw[World.cell?_alloc_past _ _ _ hb2,World.cell?_setCell_other _ _ _ _ (by simp)];exact h3
 have z3:((w.setCell ⟨nb,2,none⟩ (.string t)).alloc (.cells #[.string ⟨#[]⟩, .int .i64 0, .string ⟨#[]⟩, .pointer none, .slice none 0 0] 361)).frozen? ⟨nb,3,none⟩=false:=by rw[World.frozen?_alloc_past _ _ _ hb2];simpa using f3
 have c3:(w.setCell ⟨nb,2,none⟩ (.string t)).cell? ⟨nb,3,none⟩=some (.pointer none):=by rw[World.cell?_setCell_other _ _ _ _ (by simp)];exact h3
 have hs1:w.heap.size=((w.setCell ⟨nb,2,none⟩ (.string t)).setCell ⟨nb,3,none⟩ (.pointer (some ⟨w.heap.size,0,none⟩))).heap.size:=by simp
 have b3:(((w.setCell ⟨nb,2,none⟩ (.string t)).setCell ⟨nb,3,none⟩ (.pointer (some ⟨w.heap.size,0,none⟩))).alloc (.cells #[.string ⟨#[]⟩, .int .i64 0, .string ⟨#[]⟩, .pointer none, .slice none 0 0] 361)).cell? ⟨nb,3,none⟩=some (.pointer (some ⟨w.heap.size,0,none⟩)):=by rw[World.cell?_alloc_past _ _ _ (by rw[<-hs1];exact hb)];exact World.cell?_setCell_same _ _ _ c3
 have n0:(((w.setCell ⟨nb,2,none⟩ (.string t)).setCell ⟨nb,3,none⟩ (.pointer (some ⟨w.heap.size,0,none⟩))).alloc (.cells #[.string ⟨#[]⟩, .int .i64 0, .string ⟨#[]⟩, .pointer none, .slice none 0 0] 361)).cell? ⟨w.heap.size,0,none⟩=some (.string ⟨#[]⟩):=by rw[Cl.ml _ _ _ _ _ hs1];rfl
 have n1:(((w.setCell ⟨nb,2,none⟩ (.string t)).setCell ⟨nb,3,none⟩ (.pointer (some ⟨w.heap.size,0,none⟩))).alloc (.cells #[.string ⟨#[]⟩, .int .i64 0, .string ⟨#[]⟩, .pointer none, .slice none 0 0] 361)).cell? ⟨w.heap.size,1,none⟩=some (.int .i64 0):=by rw[Cl.ml _ _ _ _ _ hs1];rfl
 have g0:(((w.setCell ⟨nb,2,none⟩ (.string t)).setCell ⟨nb,3,none⟩ (.pointer (some ⟨w.heap.size,0,none⟩))).alloc (.cells #[.string ⟨#[]⟩, .int .i64 0, .string ⟨#[]⟩, .pointer none, .slice none 0 0] 361)).frozen? ⟨w.heap.size,0,none⟩=false:=Cl.mm _ _ _ _ _ hs1;have g1:(((w.setCell ⟨nb,2,none⟩ (.string t)).setCell ⟨nb,3,none⟩ (.pointer (some ⟨w.heap.size,0,none⟩))).alloc (.cells #[.string ⟨#[]⟩, .int .i64 0, .string ⟨#[]⟩, .pointer none, .slice none 0 0] 361)).frozen? ⟨w.heap.size,1,none⟩=false:=Cl.mm _ _ _ _ _ hs1;have HL:=Lib.hid (Cl.m9 w.heap.size g ⟨#[]⟩ val ⟨#[]⟩ p _ Cl.pN Cl.pL n0 n1 g0 g1);clear n0 n1 g0 g1 hb2 c3 hs1;go_enter Tryz.func353,Tryz.ntmps353
 go_wp2_with (go_at_call 353;refine HL.out.mono ?_;rintro e w' ⟨rfl,rfl⟩)
 go_returns
 exact⟨rfl,rfl⟩
def Cl.o9 (g tb m:Nat)(s val:ByteArray)(hs:0<s.size)(p:Int)(w:World)(hm:m<4)(t1:(s.extract 1 s.size).toList.isEmpty=false)(t2:((s.extract 1 s.size).toList==[])=false)
  (p2:w.cell? ⟨g,2,none⟩=some (.string ⟨#[]⟩)) (p4:w.cell? ⟨g,4,none⟩=some (.slice (some ⟨tb,0,none⟩) 4 4)) (pm:w.cell? ⟨g,6+s[0].toNat,none⟩=some (.int .u8 m))
  (hgt:(⟨tb,m,none⟩:Addr)≠⟨g,4,none⟩) (ht:w.cell? ⟨tb,m,none⟩=some (.pointer none)) (ft:w.frozen? ⟨tb,m,none⟩=false):
  Calls Tryz.prog 353 #[.pointer (some ⟨g,0,none⟩), .string s, .string val, .int .i64 p, .pointer (some ⟨g,0,none⟩)] w λe w'=>e= .returned (.tuple #[])/\
   ∃nq k,w'=((((((w.drewN nq).alloc (.cells #[.string ⟨#[]⟩, .int .i64 0, .string ⟨#[]⟩, .pointer none, .slice none 0 0] 361)).setCell ⟨tb,m,none⟩ (.pointer (some ⟨w.heap.size,0,none⟩))).drewN k).setCell ⟨w.heap.size,2,none⟩ (.string (s.extract 1 s.size))).setCell ⟨w.heap.size,3,none⟩ (.pointer (some ⟨w.heap.size+1,0,none⟩))).alloc (.cells #[.string val, .int .i64 p, .string ⟨#[]⟩, .pointer none, .slice none 0 0] 361):=by
 have hb:tb<w.heap.size:=Cl.mu ht;have hg:g<w.heap.size:=Cl.mu p2;have he:=Cl.ne1 hs;have he2:=Cl.ne2 hs;have hc:(s[0].toNat:Int)<256:=by have:=s[0].toNat_lt;omega
 go_enter Tryz.func353,Tryz.ntmps353
 go_wp2_with fail
 go_quiet (fail)
 have a1:((w.drewN nq).alloc (.cells #[.string ⟨#[]⟩, .int .i64 0, .string ⟨#[]⟩, .pointer none, .slice none 0 0] 361)).cell? ⟨tb,m,none⟩=some (.pointer none):=by rw[World.cell?_alloc_past _ _ _ (show tb<(w.drewN nq).heap.size from hb)];exact ht
 have z1:((w.drewN nq).alloc (.cells #[.string ⟨#[]⟩, .int .i64 0, .string ⟨#[]⟩, .pointer none, .slice none 0 0] 361)).frozen? ⟨tb,m,none⟩=false:=by rw[World.frozen?_alloc_past _ _ _ (show tb<(w.drewN nq).heap.size from hb)];exact ft
 have hne: ∀o,(⟨tb,m,none⟩:Addr)≠⟨w.heap.size,o,none⟩:=λo h=>by injection h with h;omega
 have b1:(((w.drewN nq).alloc (.cells #[.string ⟨#[]⟩, .int .i64 0, .string ⟨#[]⟩, .pointer none, .slice none 0 0] 361)).setCell ⟨tb,m,none⟩ (.pointer (some ⟨w.heap.size,0,none⟩))).cell? ⟨tb,m,none⟩=some (.pointer (some ⟨w.heap.size,0,none⟩)):=World.cell?_setCell_same _ _ _ a1;have n2:(((w.drewN nq).alloc (.cells #[.string ⟨#[]⟩, .int .i64 0, .string ⟨#[]⟩, .pointer none, .slice none 0 0] 361)).setCell ⟨tb,m,none⟩ (.pointer (some ⟨w.heap.size,0,none⟩))).cell? ⟨w.heap.size,2,none⟩=some (.string ⟨#[]⟩):=by rw[World.cell?_setCell_other _ _ _ _ (hne _),Cl.ml (w.drewN nq) _ _ _ w.heap.size rfl];rfl
 have n3:(((w.drewN nq).alloc (.cells #[.string ⟨#[]⟩, .int .i64 0, .string ⟨#[]⟩, .pointer none, .slice none 0 0] 361)).setCell ⟨tb,m,none⟩ (.pointer (some ⟨w.heap.size,0,none⟩))).cell? ⟨w.heap.size,3,none⟩=some (.pointer none):=by rw[World.cell?_setCell_other _ _ _ _ (hne _),Cl.ml (w.drewN nq) _ _ _ w.heap.size rfl];rfl
 have n4:(((w.drewN nq).alloc (.cells #[.string ⟨#[]⟩, .int .i64 0, .string ⟨#[]⟩, .pointer none, .slice none 0 0] 361)).setCell ⟨tb,m,none⟩ (.pointer (some ⟨w.heap.size,0,none⟩))).cell? ⟨w.heap.size,4,none⟩=some (.slice none 0 0):=by rw[World.cell?_setCell_other _ _ _ _ (hne _),Cl.ml (w.drewN nq) _ _ _ w.heap.size rfl];rfl
 have z2:(((w.drewN nq).alloc (.cells #[.string ⟨#[]⟩, .int .i64 0, .string ⟨#[]⟩, .pointer none, .slice none 0 0] 361)).setCell ⟨tb,m,none⟩ (.pointer (some ⟨w.heap.size,0,none⟩))).frozen? ⟨w.heap.size,2,none⟩=false:=by rw[World.frozen?_setCell,Cl.mm (w.drewN nq) _ _ _ w.heap.size rfl]
 have z3:(((w.drewN nq).alloc (.cells #[.string ⟨#[]⟩, .int .i64 0, .string ⟨#[]⟩, .pointer none, .slice none 0 0] 361)).setCell ⟨tb,m,none⟩ (.pointer (some ⟨w.heap.size,0,none⟩))).frozen? ⟨w.heap.size,3,none⟩=false:=by rw[World.frozen?_setCell,Cl.mm (w.drewN nq) _ _ _ w.heap.size rfl]
 have q4:(((w.drewN nq).alloc (.cells #[.string ⟨#[]⟩, .int .i64 0, .string ⟨#[]⟩, .pointer none, .slice none 0 0] 361)).setCell ⟨tb,m,none⟩ (.pointer (some ⟨w.heap.size,0,none⟩))).cell? ⟨g,4,none⟩=some (.slice (some ⟨tb,0,none⟩) 4 4):=by rw[World.cell?_setCell_other _ _ _ _ hgt,World.cell?_alloc_past _ _ _ (show g<(w.drewN nq).heap.size from hg)];exact p4
 have HL:=Lib.hid (λk=>Cl.oR w.heap.size g (s.extract 1 s.size) val p ((((w.drewN nq).alloc (.cells #[.string ⟨#[]⟩, .int .i64 0, .string ⟨#[]⟩, .pointer none, .slice none 0 0] 361)).setCell ⟨tb,m,none⟩ (.pointer (some ⟨w.heap.size,0,none⟩))).drewN k) t1 t2 n2 n3 n4 z2 z3);clear n2 n3 n4 z2 z3 hne t1 t2
 go_wp2_with fail
 go_region_with (go_at_call 353;refine(HL.out _).mono ?_;rintro e w' ⟨rfl,rfl⟩)
 all_goals (go_end0;exact⟨rfl,_,_,rfl⟩)
def Cl.pc (g tb nb m:Nat)(s val v0:ByteArray)(hs:0<s.size)(p:Int)(w:World)(hm:m<4)(t1:(s.extract 1 s.size).toList.isEmpty=true)(t2:((s.extract 1 s.size).toList==[])=true)
  (p2:w.cell? ⟨g,2,none⟩=some (.string ⟨#[]⟩)) (p4:w.cell? ⟨g,4,none⟩=some (.slice (some ⟨tb,0,none⟩) 4 4)) (pm:w.cell? ⟨g,6+s[0].toNat,none⟩=some (.int .u8 m))
  (ht:w.cell? ⟨tb,m,none⟩=some (.pointer (some ⟨nb,0,none⟩))) (n0:w.cell? ⟨nb,0,none⟩=some (.string v0)) (n1:w.cell? ⟨nb,1,none⟩=some (.int .i64 0))
  (z0:w.frozen? ⟨nb,0,none⟩=false) (z1:w.frozen? ⟨nb,1,none⟩=false):
  Calls Tryz.prog 353 #[.pointer (some ⟨g,0,none⟩), .string s, .string val, .int .i64 p, .pointer (some ⟨g,0,none⟩)] w λe w'=>e= .returned (.tuple #[])/\
   ∃k,w'=((w.drewN k).setCell ⟨nb,0,none⟩ (.string val)).setCell ⟨nb,1,none⟩ (.int .i64 p):=by
 have he:=Cl.ne1 hs;have he2:=Cl.ne2 hs;have hc:(s[0].toNat:Int)<256:=by have:=s[0].toNat_lt;omega
 have HL:=Lib.hid (λk=>Cl.m9 nb g (s.extract 1 s.size) val v0 p (w.drewN k) t1 t2 n0 n1 z0 z1);clear n0 n1 z0 z1 t1 t2;go_enter Tryz.func353,Tryz.ntmps353
 go_wp2_with fail
 go_quiet (fail)
 go_wp2_with fail
 go_region_with (go_at_call 353;refine(HL.out _).mono ?_;rintro e w' ⟨rfl,rfl⟩)
 all_goals (go_end0;exact⟨rfl,_,rfl⟩)
structure Cl.Old (w:World) (ob:Nat):Prop where
 o0:w.cell? ⟨ob,0,none⟩=some (.string ⟨#[13,10]⟩)
 o1:w.cell? ⟨ob,1,none⟩=some (.string ⟨#[10]⟩)
 o2:w.cell? ⟨ob,2,none⟩=some (.string ⟨#[13]⟩)
 o3:w.cell? ⟨ob,3,none⟩=some (.string ⟨#[10]⟩)
 o4:w.cell? ⟨ob,4,none⟩=some (.string ⟨#[12]⟩)
 o5:w.cell? ⟨ob,5,none⟩=some (.string ⟨#[10]⟩)
 o6:w.cell? ⟨ob,6,none⟩=some (.string ⟨#[0]⟩)
 o7:w.cell? ⟨ob,7,none⟩=some (.string ⟨#[239,191,189]⟩)
def Cl.mk(k:Nat):Int:=if k=13\/k=10\/k=12\/k=0 then 1 else 0
def Cl.cnt:Nat->Int
 |0=>0
 |k+1=>Cl.cnt k+Cl.mk k
noncomputable def Cl.mv:Array Value:=((List.range 256).map λk=>Value.int .u8 (Cl.mk k)).toArray
noncomputable def Cl.C1:Array Value:=((((Tryz.zeroCells363.setIfInBounds 19 (.int .u8 1)).setIfInBounds 16 (.int .u8 1)).setIfInBounds 19 (.int .u8 1)).setIfInBounds 18 (.int .u8 1)).setIfInBounds 6 (.int .u8 1)
def Cl.o8:Cl.C1.size=262:=by kernel_rfl
def Cl.oY:(Cl.C1.toList.drop 6)=Cl.mv.toList:=by kernel_rfl
def Cl.mT{k:Nat}(h:k<256):Cl.C1[6+k]? =some (.int .u8 (Cl.mk k)):=by
 have h1:(Cl.C1.toList.drop 6)[k]? =Cl.mv.toList[k]? :=by rw[Cl.oY]
 rw[Wd]at h1;rw[<-Re,h1];simp[Cl.mv,h]
def Cl.oA:(Tryz.prog.info? 341).map (·.size)=some Cl.mv.toList.length:=by kernel_rfl
def Cl.nn:Tryz.prog.underlying 341=some (.array 256 5):=by kernel_rfl
def Cl.ph{w W:World}(C:Array Value)(hC:C=Cl.C1)(hW: ∀o,W.cell? ⟨w.heap.size,o,none⟩=C[o]?):W.rangeAt w.heap.size 6 Cl.mv.toList:=λj v hv=>by
 rw[hW,hC];have hj:j<256:=by have:=(Ua.1 hv).1;simpa [Cl.mv] using this
 rw[Cl.mT hj,<-hv];simp[Cl.mv,hj]
def Cl.mL{k:Nat}(hk:k<256){v:Value}(hv:Cl.mv[k]? =some v)(W:World):(Instr.index 341 (.agg Cl.mv) (.int .i64 k)).run Tryz.prog W= .ok v W:=by
 have h1:(0:Int)<=k/\(k:Int)<(256:Nat):=by omega
 simp[Instr.index,run_underlying Cl.nn,asIntOf,h1,go_sem];simp[hk,hv]
def Cl.pd:Tryz.prog.underlying 359=some (.slice 358):=by kernel_rfl
def Cl.pp: ∃i,Tryz.prog.info? 358=some i/\i.zero=some (.pointer none)/\i.size=1/\i.bytes=8:=⟨(Tryz.prog.info? 358).getD default,by kernel_rfl,by kernel_rfl,by kernel_rfl,by kernel_rfl⟩
def Cl.mk4(W:World):(Instr.makeSlice 359 (.int .i64 4) (.int .i64 4)).run Tryz.prog W= .ok (.slice (some ⟨W.heap.size,0,none⟩) 4 4) (W.alloc (.cells #[.pointer none, .pointer none, .pointer none, .pointer none] 358)):=by
 obtain⟨i,hi,hz,hs,hb⟩:=Cl.pp;have:=run_makeSlice (P:=Tryz.prog) (w:=W) 359 358 i _ Cl.pd hi hz .i64 .i64 4 4 (by omega) (by omega) (by rw[hs];decide) (by rw[hb];decide) (by decide);rw[hs]at this;rw[this];have hm:madeCells (Value.pointer none).cells (Int.toNat 4*1)= #[.pointer none, .pointer none, .pointer none, .pointer none]:=by apply Array.ext';simp[madeCells,Value.cells,List.range,List.range.loop,Nat.mod_one]
 rw[hm];rfl
structure Cl.Fr (w w':World) (L:List (Nat×Nat)):Prop where
 os:w'.os=w.os
 tape:w'.tape=w.tape
 output:w'.output=w.output
 size:w.heap.size<=w'.heap.size
 blk: ∀b,b<w.heap.size->(∀o,(b,o) ∉ L)->w'.heap[b]? =w.heap[b]?
 cell: ∀b o,b<w.heap.size->(b,o) ∉ L->w'.cell? ⟨b,o,none⟩=w.cell? ⟨b,o,none⟩
 frz: ∀b o,b<w.heap.size->w'.frozen? ⟨b,o,none⟩=w.frozen? ⟨b,o,none⟩
def Cl.Fr.trans{w w1 w2:World}{L M:List (Nat×Nat)}(h:Cl.Fr w w1 L)(g:Cl.Fr w1 w2 M):Cl.Fr w w2 (L++M)where
 os:=g.os.trans h.os
 tape:=g.tape.trans h.tape
 output:=g.output.trans h.output
 size:=Jc h.size g.size
 blk:=λb hb hn=>(g.blk b (Mc hb h.size) λo ho=>hn o (List.mem_append_right _ ho)).trans (h.blk b hb λo ho=>hn o (Xe _ ho))
 cell:=λb o hb hn=>(g.cell b o (Mc hb h.size) λho=>hn (List.mem_append_right _ ho)).trans (h.cell b o hb λho=>hn (Xe _ ho))
 frz:=λb o hb=>(g.frz b o (Mc hb h.size)).trans (h.frz b o hb)
def Cl.Fr.wk{w w':World}{L M:List (Nat×Nat)}(h:Cl.Fr w w' L)(hs: ∀b o,(b,o)∈L->b<w.heap.size->(b,o)∈M):Cl.Fr w w' M where
 os:=h.os
 tape:=h.tape
 output:=h.output
 size:=h.size
 blk:=λb hb hn=>h.blk b hb λo ho=>hn o (hs b o ho hb)
 cell:=λb o hb hn=>h.cell b o hb λho=>hn (hs b o ho hb)
 frz:=h.frz
def Cl.Fr.drewN(w:World)(n:Nat):Cl.Fr w (w.drewN n) []:=⟨rfl,rfl,rfl,Db _,λ_ _ _=>rfl,λ_ _ _ _=>rfl,λ_ _ _=>rfl⟩
def Cl.Fr.set(w:World)(b o:Nat)(v:Value):Cl.Fr w (w.setCell ⟨b,o,none⟩ v) [(b,o)]where
 os:=rfl
 tape:=rfl
 output:=rfl
 size:=by simp
 blk:=λx _ hn=>by have:b≠x:=λe=>hn o (by simp[e]);simp[World.setCell,af,this]
 cell:=λx y _ hn=>World.cell?_setCell_other _ _ _ _ (λe=>by injection e with e1 e2;subst e1;subst e2;exact hn (by simp))
 frz:=λx y _=>World.frozen?_setCell ..
def Cl.Fr.alloc(w:World)(o:Obj):Cl.Fr w (w.alloc o) []where
 os:=rfl
 tape:=rfl
 output:=rfl
 size:=by rw[World.size_alloc];omega
 blk:=λx hx _=>by rw[heap_alloc_old w o hx]
 cell:=λx y hx _=>World.cell?_alloc_past _ _ _ hx
 frz:=λx y hx=>World.frozen?_alloc_past _ _ _ hx
structure Cl.ms (w:World) (b:Nat) (v:ByteArray) (p:Int) (s:ByteArray) (x:Value):Prop where
 c0:w.cell? ⟨b,0,none⟩=some (.string v)
 c1:w.cell? ⟨b,1,none⟩=some (.int .i64 p)
 c2:w.cell? ⟨b,2,none⟩=some (.string s)
 c3:w.cell? ⟨b,3,none⟩=some x
 c4:w.cell? ⟨b,4,none⟩=some (.slice none 0 0)
 f0:w.frozen? ⟨b,0,none⟩=false
 f1:w.frozen? ⟨b,1,none⟩=false
def Cl.ms.keep{w w':World}{b:Nat}{v s:ByteArray}{p:Int}{x:Value}{L:List (Nat×Nat)}(h:Cl.ms w b v p s x)(f:Cl.Fr w w' L)(hn: ∀o,(b,o) ∉ L):Cl.ms w' b v p s x:=by have hb:b<w.heap.size:=Cl.mu h.c0;exact⟨(f.cell _ _ hb (hn _)).trans h.c0,(f.cell _ _ hb (hn _)).trans h.c1,(f.cell _ _ hb (hn _)).trans h.c2,(f.cell _ _ hb (hn _)).trans h.c3,(f.cell _ _ hb (hn _)).trans h.c4,(f.frz _ _ hb).trans h.f0,(f.frz _ _ hb).trans h.f1⟩
def Cl.ms.new(w:World)(v s:ByteArray)(p:Int)(x:Value)(n:Nat)(hn:n=w.heap.size):Cl.ms (w.alloc (.cells #[.string v, .int .i64 p, .string s,x, .slice none 0 0] 361)) n v p s x:=by
 refine⟨?_,?_,?_,?_,?_,?_,?_⟩
 all_goals first|(rw[Cl.ml _ _ _ _ _ hn];rfl)|exact Cl.mm _ _ _ _ _ hn
def Cl.ms.set0{w:World}{b:Nat}{v s:ByteArray}{p:Int}{x:Value}(h:Cl.ms w b v p s x)(u:ByteArray):Cl.ms (w.setCell ⟨b,0,none⟩ (.string u)) b u p s x:=by have ho: ∀o,o≠0->(w.setCell ⟨b,0,none⟩ (.string u)).cell? ⟨b,o,none⟩=w.cell? ⟨b,o,none⟩:=λo ho=>World.cell?_setCell_other _ _ _ _ (λe=>by injection e with _ e;exact ho e.symm);exact⟨World.cell?_setCell_same _ _ _ h.c0,(ho 1 (by omega)).trans h.c1,(ho 2 (by omega)).trans h.c2,(ho 3 (by omega)).trans h.c3,(ho 4 (by omega)).trans h.c4,(World.frozen?_setCell ..).trans h.f0,(World.frozen?_setCell ..).trans h.f1⟩
def Cl.ms.set1{w:World}{b:Nat}{v s:ByteArray}{p:Int}{x:Value}(h:Cl.ms w b v p s x)(q:Int):Cl.ms (w.setCell ⟨b,1,none⟩ (.int .i64 q)) b v q s x:=by have ho: ∀o,o≠1->(w.setCell ⟨b,1,none⟩ (.int .i64 q)).cell? ⟨b,o,none⟩=w.cell? ⟨b,o,none⟩:=λo ho=>World.cell?_setCell_other _ _ _ _ (λe=>by injection e with _ e;exact ho e.symm);exact⟨(ho 0 (by omega)).trans h.c0,World.cell?_setCell_same _ _ _ h.c1,(ho 2 (by omega)).trans h.c2,(ho 3 (by omega)).trans h.c3,(ho 4 (by omega)).trans h.c4,(World.frozen?_setCell ..).trans h.f0,(World.frozen?_setCell ..).trans h.f1⟩
def Cl.ms.set2{w:World}{b:Nat}{v s:ByteArray}{p:Int}{x:Value}(h:Cl.ms w b v p s x)(u:ByteArray):Cl.ms (w.setCell ⟨b,2,none⟩ (.string u)) b v p u x:=by have ho: ∀o,o≠2->(w.setCell ⟨b,2,none⟩ (.string u)).cell? ⟨b,o,none⟩=w.cell? ⟨b,o,none⟩:=λo ho=>World.cell?_setCell_other _ _ _ _ (λe=>by injection e with _ e;exact ho e.symm);exact⟨(ho 0 (by omega)).trans h.c0,(ho 1 (by omega)).trans h.c1,World.cell?_setCell_same _ _ _ h.c2,(ho 3 (by omega)).trans h.c3,(ho 4 (by omega)).trans h.c4,(World.frozen?_setCell ..).trans h.f0,(World.frozen?_setCell ..).trans h.f1⟩
def Cl.ms.set3{w:World}{b:Nat}{v s:ByteArray}{p:Int}{x:Value}(h:Cl.ms w b v p s x)(y:Value):Cl.ms (w.setCell ⟨b,3,none⟩ y) b v p s y:=by have ho: ∀o,o≠3->(w.setCell ⟨b,3,none⟩ y).cell? ⟨b,o,none⟩=w.cell? ⟨b,o,none⟩:=λo ho=>World.cell?_setCell_other _ _ _ _ (λe=>by injection e with _ e;exact ho e.symm);exact⟨(ho 0 (by omega)).trans h.c0,(ho 1 (by omega)).trans h.c1,(ho 2 (by omega)).trans h.c2,World.cell?_setCell_same _ _ _ h.c3,(ho 4 (by omega)).trans h.c4,(World.frozen?_setCell ..).trans h.f0,(World.frozen?_setCell ..).trans h.f1⟩
def Cl.oB(w:World)(tb m:Nat)(v:ByteArray)(p:Int)(ht:w.cell? ⟨tb,m,none⟩=some (.pointer none))(nq k:Nat):
  let w':=(((((w.drewN nq).alloc (.cells #[.string ⟨#[]⟩, .int .i64 0, .string ⟨#[]⟩, .pointer none, .slice none 0 0] 361)).setCell ⟨tb,m,none⟩ (.pointer (some ⟨w.heap.size,0,none⟩))).drewN k).setCell ⟨w.heap.size,0,none⟩ (.string v)).setCell ⟨w.heap.size,1,none⟩ (.int .i64 p)
  Cl.Fr w w' [(tb,m)]/\w'.cell? ⟨tb,m,none⟩=some (.pointer (some ⟨w.heap.size,0,none⟩))/\Cl.ms w' w.heap.size v p ⟨#[]⟩ (.pointer none):=by
 intro w';have hb:tb<w.heap.size:=Cl.mu ht;have hne: ∀o,(w.heap.size,o) ∉ [(tb,m)]:=λo h=>by simp at h;omega
 have h1:=(Cl.Fr.drewN w nq).trans (Cl.Fr.alloc _ (.cells #[.string ⟨#[]⟩, .int .i64 0, .string ⟨#[]⟩, .pointer none, .slice none 0 0] 361));have n1:=Cl.ms.new (w.drewN nq) ⟨#[]⟩ ⟨#[]⟩ 0 (.pointer none) w.heap.size rfl;have c1:=(h1.cell tb m hb (by simp)).trans ht;have f2:=Cl.Fr.set ((w.drewN nq).alloc (.cells #[.string ⟨#[]⟩, .int .i64 0, .string ⟨#[]⟩, .pointer none, .slice none 0 0] 361)) tb m (.pointer (some ⟨w.heap.size,0,none⟩));have n2:=n1.keep f2 hne;have c2:=World.cell?_setCell_same _ _ (.pointer (some ⟨w.heap.size,0,none⟩)) c1;have f3:=f2.trans (Cl.Fr.drewN _ k);have n3:=n1.keep f3 (by simpa using hne);have n4:=n3.set0 v;have n5:=n4.set1 p;have f4:=(f3.trans (Cl.Fr.set _ w.heap.size 0 (.string v))).trans (Cl.Fr.set _ w.heap.size 1 (.int .i64 p));refine⟨(h1.trans f4).wk ?_,?_,n5⟩
 ·intro b o hm hb;simp only[Ja,Lb,Bb,ib,Prod.mk.injEq,Tf,or_false]at hm ⊢;omega
 ·have e: ∀o,(⟨w.heap.size,o,none⟩:Addr)≠⟨tb,m,none⟩:=λo h=>by injection h;omega
  show(World.setCell _ _ _).cell? _=_;rw[World.cell?_setCell_other _ _ _ _ (e _),World.cell?_setCell_other _ _ _ _ (e _)];exact c2
def Cl.pr(w:World)(tb m:Nat)(v s:ByteArray)(p:Int)(ht:w.cell? ⟨tb,m,none⟩=some (.pointer none))(nq k:Nat):
  let w':=((((((w.drewN nq).alloc (.cells #[.string ⟨#[]⟩, .int .i64 0, .string ⟨#[]⟩, .pointer none, .slice none 0 0] 361)).setCell ⟨tb,m,none⟩ (.pointer (some ⟨w.heap.size,0,none⟩))).drewN k).setCell ⟨w.heap.size,2,none⟩ (.string s)).setCell ⟨w.heap.size,3,none⟩ (.pointer (some ⟨w.heap.size+1,0,none⟩))).alloc (.cells #[.string v, .int .i64 p, .string ⟨#[]⟩, .pointer none, .slice none 0 0] 361)
  Cl.Fr w w' [(tb,m)]/\w'.cell? ⟨tb,m,none⟩=some (.pointer (some ⟨w.heap.size,0,none⟩))/\Cl.ms w' w.heap.size ⟨#[]⟩ 0 s (.pointer (some ⟨w.heap.size+1,0,none⟩))/\Cl.ms w' (w.heap.size+1) v p ⟨#[]⟩ (.pointer none):=by
 intro w';have hb:tb<w.heap.size:=Cl.mu ht;have hne: ∀o,(w.heap.size,o) ∉ [(tb,m)]:=λo h=>by simp at h;omega
 have h1:=(Cl.Fr.drewN w nq).trans (Cl.Fr.alloc _ (.cells #[.string ⟨#[]⟩, .int .i64 0, .string ⟨#[]⟩, .pointer none, .slice none 0 0] 361));have n1:=Cl.ms.new (w.drewN nq) ⟨#[]⟩ ⟨#[]⟩ 0 (.pointer none) w.heap.size rfl;have c1:=(h1.cell tb m hb (by simp)).trans ht;have f2:=Cl.Fr.set ((w.drewN nq).alloc (.cells #[.string ⟨#[]⟩, .int .i64 0, .string ⟨#[]⟩, .pointer none, .slice none 0 0] 361)) tb m (.pointer (some ⟨w.heap.size,0,none⟩));have c2:=World.cell?_setCell_same _ _ (.pointer (some ⟨w.heap.size,0,none⟩)) c1;have f3:=f2.trans (Cl.Fr.drewN _ k);have n3:=n1.keep f3 (by simpa using hne);have n4:=n3.set2 s;have n5:=n4.set3 (.pointer (some ⟨w.heap.size+1,0,none⟩));have f4:=(f3.trans (Cl.Fr.set _ w.heap.size 2 (.string s))).trans (Cl.Fr.set _ w.heap.size 3 (.pointer (some ⟨w.heap.size+1,0,none⟩)));have f5:=Cl.Fr.alloc (((((((w.drewN nq).alloc (.cells #[.string ⟨#[]⟩, .int .i64 0, .string ⟨#[]⟩, .pointer none, .slice none 0 0] 361)).setCell ⟨tb,m,none⟩ (.pointer (some ⟨w.heap.size,0,none⟩))).drewN k).setCell ⟨w.heap.size,2,none⟩ (.string s)).setCell ⟨w.heap.size,3,none⟩ (.pointer (some ⟨w.heap.size+1,0,none⟩)))) (.cells #[.string v, .int .i64 p, .string ⟨#[]⟩, .pointer none, .slice none 0 0] 361);have hc:w'.cell? ⟨tb,m,none⟩=some (.pointer (some ⟨w.heap.size,0,none⟩)):=by
  have e: ∀o,(⟨w.heap.size,o,none⟩:Addr)≠⟨tb,m,none⟩:=λo h=>by injection h;omega
  refine(f5.cell tb m ?_ (by simp)).trans ?_
  ·have:=(h1.trans f4).size;omega
  ·rw[World.cell?_setCell_other _ _ _ _ (e _),World.cell?_setCell_other _ _ _ _ (e _)];exact c2
 refine⟨((h1.trans f4).trans f5).wk ?_,hc,n5.keep f5 (by simp),Cl.ms.new _ _ _ _ _ _ ?_⟩
 ·intro b o hm hb;simp only[Ja,Lb,Bb,Ib,ib,Prod.mk.injEq,Tf,or_false]at hm ⊢;omega
 ·rw[World.size_setCell,World.size_setCell];show _=(World.setCell _ _ _).heap.size;rw[World.size_setCell,World.size_alloc];rfl
structure Cl.Base (w:World) (g tb ob:Nat):Prop where
 l1:ob<g
 l2:g<tb
 p1:w.cell? ⟨g,1,none⟩=some (.int .i64 0)
 p2:w.cell? ⟨g,2,none⟩=some (.string ⟨#[]⟩)
 p4:w.cell? ⟨g,4,none⟩=some (.slice (some ⟨tb,0,none⟩) 4 4)
 p5:w.cell? ⟨g,5,none⟩=some (.int .i64 4)
 pm: ∀k:Nat,k<256->w.cell? ⟨g,6+k,none⟩=some (.int .u8 (Cl.mp k))
 ft: ∀m,m<4->w.frozen? ⟨tb,m,none⟩=false
 lt:tb<w.heap.size
 old:Cl.Old w ob
def Cl.Base.keep{w w':World}{g tb ob:Nat}{L:List (Nat×Nat)}(h:Cl.Base w g tb ob)(f:Cl.Fr w w' L)(hL: ∀b o,(b,o)∈L->tb<=b):Cl.Base w' g tb ob:=by
 have l1:=h.l1;have l2:=h.l2;have lt:=h.lt;have hg:=λo=>f.cell g o (by omega) λhm=>by have:=hL _ _ hm;omega
 have ho:=λo=>f.cell ob o (by omega) λhm=>by have:=hL _ _ hm;omega
 have O:=h.old;exact⟨l1,l2,(hg _).trans h.p1,(hg _).trans h.p2,(hg _).trans h.p4,(hg _).trans h.p5,λk hk=>(hg _).trans (h.pm k hk),λm hm=>(f.frz _ _ lt).trans (h.ft m hm),Mc lt f.size,
  ⟨(ho _).trans O.o0,(ho _).trans O.o1,(ho _).trans O.o2,(ho _).trans O.o3,(ho _).trans O.o4,(ho _).trans O.o5,(ho _).trans O.o6,(ho _).trans O.o7⟩⟩
def Cl.p7{w:World}{g tb ob:Nat}(h:Cl.Base w g tb ob)(ht:w.cell? ⟨tb,3,none⟩=some (.pointer none))(k:Nat):
  Calls Tryz.prog 353 #[.pointer (some ⟨g,0,none⟩), .string ⟨#[13,10]⟩, .string ⟨#[10]⟩, .int .i64 8, .pointer (some ⟨g,0,none⟩)] (w.drewN k) λe w'=>e= .returned (.tuple #[])/\
   Cl.Fr w w' [(tb,3)]/\w'.cell? ⟨tb,3,none⟩=some (.pointer (some ⟨w.heap.size,0,none⟩))/\Cl.ms w' w.heap.size ⟨#[]⟩ 0 ⟨#[10]⟩ (.pointer (some ⟨w.heap.size+1,0,none⟩))/\Cl.ms w' (w.heap.size+1) ⟨#[10]⟩ 8 ⟨#[]⟩ (.pointer none):=by
 have l2:=h.l2;refine(Cl.o9 g tb 3 ⟨#[13,10]⟩ ⟨#[10]⟩ (by decide) 8 (w.drewN k) (by omega) (by decide+kernel) (by decide+kernel) h.p2 h.p4 (h.pm 13 (by omega)) (λe=>by injection e;omega) ht (h.ft 3 (by omega))).mono ?_;rintro e w' ⟨rfl,nq,k2,rfl⟩;have hx:((⟨#[13,10]⟩:ByteArray).extract 1 (⟨#[13,10]⟩:ByteArray).size)=⟨#[10]⟩:=by decide+kernel
 rw[hx];obtain⟨f,c,n1,n2⟩:=Cl.pr (w.drewN k) tb 3 ⟨#[10]⟩ ⟨#[10]⟩ 8 ht nq k2;exact⟨rfl,(Cl.Fr.drewN w k).trans f,c,n1,n2⟩
def Cl.p6{w:World}{g tb ob nb nd:Nat}(h:Cl.Base w g tb ob)(ht:w.cell? ⟨tb,3,none⟩=some (.pointer (some ⟨nb,0,none⟩)))(hn:Cl.ms w nb ⟨#[]⟩ 0 ⟨#[10]⟩ (.pointer (some ⟨nd,0,none⟩)))(k:Nat):
  Calls Tryz.prog 353 #[.pointer (some ⟨g,0,none⟩), .string ⟨#[13]⟩, .string ⟨#[10]⟩, .int .i64 6, .pointer (some ⟨g,0,none⟩)] (w.drewN k) λe w'=>e= .returned (.tuple #[])/\
   Cl.Fr w w' [(nb,0),(nb,1)]/\Cl.ms w' nb ⟨#[10]⟩ 6 ⟨#[10]⟩ (.pointer (some ⟨nd,0,none⟩)):=by
 refine(Cl.pc g tb nb 3 ⟨#[13]⟩ ⟨#[10]⟩ ⟨#[]⟩ (by decide) 6 (w.drewN k) (by omega) (by decide+kernel) (by decide+kernel) h.p2 h.p4 (h.pm 13 (by omega)) ht hn.c0 hn.c1 hn.f0 hn.f1).mono ?_;rintro e w' ⟨rfl,k2,rfl⟩;refine⟨rfl,((Cl.Fr.drewN w k).trans (Cl.Fr.drewN _ k2)).trans ((Cl.Fr.set _ nb 0 _).trans (Cl.Fr.set _ nb 1 _)),?_⟩;exact(Cl.ms.set0 (w:=(w.drewN k).drewN k2) ⟨hn.c0,hn.c1,hn.c2,hn.c3,hn.c4,hn.f0,hn.f1⟩ _).set1 _
def Cl.p0{w:World}{g tb ob:Nat}(h:Cl.Base w g tb ob)(ht:w.cell? ⟨tb,2,none⟩=some (.pointer none))(k:Nat):
  Calls Tryz.prog 353 #[.pointer (some ⟨g,0,none⟩), .string ⟨#[12]⟩, .string ⟨#[10]⟩, .int .i64 4, .pointer (some ⟨g,0,none⟩)] (w.drewN k) λe w'=>e= .returned (.tuple #[])/\
   Cl.Fr w w' [(tb,2)]/\w'.cell? ⟨tb,2,none⟩=some (.pointer (some ⟨w.heap.size,0,none⟩))/\Cl.ms w' w.heap.size ⟨#[10]⟩ 4 ⟨#[]⟩ (.pointer none):=by
 have l2:=h.l2;refine(Cl.nw g tb 2 ⟨#[12]⟩ ⟨#[10]⟩ (by decide) 4 (w.drewN k) (by omega) (by decide+kernel) (by decide+kernel) h.p2 h.p4 (h.pm 12 (by omega)) (λe=>by injection e;omega) ht (h.ft 2 (by omega))).mono ?_;rintro e w' ⟨rfl,nq,k2,rfl⟩;obtain⟨f,c,n1⟩:=Cl.oB (w.drewN k) tb 2 ⟨#[10]⟩ 4 ht nq k2;exact⟨rfl,(Cl.Fr.drewN w k).trans f,c,n1⟩
def Cl.pZ{w:World}{g tb ob:Nat}(h:Cl.Base w g tb ob)(ht:w.cell? ⟨tb,0,none⟩=some (.pointer none))(k:Nat):
  Calls Tryz.prog 353 #[.pointer (some ⟨g,0,none⟩), .string ⟨#[0]⟩, .string ⟨#[239,191,189]⟩, .int .i64 2, .pointer (some ⟨g,0,none⟩)] (w.drewN k) λe w'=>e= .returned (.tuple #[])/\
   Cl.Fr w w' [(tb,0)]/\w'.cell? ⟨tb,0,none⟩=some (.pointer (some ⟨w.heap.size,0,none⟩))/\Cl.ms w' w.heap.size ⟨#[239,191,189]⟩ 2 ⟨#[]⟩ (.pointer none):=by
 have l2:=h.l2;refine(Cl.nw g tb 0 ⟨#[0]⟩ ⟨#[239,191,189]⟩ (by decide) 2 (w.drewN k) (by omega) (by decide+kernel) (by decide+kernel) h.p2 h.p4 (h.pm 0 (by omega)) (λe=>by injection e;omega) ht (h.ft 0 (by omega))).mono ?_;rintro e w' ⟨rfl,nq,k2,rfl⟩;obtain⟨f,c,n1⟩:=Cl.oB (w.drewN k) tb 0 ⟨#[239,191,189]⟩ 2 ht nq k2;exact⟨rfl,(Cl.Fr.drewN w k).trans f,c,n1⟩
def Cl.Fr.none{w w':World}{L:List (Nat×Nat)}(h:Cl.Fr w w' L){v:World}(f:Cl.Fr v w [])(hL: ∀b o,(b,o)∈L->v.heap.size<=b):Cl.Fr v w' []:=
 (f.trans h).wk λb o hm hb=>by have:=hL b o (by simpa using hm);omega
def Cl.St(w:World)(g tb ob:Nat):Nat->World->Prop
 |0,W=>Cl.Base W g tb ob/\Cl.Fr w W []/\w.heap.size<=tb/\W.cell? ⟨tb,0,none⟩=some (.pointer none)/\W.cell? ⟨tb,1,none⟩=some (.pointer none)/\W.cell? ⟨tb,2,none⟩=some (.pointer none)/\W.cell? ⟨tb,3,none⟩=some (.pointer none)
 |1,W=>Cl.Base W g tb ob/\Cl.Fr w W []/\w.heap.size<=tb/\W.cell? ⟨tb,0,none⟩=some (.pointer none)/\W.cell? ⟨tb,1,none⟩=some (.pointer none)/\W.cell? ⟨tb,2,none⟩=some (.pointer none)/\
   ∃c d,tb<c/\tb<d/\c≠d/\W.cell? ⟨tb,3,none⟩=some (.pointer (some ⟨c,0,none⟩))/\Cl.ms W c ⟨#[]⟩ 0 ⟨#[10]⟩ (.pointer (some ⟨d,0,none⟩))/\Cl.ms W d ⟨#[10]⟩ 8 ⟨#[]⟩ (.pointer none)
 |2,W=>Cl.Base W g tb ob/\Cl.Fr w W []/\w.heap.size<=tb/\W.cell? ⟨tb,0,none⟩=some (.pointer none)/\W.cell? ⟨tb,1,none⟩=some (.pointer none)/\W.cell? ⟨tb,2,none⟩=some (.pointer none)/\
   ∃c d,tb<c/\tb<d/\W.cell? ⟨tb,3,none⟩=some (.pointer (some ⟨c,0,none⟩))/\Cl.ms W c ⟨#[10]⟩ 6 ⟨#[10]⟩ (.pointer (some ⟨d,0,none⟩))/\Cl.ms W d ⟨#[10]⟩ 8 ⟨#[]⟩ (.pointer none)
 |3,W=>Cl.Base W g tb ob/\Cl.Fr w W []/\w.heap.size<=tb/\W.cell? ⟨tb,0,none⟩=some (.pointer none)/\W.cell? ⟨tb,1,none⟩=some (.pointer none)/\
   ∃b c d,tb<b/\tb<c/\tb<d/\W.cell? ⟨tb,2,none⟩=some (.pointer (some ⟨b,0,none⟩))/\Cl.ms W b ⟨#[10]⟩ 4 ⟨#[]⟩ (.pointer none)/\
    W.cell? ⟨tb,3,none⟩=some (.pointer (some ⟨c,0,none⟩))/\Cl.ms W c ⟨#[10]⟩ 6 ⟨#[10]⟩ (.pointer (some ⟨d,0,none⟩))/\Cl.ms W d ⟨#[10]⟩ 8 ⟨#[]⟩ (.pointer none)
 |4,W=>Cl.Old W ob/\Cl.Fr w W []/\ ∃a b c d,Cl.TW W g tb a b c d
 |_,_=>False
def Cl.st0{w W:World}{g tb ob:Nat}(h:Cl.St w g tb ob 0 W)(k:Nat):
  Calls Tryz.prog 353 #[.pointer (some ⟨g,0,none⟩), .string ⟨#[13,10]⟩, .string ⟨#[10]⟩, .int .i64 8, .pointer (some ⟨g,0,none⟩)] (W.drewN k) λe w'=>e= .returned (.tuple #[])/\Cl.St w g tb ob 1 w':=by
 obtain⟨hB,hF,hs,t0,t1,t2,t3⟩:=h;refine(Cl.p7 hB t3 k).mono ?_;rintro e w' ⟨rfl,F,c3,n1,n2⟩;have lt:=hB.lt;have e: ∀o,o≠3->w'.cell? ⟨tb,o,none⟩=W.cell? ⟨tb,o,none⟩:=λo ho=>F.cell tb o lt (by simp[ho]);exact⟨rfl,hB.keep F (by simp),F.none hF (by simp;omega),hs,(e 0 (by omega)).trans t0,(e 1 (by omega)).trans t1,(e 2 (by omega)).trans t2,_,_,lt,by omega,by omega,c3,n1,n2⟩
def Cl.st1{w W:World}{g tb ob:Nat}(h:Cl.St w g tb ob 1 W)(k:Nat):
  Calls Tryz.prog 353 #[.pointer (some ⟨g,0,none⟩), .string ⟨#[13]⟩, .string ⟨#[10]⟩, .int .i64 6, .pointer (some ⟨g,0,none⟩)] (W.drewN k) λe w'=>e= .returned (.tuple #[])/\Cl.St w g tb ob 2 w':=by
 obtain⟨hB,hF,hs,t0,t1,t2,c,d,lc,ld,cd,t3,n1,n2⟩:=h;refine(Cl.p6 hB t3 n1 k).mono ?_;rintro e w' ⟨rfl,F,n3⟩;have lt:=hB.lt;have e: ∀o,w'.cell? ⟨tb,o,none⟩=W.cell? ⟨tb,o,none⟩:=λo=>F.cell tb o lt (by simp;omega);have hL: ∀b o,(b,o)∈[(c,0),(c,1)]->tb<b:=by simp;omega
 exact⟨rfl,hB.keep F λb o hm=>by have:=hL b o hm;omega,F.none hF λb o hm=>by have:=hL b o hm;omega,hs,(e 0).trans t0,(e 1).trans t1,(e 2).trans t2,c,d,lc,ld,(e 3).trans t3,n3,n2.keep F (by simp;omega)⟩
def Cl.st2{w W:World}{g tb ob:Nat}(h:Cl.St w g tb ob 2 W)(k:Nat):
  Calls Tryz.prog 353 #[.pointer (some ⟨g,0,none⟩), .string ⟨#[12]⟩, .string ⟨#[10]⟩, .int .i64 4, .pointer (some ⟨g,0,none⟩)] (W.drewN k) λe w'=>e= .returned (.tuple #[])/\Cl.St w g tb ob 3 w':=by
 obtain⟨hB,hF,hs,t0,t1,t2,c,d,lc,ld,t3,n1,n2⟩:=h;refine(Cl.p0 hB t2 k).mono ?_;rintro e w' ⟨rfl,F,c2,n3⟩;have lt:=hB.lt;have e: ∀o,o≠2->w'.cell? ⟨tb,o,none⟩=W.cell? ⟨tb,o,none⟩:=λo ho=>F.cell tb o lt (by simp[ho]);exact⟨rfl,hB.keep F (by simp),F.none hF (by simp;omega),hs,(e 0 (by omega)).trans t0,(e 1 (by omega)).trans t1,_,c,d,lt,lc,ld,c2,n3,(e 3 (by omega)).trans t3,n1.keep F (by simp;omega),n2.keep F (by simp;omega)⟩
def Cl.st3{w W:World}{g tb ob:Nat}(h:Cl.St w g tb ob 3 W)(k:Nat):
  Calls Tryz.prog 353 #[.pointer (some ⟨g,0,none⟩), .string ⟨#[0]⟩, .string ⟨#[239,191,189]⟩, .int .i64 2, .pointer (some ⟨g,0,none⟩)] (W.drewN k) λe w'=>e= .returned (.tuple #[])/\Cl.St w g tb ob 4 w':=by
 obtain⟨hB,hF,hs,t0,t1,b,c,d,lb,lc,ld,t2,n0,t3,n1,n2⟩:=h;refine(Cl.pZ hB t0 k).mono ?_;rintro e w' ⟨rfl,F,c0,na⟩;have lt:=hB.lt;have e: ∀o,o≠0->w'.cell? ⟨tb,o,none⟩=W.cell? ⟨tb,o,none⟩:=λo ho=>F.cell tb o lt (by simp[ho]);have B:=hB.keep F (by simp);have nb:=n0.keep F (by simp;omega);have nc:=n1.keep F (by simp;omega);have nd:=n2.keep F (by simp;omega);exact⟨rfl,B.old,F.none hF (by simp;omega),_,b,c,d,⟨B.p1,B.p4,B.p5,B.pm,c0,(e 1 (by omega)).trans t1,(e 2 (by omega)).trans t2,(e 3 (by omega)).trans t3,na.c0,na.c1,na.c2,na.c4,nb.c0,nb.c1,nb.c2,nb.c4,nc.c0,nc.c1,nc.c2,nc.c3,nc.c4,nd.c0,nd.c1,nd.c2,nd.c4⟩⟩
def Cl.St.gr{w W:World}{g tb ob:Nat}(h:Cl.St w g tb ob 4 W):Cl.Gr w W:=⟨h.2.1.os,h.2.1.tape,h.2.1.output,h.2.1.size,λb hb=>h.2.1.blk b hb (by simp)⟩
end Go.Proofs
