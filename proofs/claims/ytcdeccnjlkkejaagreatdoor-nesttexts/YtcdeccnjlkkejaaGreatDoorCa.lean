/- Look-ups in a trie. -/
import Derived.Test.YtcdeccnjlkkejaaGreatDoorProg
import Derived.WalkKit
import Derived.Handy
import Derived.Lib.Strings
import Derived.Lib.Walk
import Derived.Lib.Bytealg
import Derived.Laws.Cover3
import Derived.Deep.QuietTactic
import Derived.BigQuiet
import Derived.Test.YtcdeccnjlkkejaaGreatDoorLb
import Derived.KernelRfl
import Derived.Test.YtcdeccnjlkkejaaGreatDoorLf
import Derived.Stop.Asserts
import Derived.Lib.Hide
import Derived.Deep.RegionWith
set_option linter.unusedSimpArgs false
set_option linter.unusedVariables false
namespace Go.Proofs
set_option maxRecDepth 100000
set_option maxHeartbeats 2000000
theorem Cl.ne1{s:ByteArray}(a:0<s.size):s.toList.isEmpty=false:=by
 have:s.toList.length=s.size:=by rw[Lib.toList_data];rfl
 grind
theorem Cl.ne2{s:ByteArray}(a:0<s.size):(s.toList==[])=false:=by
 have:=Cl.ne1 a
 grind
theorem Cl.look_nil (g:Nat) (w:World)
  (a:w.cell? ⟨g,1,none⟩=some (.int .i64 0)):
  Calls Tryz.prog 306 #[.pointer (some ⟨g,0,none⟩), .string ⟨#[]⟩, .bool false] w fun e w'=>e= .returned (.tuple #[.string ⟨#[]⟩, .int .i64 0, .bool false])/\ ∃n,w'=w.drewN n:=by
 go_enter Tryz.func306,Tryz.ntmps306
 go_wp2
 go_rounds 1
 go_ret3;exact⟨rfl,0,rfl⟩
theorem Cl.look_leaf (g tb a k:Nat) (p:Int) (j:decide (p>0)=true) (v:ByteArray) (f:k<4) (s:ByteArray) (b:0<s.size) (w:World)
  (l:w.cell? ⟨g,1,none⟩=some (.int .i64 0)) (q:w.cell? ⟨g,4,none⟩=some (.slice (some ⟨tb,0,none⟩) 4 4)) (h:w.cell? ⟨g,5,none⟩=some (.int .i64 4))
  (i:w.cell? ⟨g,6+s[0].toNat,none⟩=some (.int .u8 k)) (o:w.cell? ⟨tb,k,none⟩=some (.pointer (some ⟨a,0,none⟩)))
  (u:w.cell? ⟨a,0,none⟩=some (.string v)) (d:w.cell? ⟨a,1,none⟩=some (.int .i64 p)) (t:w.cell? ⟨a,2,none⟩=some (.string ⟨#[]⟩)) (m:w.cell? ⟨a,4,none⟩=some (.slice none 0 0)):
  Calls Tryz.prog 306 #[.pointer (some ⟨g,0,none⟩), .string s, .bool false] w fun e w'=>e= .returned (.tuple #[.string v, .int .i64 1, .bool true])/\ ∃n,w'=w.drewN n:=by
 have x:=Cl.ne1 b;have c:=Cl.ne2 b;have r:(s[0].toNat:Int)<256:=by have:=s[0].toNat_lt;omega
 go_enter Tryz.func306,Tryz.ntmps306
 go_wp2
 go_rounds 3
 go_quiet (fail)
 go_wp2
 rw[rounds_succ]
 go_wp2
 all_goals (go_ret3;exact⟨rfl,_,rfl⟩)
theorem Cl.look_hit (g tb a b k:Nat) (B:k<4) (v u:ByteArray) (c:UInt8) (s:ByteArray) (d:0<s.size) (w:World)
  (C:w.cell? ⟨g,1,none⟩=some (.int .i64 0)) (F:w.cell? ⟨g,4,none⟩=some (.slice (some ⟨tb,0,none⟩) 4 4)) (h:w.cell? ⟨g,5,none⟩=some (.int .i64 4))
  (E:w.cell? ⟨g,6+s[0].toNat,none⟩=some (.int .u8 k)) (m:w.cell? ⟨tb,k,none⟩=some (.pointer (some ⟨a,0,none⟩)))
  (a0:w.cell? ⟨a,0,none⟩=some (.string v)) (i:w.cell? ⟨a,1,none⟩=some (.int .i64 6)) (j:w.cell? ⟨a,2,none⟩=some (.string ⟨#[c]⟩)) (D:w.cell? ⟨a,3,none⟩=some (.pointer (some ⟨b,0,none⟩))) (y:w.cell? ⟨a,4,none⟩=some (.slice none 0 0))
  (p:w.cell? ⟨b,0,none⟩=some (.string u)) (r:w.cell? ⟨b,1,none⟩=some (.int .i64 8)) (t:w.cell? ⟨b,2,none⟩=some (.string ⟨#[]⟩)) (o:w.cell? ⟨b,4,none⟩=some (.slice none 0 0))
  (x:(s.extract 1 s.size).toList.isEmpty=false) (A:(1:Int)<=((s.size - 1:Nat):Int)) (l:(((s.extract 1 s.size).extract 0 1).toList==[c])=true):
  Calls Tryz.prog 306 #[.pointer (some ⟨g,0,none⟩), .string s, .bool false] w fun e w'=>e= .returned (.tuple #[.string u, .int .i64 2, .bool true])/\ ∃n,w'=w.drewN n:=by
 have q:=Cl.ne1 d;have f:=Cl.ne2 d;have z:(s[0].toNat:Int)<256:=by have:=s[0].toNat_lt;omega
 go_enter Tryz.func306,Tryz.ntmps306
 go_wp2
 go_rounds 3
 go_quiet (fail)
 go_wp2
 rw[rounds_succ]
 go_wp2
 rw[rounds_succ]
 go_wp2
 all_goals (go_ret3;exact⟨rfl,_,rfl⟩)
theorem Cl.look_off (g tb a b k:Nat) (B:k<4) (v u:ByteArray) (c:UInt8) (s:ByteArray) (d:0<s.size) (w:World)
  (C:w.cell? ⟨g,1,none⟩=some (.int .i64 0)) (F:w.cell? ⟨g,4,none⟩=some (.slice (some ⟨tb,0,none⟩) 4 4)) (h:w.cell? ⟨g,5,none⟩=some (.int .i64 4))
  (E:w.cell? ⟨g,6+s[0].toNat,none⟩=some (.int .u8 k)) (m:w.cell? ⟨tb,k,none⟩=some (.pointer (some ⟨a,0,none⟩)))
  (a0:w.cell? ⟨a,0,none⟩=some (.string v)) (i:w.cell? ⟨a,1,none⟩=some (.int .i64 6)) (j:w.cell? ⟨a,2,none⟩=some (.string ⟨#[c]⟩)) (D:w.cell? ⟨a,3,none⟩=some (.pointer (some ⟨b,0,none⟩))) (y:w.cell? ⟨a,4,none⟩=some (.slice none 0 0))
  (p:w.cell? ⟨b,0,none⟩=some (.string u)) (r:w.cell? ⟨b,1,none⟩=some (.int .i64 8)) (t:w.cell? ⟨b,2,none⟩=some (.string ⟨#[]⟩)) (o:w.cell? ⟨b,4,none⟩=some (.slice none 0 0))
  (x:(s.extract 1 s.size).toList.isEmpty=false) (A:(1:Int)<=((s.size - 1:Nat):Int)) (l:(((s.extract 1 s.size).extract 0 1).toList==[c])=false):
  Calls Tryz.prog 306 #[.pointer (some ⟨g,0,none⟩), .string s, .bool false] w fun e w'=>e= .returned (.tuple #[.string v, .int .i64 1, .bool true])/\ ∃n,w'=w.drewN n:=by
 have q:=Cl.ne1 d;have f:=Cl.ne2 d;have z:(s[0].toNat:Int)<256:=by have:=s[0].toNat_lt;omega
 go_enter Tryz.func306,Tryz.ntmps306
 go_wp2
 go_rounds 3
 go_quiet (fail)
 go_wp2
 rw[rounds_succ]
 go_wp2
 all_goals (go_ret3;exact⟨rfl,_,rfl⟩)
theorem Cl.look_last (g tb a b k:Nat) (z:k<4) (v u:ByteArray) (c:UInt8) (s:ByteArray) (d:0<s.size) (w:World)
  (A:w.cell? ⟨g,1,none⟩=some (.int .i64 0)) (D:w.cell? ⟨g,4,none⟩=some (.slice (some ⟨tb,0,none⟩) 4 4)) (h:w.cell? ⟨g,5,none⟩=some (.int .i64 4))
  (C:w.cell? ⟨g,6+s[0].toNat,none⟩=some (.int .u8 k)) (l:w.cell? ⟨tb,k,none⟩=some (.pointer (some ⟨a,0,none⟩)))
  (a0:w.cell? ⟨a,0,none⟩=some (.string v)) (i:w.cell? ⟨a,1,none⟩=some (.int .i64 6)) (j:w.cell? ⟨a,2,none⟩=some (.string ⟨#[c]⟩)) (B:w.cell? ⟨a,3,none⟩=some (.pointer (some ⟨b,0,none⟩))) (x:w.cell? ⟨a,4,none⟩=some (.slice none 0 0))
  (o:w.cell? ⟨b,0,none⟩=some (.string u)) (q:w.cell? ⟨b,1,none⟩=some (.int .i64 8)) (r:w.cell? ⟨b,2,none⟩=some (.string ⟨#[]⟩)) (m:w.cell? ⟨b,4,none⟩=some (.slice none 0 0))
  (t:(s.extract 1 s.size).toList.isEmpty=true):
  Calls Tryz.prog 306 #[.pointer (some ⟨g,0,none⟩), .string s, .bool false] w fun e w'=>e= .returned (.tuple #[.string v, .int .i64 1, .bool true])/\ ∃n,w'=w.drewN n:=by
 have p:=Cl.ne1 d;have f:=Cl.ne2 d;have y:(s[0].toNat:Int)<256:=by have:=s[0].toNat_lt;omega
 go_enter Tryz.func306,Tryz.ntmps306
 go_wp2
 go_rounds 3
 go_quiet (fail)
 go_wp2
 rw[rounds_succ]
 go_wp2
 all_goals (go_ret3;exact⟨rfl,_,rfl⟩)
open Go.Lv
theorem Cl.append_run {P:Program} {w:World} {ops:Array Oper} {rest:List Oper} {o:Oper} {a:Act} {Q:Exit->Act->World->Prop} (b:o.guard=none) (s x:Operand) (t u:TypeId)
  (g:o.op= .call {callee:= .builtin .append,args:= #[s,x],argTypes:= #[t,u]}) {vs vx v:Value} {w':World} (f:a.eval s=vs) (d:a.eval x=vx) (c:(Builtin.append_ #[t,u] o.type #[vs,vx]).run P w= .ok v w')
  (h:wpList P ops Q rest (a.put o.dst v) w'):wpList P ops Q (o::rest) a w:=
 wpList_plain b fun K e=>by unfold Oper.wp execOp;simp only[g,resolve,invoke,builtin,Sem.run_bind,Sem.run_pure,Result.andThen_ok,List.map_toArray,ja,Oc,f,d,c];exact e _ _ h
def Cl.Buf(ι:Asg)(get:Get)(w:World)(a id:Nat)(l:List UInt8):Prop:=
 Rel ι get w/\0<id/\(∀j,id<j->ι j= .free)/\ι 0= .live (some a) 1/\get 0=some ⟨306,1,[[.osl id 0 l.length]],none⟩/\get id=some ⟨5,1,l.map fun b=>[bf b],none⟩
theorem Cl.kd290:kdOf Tryz.prog 306= .sl 5:=by kernel_rfl
theorem Cl.kd9:kdOf Tryz.prog 9= .str:=by kernel_rfl
theorem Cl.kd5:kdOf Tryz.prog 5= .int .u8:=by kernel_rfl
theorem Cl.sz5:Tryz.prog.cellsOf 5=1:=by kernel_rfl
theorem Cl.by5:(ti Tryz.prog 5).by_=1:=by kernel_rfl
theorem Cl.zok5:(ti Tryz.prog 5).zok=true:=by kernel_rfl
theorem Cl.inf290:(Tryz.prog.info? 306).map (·.size)=some 1:=by kernel_rfl
theorem Cl.sz290:(ti Tryz.prog 306).sz=1:=by kernel_rfl
theorem Cl.kdt290:(ti Tryz.prog 306).kd≠ .bad:=by rw[show(ti Tryz.prog 306).kd= .sl 5 from Cl.kd290];simp
theorem Cl.write_walk (b:Nat) (t:ByteArray) (w d:World) (a i:Option Addr) (n c g h:Nat) (l:w.cell? ⟨b,0,none⟩=some (.slice a n c)) (f:(Builtin.append_ #[306,9] 306 #[.slice a n c, .string t]).run Tryz.prog w= .ok (.slice i g h) d)
  (u:Value) (j:d.cell? ⟨b,0,none⟩=some u) (k:d.frozen? ⟨b,0,none⟩=false):
  Calls Tryz.prog 316 #[.pointer (some ⟨b,0,none⟩), .string t] w fun e w'=>e= .returned (.tuple #[.int .i64 t.size, .nilIface])/\w'=d.setCell ⟨b,0,none⟩ (.slice i g h):=by
 go_enter Tryz.func316,Tryz.ntmps316
 go_wp2_with (at_builtin;refine Cl.append_run rfl _ _ _ _ rfl (by rfl) (by rfl) f ?_)
 go_ret2;simp_all
theorem Cl.write{ι:Asg}{get:Get}{w:World}{g id:Nat}{l:List UInt8}(t:ByteArray)(h:Cl.Buf ι get w g id l)(hl:l.length+t.size<=140737488355328):
  Calls Tryz.prog 316 #[.pointer (some ⟨g,0,none⟩), .string t] w fun e w'=>e= .returned (.tuple #[.int .i64 t.size, .nilIface])/\ ∃R get',Cl.Buf R get' w' g (id+1) (l++t.data.toList)/\Stp ι w R w':=by
 obtain⟨S,h0,hf,hp,g0,W⟩:=h;obtain⟨b,ad,fr,C,hh,a8,_,_,ab,hc,_⟩:=kw S g0 (row:=0) rfl;rw[hp]at C;injection C with C _;injection C with C;subst C;obtain⟨v,Y,X,J⟩:=hc 0 (.osl id 0 l.length) rfl;have y:w.cell? ⟨g,0,none⟩=some v:=by rw[cell_of hh];exact Y
 have Z:t.data.toList.length=t.size:=rfl;have G:(z8 Tryz.prog get (id+1) 306 9 (.c (.osl id 0 l.length)) (.c (.p (.str t.data.toList)))).pre:=by
  simp only[z8,Cl.kd290,rowsOf,W];refine⟨Cl.sz5.symm,trivial,by simp,by rw[Cl.sz5];omega,fun row hr=> ?_,?_,?_,⟨Cl.kd5,Cl.kd9⟩,by rw[Cl.kd9];trivial,Cl.zok5⟩
  ·obtain⟨x,_,rfl⟩:=Ka.1 hr;rw[Cl.sz5];rfl
  ·rw[Cl.by5,Xa,Z];omega
  ·grind
 obtain⟨v',A,a2,a1,F,p1,s1,f1⟩:=kD (P:=Tryz.prog) (ts:=306) (tx:=9) (ty:=306) (nx:=id+1) S (hf _ (by omega)) (s:= .c (.osl id 0 l.length)) (x:= .c (.p (.str t.data.toList))) (vs:=v) (vx:= .string t) ⟨X,J⟩ (Cr t.data.toList) G;simp only[z8,Cl.kd290,rowsOf,W,Xa,Cl.sz5]at F p1;have a4:(0:Nat)≠id:=by omega
 have N:(0:Nat)≠id+1:=by omega
 have o:upd get [(id,none),(id+1,some (⟨5,1,List.take l.length (List.map (fun b=>[bf b]) l)++List.map (fun b=>[bf b]) t.data.toList,none⟩:OB))] 0=some ⟨306,1,[[.osl id 0 l.length]],none⟩:=by simp only[upd,Ga a4,Ga N,g0]
 obtain⟨b1,a9,_⟩:=F.live 0 _ o;have q:a1 0= .live (some g) 1:=by
  rcases s1.slots 0 (by rw[hp];simp)with e|e
  ·rw[e,hp]
  ·grind
 have u:(Qs (ti Tryz.prog 306) (upd get [(id,none),(id+1,some (⟨5,1,List.take l.length (List.map (fun b=>[bf b]) l)++List.map (fun b=>[bf b]) t.data.toList,none⟩:OB))]) (.c (.optr 0 0 0)) (.c (.osl (id+1) 0 (l.length+t.data.toList.length)))).pre:=by simp only[Qs,o,Hd];exact⟨by rw[Cl.sz290];rfl,by rw[Cl.sz290];simp,Cl.kdt290⟩
 obtain⟨w2,ae,T,r2,_,s2,f2⟩:=wQ (P:=Tryz.prog) (t:=306) (nx:=id+2) (va:= .pointer (some ⟨g,0,none⟩)) (vx:=v') F (a:= .c (.optr 0 0 0)) (x:= .c (.osl (id+1) 0 (l.length+t.data.toList.length)))
  ⟨rfl,by rw[q];simp,fun b k e=>by grind⟩ p1 u
 obtain⟨B,D,E,rfl⟩: ∃B D E,v'= .slice B D E:=by
  obtain⟨b3,r,_⟩:=F.live (id+1) ⟨5,1,List.take l.length (List.map (fun b=>[bf b]) l)++List.map (fun b=>[bf b]) t.data.toList,none⟩ (by
   have i:id+1≠id:=by omega
   simp only[upd,Ga i,yc])
  rcases p1.2.2 _ _ r with⟨_,_,rfl⟩|⟨_,_,_,_,_,_,rfl,_⟩<;>exact⟨_,_,_,rfl⟩
 obtain⟨a,n,c,rfl⟩: ∃a n c,v= .slice a n c:=by obtain⟨b3,r,_⟩:=S.live id _ W;rcases J.2 _ _ r with⟨_,_,rfl⟩|⟨_,_,_,_,_,_,rfl,_⟩<;>exact⟨_,_,_,rfl⟩
 obtain⟨bq,a6,a3,f,Q,H,_,_,a7,a0,_⟩:=kw F o (row:=0) rfl;rw[q]at f;injection f with f _;injection f with f;subst f;obtain⟨u1,K,_⟩:=a0 0 _ rfl;have d:A.cell? ⟨g,0,none⟩=some u1:=by rw[cell_of Q];exact K
 have m:A.frozen? ⟨g,0,none⟩=false:=by
  have U:=(Xe.1 K).1;have:=H.out 0 (by simpa using U);simp only[World.frozen?,Q];simp only[Bool.and_eq_false_iff,decide_eq_false_iff_not];by_cases h:a3.1<=0
  ·grind
  ·exact .inl h
 obtain⟨aa,M,z⟩:=Yb.1 Cl.inf290;have a5:(Instr.storeAt 306 (.pointer (some ⟨g,0,none⟩)) (.slice B D E)).run Tryz.prog A= .ok () (A.setCell ⟨g,0,none⟩ (.slice B D E)):=by simp[Instr.storeAt,storeVar,Instr.sureAddr,Value.cells,sizeOf,typeInfo,M,z,storeCells,d,m,go_sem]
 obtain rfl:w2=A.setCell ⟨g,0,none⟩ (.slice B D E):=by grind
 refine(Cl.write_walk g t w A a B n c D E y a2 u1 d m).mono fun e w' ⟨h1,h2⟩=>⟨h1,?_⟩;subst h2;have V:(Qs (ti Tryz.prog 306) (upd get [(id,none),(id+1,some (⟨5,1,List.take l.length (List.map (fun b=>[bf b]) l)++List.map (fun b=>[bf b]) t.data.toList,none⟩:OB))]) (.c (.optr 0 0 0)) (.c (.osl (id+1) 0 (l.length+t.data.toList.length)))).up=[(0,some ⟨306,1,[[.osl (id+1) 0 (l.length+t.data.toList.length)]],none⟩)]:=by simp only[Qs,o,Hd,Cl.sz290];rfl
 rw[V]at r2;have O:id+1≠0:=by omega
 have i:id+1≠id:=by omega
 refine⟨T,_,⟨r2,by omega,fun j hj=>f2 j (f1 j (hf j (by omega)) (by omega)) (by omega),?_,?_,?_⟩,s1.trans s2⟩
 ·rcases s2.slots 0 (by rw[q];simp)with e|e
  ·rw[e,q]
  ·obtain⟨b2,L,_⟩:=r2.live 0 ⟨306,1,[[.osl (id+1) 0 (l.length+t.data.toList.length)]],none⟩ (by simp only[upd,yc]);rw[e]at L;cases L
 ·simp only[upd,yc,Ia]
 ·simp only[upd,Ga O,Ga i,yc,ic];rw[Od (by simp)]
set_option maxHeartbeats 4000000
theorem Cl.na(a:Nat)(w:World):(nilAhead 418 307 (.pointer (some ⟨a,0,none⟩)) "WriteString").run Tryz.prog w= .ok (some false) w:=by kernel_rfl
theorem Cl.isSW(v:Value)(w:World):(Instr.typeAssert (.iface 307 v) 309 311 true).run Tryz.prog w= .ok (.tuple #[.iface 307 v, .bool true]) w:=run_typeAssert_hasB Tryz.underlying311 (by kernel_rfl) v 309 w
theorem Cl.getsw(a:Nat)(w:World):
  Calls Tryz.prog 305 #[.iface 307 (.pointer (some ⟨a,0,none⟩))] w fun e w'=>e= .returned (.iface 307 (.pointer (some ⟨a,0,none⟩)))/\w=w':=by
 have H:=Cl.isSW (.pointer (some ⟨a,0,none⟩)) w;go_enter Tryz.func305,Tryz.ntmps305
 go_wp2
 go_ret;simp_all
def Cl.iOf:Value->Int
 | .int _ n=>n
 |_=>0
def Cl.mp(k:Nat):Nat:=if k=0 then 0 else if k=10 then 1 else if k=12 then 2 else if k=13 then 3 else 4
structure Cl.TW (w:World) (g tb a b c d:Nat):Prop where
 p1:w.cell? ⟨g,1,none⟩=some (.int .i64 0)
 p4:w.cell? ⟨g,4,none⟩=some (.slice (some ⟨tb,0,none⟩) 4 4)
 p5:w.cell? ⟨g,5,none⟩=some (.int .i64 4)
 pm: ∀k:Nat,k<256->w.cell? ⟨g,6+k,none⟩=some (.int .u8 (Cl.mp k))
 t0:w.cell? ⟨tb,0,none⟩=some (.pointer (some ⟨a,0,none⟩))
 t1:w.cell? ⟨tb,1,none⟩=some (.pointer none)
 t2:w.cell? ⟨tb,2,none⟩=some (.pointer (some ⟨b,0,none⟩))
 t3:w.cell? ⟨tb,3,none⟩=some (.pointer (some ⟨c,0,none⟩))
 a0:w.cell? ⟨a,0,none⟩=some (.string ⟨#[239,191,189]⟩)
 a1:w.cell? ⟨a,1,none⟩=some (.int .i64 2)
 a2:w.cell? ⟨a,2,none⟩=some (.string ⟨#[]⟩)
 a4:w.cell? ⟨a,4,none⟩=some (.slice none 0 0)
 b0:w.cell? ⟨b,0,none⟩=some (.string ⟨#[10]⟩)
 b1:w.cell? ⟨b,1,none⟩=some (.int .i64 4)
 b2:w.cell? ⟨b,2,none⟩=some (.string ⟨#[]⟩)
 b4:w.cell? ⟨b,4,none⟩=some (.slice none 0 0)
 c0:w.cell? ⟨c,0,none⟩=some (.string ⟨#[10]⟩)
 c1:w.cell? ⟨c,1,none⟩=some (.int .i64 6)
 c2:w.cell? ⟨c,2,none⟩=some (.string ⟨#[10]⟩)
 c3:w.cell? ⟨c,3,none⟩=some (.pointer (some ⟨d,0,none⟩))
 c4:w.cell? ⟨c,4,none⟩=some (.slice none 0 0)
 d0:w.cell? ⟨d,0,none⟩=some (.string ⟨#[10]⟩)
 d1:w.cell? ⟨d,1,none⟩=some (.int .i64 8)
 d2:w.cell? ⟨d,2,none⟩=some (.string ⟨#[]⟩)
 d4:w.cell? ⟨d,4,none⟩=some (.slice none 0 0)
def Cl.Inv(ι:Asg)(w:World)(g:Nat)(s:ByteArray)(i f n d:Value)(W:World):Prop:=
 ∃(k a:Nat) (N:Int) (c:Asg) (b:Get) (e:Nat) (B:List UInt8),k<=s.size+1/\a<=k/\a<=s.size/\i= .int .i64 k/\f= .bool false/\n= .int .i64 N/\d= .int .i64 a/\
  Cl.Buf c b W g e B/\Stp ι w c W/\B++(s.data.toList.take k).drop a++Cl.cleanS (s.data.toList.drop k)=Cl.cleanS s.data.toList/\B.length<=3*a
theorem Cl.TW.keep{w w':World}{g tb a b c d:Nat}(h:Cl.TW w g tb a b c d)(e: ∀x o,x=g\/x=tb\/x=a\/x=b\/x=c\/x=d->w'.cell? ⟨x,o,none⟩=w.cell? ⟨x,o,none⟩):Cl.TW w' g tb a b c d:=by have f:=fun o=>e g o (by simp);have l:=fun o=>e tb o (by simp);have j:=fun o=>e a o (by simp);have m:=fun o=>e b o (by simp);have k:=fun o=>e c o (by simp);have i:=fun o=>e d o (by simp);obtain⟨⟩:=h;constructor<;>(grind)
theorem Cl.TW.drewN{w:World}{g tb a b c d:Nat}(h:Cl.TW w g tb a b c d)(n:Nat):Cl.TW (w.drewN n) g tb a b c d:=h.keep fun _ _ _=>rfl
theorem Cl.ext_size{s:ByteArray}{k:Nat}(h:k<s.size):0<(s.extract k s.size).size:=by simp;omega
theorem Cl.ext_get{s:ByteArray}{k:Nat}(h:k<s.size):(s.extract k s.size)[0]'(Cl.ext_size h)=s[k]:=by
 rw[ByteArray.getElem_extract]
 grind
theorem Cl.look0{w:World}{g tb a b c d:Nat}(h:Cl.TW w g tb a b c d)(s:ByteArray)(k:Nat)(f:k<s.size)(i:s[k].toNat=0):
  Calls Tryz.prog 306 #[.pointer (some ⟨g,0,none⟩), .string (s.extract k s.size), .bool false] w fun e w'=>e= .returned (.tuple #[.string ⟨#[239,191,189]⟩, .int .i64 1, .bool true])/\ ∃n,w'=w.drewN n:=
 Cl.look_leaf g tb a 0 2 (by decide) _ (by decide) _ (Cl.ext_size f) w h.p1 h.p4 h.p5 (by rw[Cl.ext_get f,i];exact h.pm 0 (by decide)) h.t0 h.a0 h.a1 h.a2 h.a4
theorem Cl.look12{w:World}{g tb a b c d:Nat}(h:Cl.TW w g tb a b c d)(s:ByteArray)(k:Nat)(f:k<s.size)(i:s[k].toNat=12):
  Calls Tryz.prog 306 #[.pointer (some ⟨g,0,none⟩), .string (s.extract k s.size), .bool false] w fun e w'=>e= .returned (.tuple #[.string ⟨#[10]⟩, .int .i64 1, .bool true])/\ ∃n,w'=w.drewN n:=
 Cl.look_leaf g tb b 2 4 (by decide) _ (by decide) _ (Cl.ext_size f) w h.p1 h.p4 h.p5 (by rw[Cl.ext_get f,i];exact h.pm 12 (by decide)) h.t2 h.b0 h.b1 h.b2 h.b4
theorem Cl.ext_list(s:ByteArray)(k:Nat):(s.extract k s.size).data.toList=s.data.toList.drop k:=by rw[Lib.extract_eq];have:s.data.toList.length=s.size:=rfl;simp only[List.toList_toArray];exact Od (by grind)
theorem Cl.ext_tail(s:ByteArray)(k:Nat):((s.extract k s.size).extract 1 (s.extract k s.size).size).toList=s.data.toList.drop (k+1):=by rw[Lib.toList_data,Cl.ext_list,Cl.ext_list,We]
theorem Cl.ext_head(s:ByteArray)(k:Nat):(((s.extract k s.size).extract 1 (s.extract k s.size).size).extract 0 1).toList=(s.data.toList.drop (k+1)).take 1:=by have h:=Cl.ext_tail s k;rw[Lib.toList_data]at h;generalize (s.extract k s.size).extract 1 (s.extract k s.size).size=t at h ⊢;rw[Lib.toList_data,Lib.extract_eq,h];simp
theorem Cl.clean_off{r:List UInt8}(h: ∀a,r=10::a->False):Cl.cleanS (13::r)=10::Cl.cleanS r:=by
 rw[Cl.cleanS]
 ·rfl
 grind
theorem Cl.found{w:World}{g tb a b c d:Nat}(h:Cl.TW w g tb a b c d){s:ByteArray}{k:Nat}(hlt:k<s.size)(hm:Cl.mp s[k].toNat≠4)(h10:s[k].toNat≠10):
  ∃(m x:Nat) (val:ByteArray) (j:Nat),m<4/\w.cell? ⟨g,6+s[k].toNat,none⟩=some (.int .u8 m)/\w.cell? ⟨tb,m,none⟩=some (.pointer (some ⟨x,0,none⟩))/\1<=j/\k+j<=s.size/\val.size<=3*j/\
   Cl.cleanS (s.data.toList.drop k)=val.data.toList++Cl.cleanS (s.data.toList.drop (k+j))/\
   ∀n,Calls Tryz.prog 306 #[.pointer (some ⟨g,0,none⟩), .string (s.extract k s.size), .bool false] (w.drewN n) fun e w'=>e= .returned (.tuple #[.string val, .int .i64 j, .bool true])/\ ∃n',w'=(w.drewN n).drewN n':=by
 have hk:k<s.data.toList.length:=hlt;have e:s.data.toList[k]=s[k]:=rfl;by_cases h0:s[k].toNat=0
 ·refine⟨0,a,⟨#[239,191,189]⟩,1,by omega,by rw[h0];exact h.pm 0 (by decide),h.t0,by omega,by omega,by decide,?_,fun n=>Cl.look0 (h.drewN n) s k hlt h0⟩;have:s[k]=0:=Re.1 h0;rw[Jb hk,e,this];rfl
 ·by_cases h12:s[k].toNat=12
  ·refine⟨2,b,⟨#[10]⟩,1,by omega,by rw[h12];exact h.pm 12 (by decide),h.t2,by omega,by omega,by decide,?_,fun n=>Cl.look12 (h.drewN n) s k hlt h12⟩;have:s[k]=12:=Re.1 h12;rw[Jb hk,e,this];rfl
  ·have h13:s[k].toNat=13:=by
    unfold Cl.mp at hm;rw[Ga h0,Ga h10,Ga h12]at hm;by_cases h:s[k].toNat=13
    ·exact h
    ·grind
   have hc:s[k]=13:=Re.1 h13;have hm3: ∀n,(w.drewN n).cell? ⟨g,6+((s.extract k s.size)[0]'(Cl.ext_size hlt)).toNat,none⟩=some (.int .u8 (3:Nat)):=fun n=>by rw[Cl.ext_get hlt,h13];exact h.pm 13 (by decide)
   have hm0:w.cell? ⟨g,6+s[k].toNat,none⟩=some (.int .u8 (3:Nat)):=by rw[h13];exact h.pm 13 (by decide)
   have hsz:(s.extract k s.size).size=s.size - k:=by simp
   by_cases h1:k+1<s.size
   ·have hk1:k+1<s.data.toList.length:=h1;have e2:s.data.toList[k+1]=s[k+1]:=rfl;have hd:s.data.toList.drop k=13::s[k+1]::s.data.toList.drop (k+2):=by rw[Jb hk,e,hc,Jb hk1,e2]
    have hh:(((s.extract k s.size).extract 1 (s.extract k s.size).size).extract 0 1).toList=[s[k+1]]:=by rw[Cl.ext_head,Jb hk1,e2];rfl
    have he:((s.extract k s.size).extract 1 (s.extract k s.size).size).toList.isEmpty=false:=by rw[Cl.ext_tail,Jb hk1];rfl
    have h1i:(1:Int)<=(((s.extract k s.size).size - 1:Nat):Int):=by rw[hsz];omega
    by_cases h2:s[k+1]=10
    ·refine⟨3,c,⟨#[10]⟩,2,by omega,hm0,h.t3,by omega,by omega,by decide,?_,fun n=> ?_⟩
     ·rw[hd,h2];rfl
     ·have h':=h.drewN n;exact Cl.look_hit g tb c d 3 (by decide) _ _ 10 _ (Cl.ext_size hlt) _ h'.p1 h'.p4 h'.p5 (hm3 n) h'.t3 h'.c0 h'.c1 h'.c2 h'.c3 h'.c4 h'.d0 h'.d1 h'.d2 h'.d4 he h1i (by rw[hh,h2];rfl)
    ·refine⟨3,c,⟨#[10]⟩,1,by omega,hm0,h.t3,by omega,by omega,by decide,?_,fun n=> ?_⟩
     ·rw[hd,Cl.clean_off (fun r' hr=>by grind),Jb hk1,e2];rfl
     ·have h':=h.drewN n;refine Cl.look_off g tb c d 3 (by decide) _ ⟨#[10]⟩ 10 _ (Cl.ext_size hlt) _ h'.p1 h'.p4 h'.p5 (hm3 n) h'.t3 h'.c0 h'.c1 h'.c2 h'.c3 h'.c4 h'.d0 h'.d1 h'.d2 h'.d4 he h1i (by grind)
   ·have hd1:s.data.toList.drop (k+1)=[]:=Pe.2 (by simp_all);refine⟨3,c,⟨#[10]⟩,1,by omega,hm0,h.t3,by omega,by omega,by decide,?_,fun n=> ?_⟩
    ·rw[Jb hk,e,hc,hd1];rfl
    ·have h':=h.drewN n;exact Cl.look_last g tb c d 3 (by decide) _ ⟨#[10]⟩ 10 _ (Cl.ext_size hlt) _ h'.p1 h'.p4 h'.p5 (hm3 n) h'.t3 h'.c0 h'.c1 h'.c2 h'.c3 h'.c4 h'.d0 h'.d1 h'.d2 h'.d4 (by rw[Cl.ext_tail,hd1];rfl)
theorem Cl.rel_drewN{ι:Asg}{get:Get}{w:World}(h:Rel ι get w)(n:Nat):Rel ι get (w.drewN n):=by have a:Stp ι w ι (w.drewN n):=⟨rfl,rfl,rfl,Ya _,fun _ _ h=>h,fun _ h=>h,fun _ _=>rfl,fun _ _=> .inl rfl⟩;refine⟨fun id o c=> ?_,h.gone,h.inj,h.glob.step a⟩;obtain⟨b,e,d⟩:=h.live id o c;exact⟨b,e,d.step a (fun _ _=>rfl)⟩
theorem Cl.Buf.drewN{ι:Asg}{get:Get}{w:World}{a id:Nat}{l:List UInt8}(h:Cl.Buf ι get w a id l)(n:Nat):Cl.Buf ι get (w.drewN n) a id l:=
 ⟨Cl.rel_drewN h.1 n,h.2⟩
theorem Cl.stp_drewN{ι a:Asg}{w w':World}(h:Stp ι w a w')(n:Nat):Stp ι w a (w'.drewN n):=
 h.trans ⟨rfl,rfl,rfl,Ya _,fun _ _ h=>h,fun _ h=>h,fun _ _=>rfl,fun _ _=> .inl rfl⟩
theorem Cl.clean_same{c:UInt8}{r:List UInt8}(h:Cl.mp c.toNat=4\/c.toNat=10):Cl.cleanS (c::r)=c::Cl.cleanS r:=by
 have d:c≠0:=by rintro rfl;revert h;decide
 have a:c≠12:=by rintro rfl;revert h;decide
 have b:c≠13:=by rintro rfl;revert h;decide
 have g:(c==0)=false:=Fa.2 d;have e:(c==12)=false:=Fa.2 a;have f:(c==13)=false:=Fa.2 b;rw[Cl.cleanS]
 ·grind
 grind
theorem Cl.step_plain {s:ByteArray} {k a:Nat} {B:List UInt8} (h:k<s.size) (f:a<=k) (d:Cl.mp s[k].toNat=4\/s[k].toNat=10)
  (c:B++(s.data.toList.take k).drop a++Cl.cleanS (s.data.toList.drop k)=Cl.cleanS s.data.toList):B++(s.data.toList.take (k+1)).drop a++Cl.cleanS (s.data.toList.drop (k+1))=Cl.cleanS s.data.toList:=by
 have b:k<s.data.toList.length:=h;have e:s.data.toList[k]=s[k]:=rfl;rw[Jb b,Cl.clean_same (by rw[e];exact d)]at c;rw[<-c,ve b,List.drop_append_of_le_length (by simp;omega)];simp
theorem Cl.step_hit {s val:ByteArray} {k a j:Nat} {B:List UInt8} (h:k+j<=s.size) (b:a<=k) (f:Cl.cleanS (s.data.toList.drop k)=val.data.toList++Cl.cleanS (s.data.toList.drop (k+j)))
  (d:B++(s.data.toList.take k).drop a++Cl.cleanS (s.data.toList.drop k)=Cl.cleanS s.data.toList):
  (B++(s.extract a k).data.toList++val.data.toList)++(s.data.toList.take (k+j)).drop (k+j)++Cl.cleanS (s.data.toList.drop (k+j))=Cl.cleanS s.data.toList:=by
 have c:(s.data.toList.take (k+j)).drop (k+j)=[]:=Pe.2 (by simp;omega);have e:(s.extract a k).data.toList=(s.data.toList.take k).drop a:=by rw[Lib.extract_eq];simp[List.drop_take]
 grind
theorem Cl.look_end(g:Nat)(w:World)(a:w.cell? ⟨g,1,none⟩=some (.int .i64 0)):
  Calls Tryz.prog 306 #[.pointer (some ⟨g,0,none⟩), .string ByteArray.empty, .bool false] w fun e w'=>e= .returned (.tuple #[.string ⟨#[]⟩, .int .i64 0, .bool false])/\ ∃n,w'=w.drewN n:=
 Cl.look_nil g w a
theorem Cl.step_end{s:ByteArray}{a:Nat}{B:List UInt8}(c:B++(s.data.toList.take s.size).drop a++Cl.cleanS (s.data.toList.drop s.size)=Cl.cleanS s.data.toList):
  B++(s.data.toList.take (s.size+1)).drop a++Cl.cleanS (s.data.toList.drop (s.size+1))=Cl.cleanS s.data.toList:=by
 have d:s.data.toList.length=s.size:=rfl;have b:s.data.toList.drop (s.size+1)=[]:=Pe.2 (by omega)
 grind
theorem Cl.last_of{s:ByteArray}{b:Nat}{B:List UInt8}(a:B++(s.data.toList.take (s.size+1)).drop b++Cl.cleanS (s.data.toList.drop (s.size+1))=Cl.cleanS s.data.toList):
  B++s.data.toList.drop b=Cl.cleanS s.data.toList:=by
 have c:s.data.toList.drop (s.size+1)=[]:=Pe.2 (by simp_all);have d:s.data.toList.take (s.size+1)=s.data.toList:=Od (by simp_all);rw[c,d]at a;simpa [Cl.cleanS] using a
theorem Cl.ws{ι:Asg}{get:Get}{id:Nat}(g tb a b c d pb:Nat)(s:ByteArray)(hs:s.size<=4000)(w:World)(hT:Cl.TW w g tb a b c d)(hD: ∀x,x=g\/x=tb\/x=a\/x=b\/x=c\/x=d->Dom ι w x)(hB:Cl.Buf ι get w pb id []):
  Calls Tryz.prog 304 #[.pointer (some ⟨g,0,none⟩), .iface 307 (.pointer (some ⟨pb,0,none⟩)), .string s] w fun e w'=>(∃n:Int,e= .returned (.tuple #[.int .i64 n, .nilIface]))/\ ∃ι' get' id',Cl.Buf ι' get' w' pb id' (Cl.cleanS s.data.toList)/\Stp ι w ι' w':=by
 go_enter Tryz.func304,Tryz.ntmps304
 go_wp2_with (go_at_call 305;refine(Cl.getsw _ _).mono ?_;rintro e w' ⟨rfl,rfl⟩)
 go_loopw [12,11,6,9,7] (fun i pm n last er W=>Cl.Inv ι w pb s i pm n last W/\er= .nilIface) (fun i _ _ _ _ _=>s.size+1 - (Cl.iOf i).toNat)
 case atStart=>exact⟨⟨0,0,0,ι,get,id,[],by omega,by omega,by omega,rfl,rfl,rfl,rfl,hB,Stp.refl _ _,by simp,by simp⟩,rfl⟩
 case round=>
  obtain⟨⟨k,la,N,ι',get',id',B,k1,k2,k3,rfl,rfl,rfl,rfl,hB',hS',hq,hl⟩,rfl⟩:=hrel;have hT':Cl.TW wr g tb a b c d:=hT.keep fun x o hx=>World.cell?_of_block (a:=⟨x,o,none⟩) (hS'.keep x (hD x hx));by_cases hlt:k<s.size
  ·have hb:s[k].toNat<256:=s[k].toNat_lt;have e1:=hT'.p1;have e4:=hT'.p4;have e5:=hT'.p5;have em:=hT'.pm _ hb;by_cases hm:Cl.mp s[k].toNat=4
   ·rw[hm]at em;have HB:=Lib.hid hB';have HS:=Lib.hid hS';have HQ:=Lib.hid hq;have HM:=Lib.hid hm;clear hB' hS' hq hT' hm hB hT;have kk:(k:Int)<=(s.size:Int):=by omega
    have kn:(k:Int)≠(s.size:Int):=by omega
    go_wp2
    go_quiet (fail)
    go_wp2
    refine⟨⟨⟨k+1,la,N,ι',get',id',B,by omega,by omega,k3,rfl,rfl,rfl,rfl,HB.out.drewN nq,Cl.stp_drewN HS.out nq,?_,hl⟩,rfl⟩,by simp[Cl.iOf];omega⟩;exact Cl.step_plain hlt k2 (.inl HM.out) HQ.out
   ·by_cases h10:s[k].toNat=10
    ·have e10:=hT'.t1;rw[h10]at em;have HB:=Lib.hid hB';have HS:=Lib.hid hS';have HQ:=Lib.hid hq;have H10:=Lib.hid h10;have em':wr.cell? ⟨g,6+s[k].toNat,none⟩=some (.int .u8 1):=by rw[h10];exact em
     clear hB' hS' hq hT' hm hB hT h10 em;have kk:(k:Int)<=(s.size:Int):=by omega
     have kn:(k:Int)≠(s.size:Int):=by omega
     go_wp2
     go_quiet (fail)
     go_wp2
     refine⟨⟨⟨k+1,la,N,ι',get',id',B,by omega,by omega,k3,rfl,rfl,rfl,rfl,HB.out.drewN nq,Cl.stp_drewN HS.out nq,?_,hl⟩,rfl⟩,by simp[Cl.iOf];omega⟩;exact Cl.step_plain hlt k2 (.inr H10.out) HQ.out
    ·obtain⟨m,x,val,j,m4,em',et,j1,j2,vs,hv,hlook⟩:=Cl.found hT' hlt hm h10;have HB:=Lib.hid hB';have HS:=Lib.hid hS';have HQ:=Lib.hid hq;have HV:=Lib.hid hv;have HL:=Lib.hid hlook;clear hB' hS' hq hT' hm hB hT h10 em hv hlook;have kk:(k:Int)<=(s.size:Int):=by omega
     have kn:(k:Int)≠(s.size:Int):=by omega
     have mn:((m:Int)==4)=false:=Fa.2 (by omega);have jn:((j:Int)==0)=false:=Fa.2 (by omega)
     go_wp2
     go_quiet (fail)
     go_wp2_with (go_at_call 306;refine(HL.out _).mono ?_;rintro e w' ⟨rfl,n2,rfl⟩)
     have kl:(la:Int)<=(k:Int):=by omega
     have hl2:B.length+(s.extract la k).size<=140737488355328:=by simp;omega
     have hna:=Cl.na pb
     go_region_with (go_at_call 316;refine(Cl.write (s.extract la k) (HB.out.drewN _) hl2).mono ?_;rintro e w' ⟨rfl,ι2,get2,HB2,HS2⟩)
     have hl3:(B++(s.extract la k).data.toList).length+val.size<=140737488355328:=by have:(s.extract la k).data.toList.length=(s.extract la k).size:=rfl;rw[Ia,this,ByteArray.size_extract];omega
     clear hl2
     go_wp2_with (go_at_call 316;refine(Cl.write val HB2 hl3).mono ?_;rintro e w' ⟨rfl,ι3,get3,HB3,HS3⟩)
     have hq:=HQ.out;have hv:=HV.out;have hlen:(s.extract la k).data.toList.length=k - la:=by have:(s.extract la k).data.toList.length=(s.extract la k).size:=rfl;rw[this,ByteArray.size_extract];omega
     refine⟨⟨⟨k+j,k+j,_,ι3,get3,_,_,by omega,by omega,by omega,rfl,rfl,rfl,rfl,HB3,((Cl.stp_drewN HS.out _).trans HS2).trans HS3,Cl.step_hit j2 k2 hv hq,?_⟩,rfl⟩,by simp[Cl.iOf];omega⟩;have hvs:val.data.toList.length=val.size:=rfl;rw[Ia,Ia,hlen,hvs];omega
  ·by_cases hk:k=s.size
   ·subst hk;have e1:=hT'.p1;have HB:=Lib.hid hB';have HS:=Lib.hid hS';have HQ:=Lib.hid hq;clear hB' hS' hq hT' hB hT hlt
    go_wp2_with (go_at_call 306;refine(Cl.look_end g _ e1).mono ?_;rintro e w' ⟨rfl,n2,rfl⟩)
    exact⟨⟨⟨s.size+1,la,N,ι',get',id',B,by omega,by omega,k3,rfl,rfl,rfl,rfl,HB.out.drewN n2,Cl.stp_drewN HS.out n2,Cl.step_end HQ.out,hl⟩,rfl⟩,by simp[Cl.iOf]⟩
   ·obtain rfl:k=s.size+1:=by omega
    have HB:=Lib.hid hB';have HS:=Lib.hid hS';have HQ:=Lib.hid hq;clear hB' hS' hq hT' hB hT hlt hk;by_cases hla:la=s.size
    ·subst hla
     go_wp2
     go_ret2;have hq:=Cl.last_of HQ.out;have h3:s.data.toList.drop s.size=[]:=Pe.2 (Ya _);rw[h3,Bb]at hq;rw[<-hq];exact⟨⟨N,rfl⟩,ι',get',id',HB.out,HS.out⟩
    ·have kl:(la:Int)≠(s.size:Int):=by omega
     have k4:(la:Int)<=(s.size:Int):=by omega
     go_wp2
     have hl2:B.length+(s.extract la s.size).size<=140737488355328:=by simp;omega
     have hna:=Cl.na pb
     go_region_with (go_at_call 316;refine(Cl.write (s.extract la s.size) (HB.out.drewN _) hl2).mono ?_;rintro e w' ⟨rfl,ι2,get2,HB2,HS2⟩)
     go_wp2
     go_ret2;have hq:=Cl.last_of HQ.out;rw[Cl.ext_list,hq]at HB2;exact⟨⟨_,rfl⟩,ι2,get2,_,HB2,(Cl.stp_drewN HS.out _).trans HS2⟩
structure Cl.Gr (w w':World):Prop where
 os:w'.os=w.os
 tape:w'.tape=w.tape
 output:w'.output=w.output
 size:w.heap.size<=w'.heap.size
 old: ∀b,b<w.heap.size->w'.heap[b]? =w.heap[b]?
theorem Cl.make_run {P:Program} {w:World} {ops:Array Oper} {rest:List Oper} {o:Oper} {a:Act} {Q:Exit->Act->World->Prop} (b:o.guard=none) (t:TypeId) (l c:Operand)
  (k:o.op= .makeSlice t l c) {d e v:Value} {w':World} (g:a.eval l=d) (j:a.eval c=e) (f:(Instr.makeSlice t d e).run P w= .ok v w')
  (h:wpList P ops Q rest (a.put o.dst v) w'):wpList P ops Q (o::rest) a w:=
 wpList_plain b fun K i=>by unfold Oper.wp execOp;simp only[k,Sem.run_bind,Sem.run_pure,Result.andThen_ok,g,j,f];exact i _ _ h
def Cl.Gb(w:World):Prop:=Glob (fun b=>b<w.heap.size) w
theorem Cl.Gb.gr{w w':World}(h:Cl.Gb w)(g:Cl.Gr w w'):Cl.Gb w':=fun q c=>by obtain⟨a,o,b,d⟩:=h q c;exact⟨Xb a g.size,o,by rw[g.old _ a];exact b,d⟩
theorem Cl.nilRel(w:World)(a:Cl.Gb w):Rel (fun _=> .free) (fun _=>none) w:=⟨fun id o h=>(by cases h),fun _ _=> .inl rfl,fun i j b k d h=>(by cases h),a.dom fun b c=>⟨c,fun _ _ e=>by cases e⟩⟩
theorem Cl.Buf.read{ι:Asg}{get:Get}{w:World}{r id:Nat}{l:List UInt8}(h:Cl.Buf ι get w r id l):
  ∃a n c i w',w.cell? ⟨r,0,none⟩=some (.slice a n c)/\(convert 306 9 (.slice a n c)).run Tryz.prog w= .ok (.string ⟨l.toArray⟩) w'/\Stp ι w i w':=by
 obtain⟨j,Q,D,H,z,k⟩:=h;obtain⟨b,G,M,d,J,A,_,_,B,E,_⟩:=kw j z (row:=0) rfl;rw[H]at d;injection d with d _;injection d with d;subst d;obtain⟨v,q,p,f⟩:=E 0 (.osl id 0 l.length) rfl;have s:w.cell? ⟨r,0,none⟩=some v:=by rw[cell_of J];exact q
 obtain⟨a,n,c,rfl⟩: ∃a n c,v= .slice a n c:=by obtain⟨R,m,_⟩:=j.live id _ k;rcases f.2 _ _ m with⟨_,_,rfl⟩|⟨_,_,_,_,_,_,rfl,_⟩<;>exact⟨_,_,_,rfl⟩
 have C:bytesOf ((l.map fun b=>[bf b]).take l.length)=l:=by rw[Od (by simp)];simp[bytesOf,Nv,bf,ah]
 have g: ∀row∈(l.map fun b=>[bf b]).take l.length,QY row=true:=by intro row F;obtain⟨x,_,rfl⟩:=Ka.1 (List.mem_of_mem_take F);have:=x.toNat_lt;simp only[QY,bf,jb];omega
 have e:(af Tryz.prog get (id+1) 306 9 (.c (.osl id 0 l.length))).pre:=by simp only[af,Cl.kd290,Cl.kd9,Cl.kd5,rowsOf,k,Cf];exact⟨g,fun o N=>by grind⟩
 obtain⟨u,w',y,i,L,t,K,O⟩:=YQ (P:=Tryz.prog) (src:=306) (dst:=9) (nx:=id+1) j (D _ (by omega)) (x:= .c (.osl id 0 l.length)) (v:= .slice a n c) ⟨p,f⟩ e;simp only[af,Cl.kd290,Cl.kd9,Cl.kd5,rowsOf,k,Cf,C]at t;obtain rfl:=jk t
 grind
theorem Cl.start{w w1:World}{a':Option Addr}{n' c':Nat}{ι1:Asg}(hR:Rel ι1 (upd (fun _=>none) [(1,some ⟨5,1,[],none⟩)]) w1)(hv:repT ι1 w1 (.c (.osl 1 0 0)) (.slice a' n' c'))(hf: ∀j,j<1\/2<=j->ι1 j= .free)(hs:Stp (fun _=> .free) w ι1 w1):
  ∃ι2 get2,Cl.Buf ι2 get2 (w1.alloc (.cells #[.slice a' n' c'] 306)) w1.heap.size 1 []/\Stp (fun _=> .free) w ι2 (w1.alloc (.cells #[.slice a' n' c'] 306)):=by
 have g:Grew w1 (w1.alloc (.cells #[.slice a' n' c'] 306)) (.cells #[.slice a' n' c'] 306 (0,0)):=⟨rfl,rfl,rfl,rfl⟩;obtain⟨r2,s2⟩:=hR.new (nx:=0) (hf 0 (by omega)) ⟨306,1,[[.osl 1 0 0]],none⟩ #[.slice a' n' c'] (0,0) g (.inl rfl) (by simp) (by simp) (fun i row j x hi hj=>by
  have hi0:i=0:=by have:=(Da.1 hi).1;simpa using this
  subst hi0;simp at hi;subst hi;have hj0:j=0:=by have:=(Da.1 hj).1;simpa using this
  subst hj0;simp at hj;subst hj;exact⟨_,rfl,hv.1,hv.2⟩)
 refine⟨_,_,⟨r2,by omega,fun j hj=> ?_,zU _ _ _,?_,?_⟩,hs.trans s2⟩
 ·rw[zG _ _ _ (by omega)];grind
 ·simp[upd]
 ·simp[upd]
theorem Cl.gr_of{a:Asg}{w w':World}(h:Stp (fun _=> .free) w a w'):Cl.Gr w w':=
 ⟨h.os,h.tape,h.output,h.size,fun b c=>h.keep b ⟨c,fun _ _ e=>by cases e⟩⟩
theorem Cl.repl(g tb a b c d:Nat)(s:ByteArray)(X:s.size<=4000)(w:World)(J:Cl.Gb w)(q:Cl.TW w g tb a b c d):
  Calls Tryz.prog 303 #[.pointer (some ⟨g,0,none⟩), .string s] w fun e w'=>e= .returned (.string ⟨(Cl.cleanS s.data.toList).toArray⟩)/\Cl.Gr w w':=by
 have m:(ui Tryz.prog 1 306 (.c (.p (.at (.int .i64 0)))) (.c (.p (.at (.int .i64 (s.size:Int)))))).pre:=by simp only[ui,Cl.kd290];exact⟨by omega,by omega,by rw[Cl.by5];omega,by omega,by rw[Cl.sz5];omega,Cl.zok5⟩
 obtain⟨Y,Q,i,Z,z,B,L,K⟩:=EQ (P:=Tryz.prog) (nx:=1) (Cl.nilRel w J) rfl (l:= .c (.p (.at (.int .i64 0)))) (c:= .c (.p (.at (.int .i64 (s.size:Int))))) (Ki _ _) (Ki _ _) m;simp only[ui,Cl.kd290,Cl.sz5]at z B;obtain⟨S,n',c',rfl⟩: ∃a n c,Y= .slice a n c:=by obtain⟨b3,E,_⟩:=z.live 1 ⟨5,1,[],none⟩ rfl;rcases B.2.2 _ _ E with⟨_,_,rfl⟩|⟨_,_,_,_,_,_,rfl,_⟩<;>exact⟨_,_,_,rfl⟩
 obtain⟨O,N,t,k⟩:=Cl.start (w:=w) z B (fun j hj=>K j rfl (by omega)) L;have f: ∀x o v,w.cell? ⟨x,o,none⟩=some v->x<w.heap.size:=fun x o v h=>World.block_lt_of_cell? w _ h;have y: ∀x,x=g\/x=tb\/x=a\/x=b\/x=c\/x=d->x<w.heap.size:=by
  rintro x (rfl|rfl|rfl|rfl|rfl|rfl)
  ·exact f _ _ _ q.p1
  ·exact f _ _ _ q.t0
  ·exact f _ _ _ q.a0
  ·exact f _ _ _ q.b0
  ·exact f _ _ _ q.c0
  ·exact f _ _ _ q.d0
 have H: ∀x,x=g\/x=tb\/x=a\/x=b\/x=c\/x=d->Dom (fun _=> .free) w x:=fun x r=>⟨y x r,fun _ _ e=>by cases e⟩;have u:Cl.TW (Q.alloc (.cells #[.slice S n' c'] 306)) g tb a b c d:=q.keep fun x o r=>World.cell?_of_block (a:=⟨x,o,none⟩) (k.keep x (H x r));have HM:=Lib.hid i;have U:=Lib.hid (Cl.ws g tb a b c d _ s X _ u (fun x r=>k.dom x (H x r)) t);have V:=Lib.hid k;clear J m z B L K q i u t k H y f;go_enter Tryz.func303,Tryz.ntmps303
 go_wp2_with (at_make;refine Cl.make_run rfl _ _ _ rfl (by rfl) (by rfl) HM.out ?_)
 refine U.out.mono ?_;rintro e w' ⟨⟨n,rfl⟩,R,M,W,F,C⟩;obtain⟨a3,n3,c3,T,w4,A,G,D⟩:=F.read
 go_wp2
 go_ret;exact⟨rfl,Cl.gr_of ((V.out.trans C).trans D)⟩
end Go.Proofs
