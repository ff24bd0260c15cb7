/- Look-ups in a trie. -/
import Derived.Test.YtcdeccnjlkkejaaGreatDoorProg
import Derived.WalkKit
import Derived.Handy
import Derived.Lib.Strings
import Derived.Lib.Walk
import Derived.Lib.Bytealg
import Derived.Laws.Cover3
import Derived.Deep.QuietTactic
import Derived.BigQuiet
import Derived.Test.YtcdeccnjlkkejaaGreatDoorLb
import Derived.KernelRfl
import Derived.Test.YtcdeccnjlkkejaaGreatDoorLf
import Derived.Stop.Asserts
import Derived.Lib.Hide
import Derived.Deep.RegionWith
set_option linter.unusedSimpArgs false
set_option linter.unusedVariables false
namespace Go.Proofs
set_option maxRecDepth 100000
set_option maxHeartbeats 2000000
theorem Cl.ne1{s:ByteArray}(d:0<s.size):s.toList.isEmpty=false:=by
 have:s.toList.length=s.size:=by rw[Lib.toList_data];rfl
 cases h:s.toList with
 |nil=>rw[h]at c;simp at c;omega
 |cons a l=>rfl
theorem Cl.ne2{s:ByteArray}(d:0<s.size):(s.toList==[])=false:=by
 have:=Cl.ne1 d;cases h:s.toList with
 |nil=>rw[h]at c;cases c
 |cons a l=>rfl
theorem Cl.look_nil (g:Nat) (w:World)
  (h1:w.cell? ⟨g,1,none⟩=some (.int .i64 0)):
  Calls Tryz.prog 306 #[.pointer (some ⟨g,0,none⟩), .string ⟨#[]⟩, .bool false] w fun e w'=>e= .returned (.tuple #[.string ⟨#[]⟩, .int .i64 0, .bool false])/\ ∃n,w'=w.drewN n:=by
 go_enter Tryz.func306,Tryz.ntmps306
 go_wp2
 go_rounds 1
 go_ret3;exact⟨rfl,0,rfl⟩
theorem Cl.look_leaf (g tb c k:Nat) (p:Int) (hp:decide (p>0)=true) (v:ByteArray) (hk:k<4) (s:ByteArray) (d:0<s.size) (w:World)
  (h1:w.cell? ⟨g,1,none⟩=some (.int .i64 0)) (h4:w.cell? ⟨g,4,none⟩=some (.slice (some ⟨tb,0,none⟩) 4 4)) (i:w.cell? ⟨g,5,none⟩=some (.int .i64 4))
  (hm:w.cell? ⟨g,6+s[0].toNat,none⟩=some (.int .u8 k)) (ht:w.cell? ⟨tb,k,none⟩=some (.pointer (some ⟨c,0,none⟩)))
  (n0:w.cell? ⟨c,0,none⟩=some (.string v)) (j:w.cell? ⟨c,1,none⟩=some (.int .i64 p)) (m:w.cell? ⟨c,2,none⟩=some (.string ⟨#[]⟩)) (r:w.cell? ⟨c,4,none⟩=some (.slice none 0 0)):
  Calls Tryz.prog 306 #[.pointer (some ⟨g,0,none⟩), .string s, .bool false] w fun e w'=>e= .returned (.tuple #[.string v, .int .i64 1, .bool true])/\ ∃n,w'=w.drewN n:=by
 have u:=Cl.ne1 d;have f:=Cl.ne2 d;have hb:(s[0].toNat:Int)<256:=by have:=s[0].toNat_lt;omega
 go_enter Tryz.func306,Tryz.ntmps306
 go_wp2
 go_rounds 3
 go_quiet (fail)
 go_wp2
 rw[rounds_succ]
 go_wp2
 all_goals (go_ret3;exact⟨rfl,_,rfl⟩)
theorem Cl.look_hit (g tb na d k:Nat) (hk:k<4) (v u:ByteArray) (c:UInt8) (s:ByteArray) (f:0<s.size) (w:World)
  (h1:w.cell? ⟨g,1,none⟩=some (.int .i64 0)) (h4:w.cell? ⟨g,4,none⟩=some (.slice (some ⟨tb,0,none⟩) 4 4)) (j:w.cell? ⟨g,5,none⟩=some (.int .i64 4))
  (hm:w.cell? ⟨g,6+s[0].toNat,none⟩=some (.int .u8 k)) (ht:w.cell? ⟨tb,k,none⟩=some (.pointer (some ⟨na,0,none⟩)))
  (a0:w.cell? ⟨na,0,none⟩=some (.string v)) (a1:w.cell? ⟨na,1,none⟩=some (.int .i64 6)) (a2:w.cell? ⟨na,2,none⟩=some (.string ⟨#[c]⟩)) (m:w.cell? ⟨na,3,none⟩=some (.pointer (some ⟨d,0,none⟩))) (a4:w.cell? ⟨na,4,none⟩=some (.slice none 0 0))
  (n0:w.cell? ⟨d,0,none⟩=some (.string u)) (p:w.cell? ⟨d,1,none⟩=some (.int .i64 8)) (r:w.cell? ⟨d,2,none⟩=some (.string ⟨#[]⟩)) (y:w.cell? ⟨d,4,none⟩=some (.slice none 0 0))
  (e1:(s.extract 1 s.size).toList.isEmpty=false) (e2:(1:Int)<=((s.size - 1:Nat):Int)) (e3:(((s.extract 1 s.size).extract 0 1).toList==[c])=true):
  Calls Tryz.prog 306 #[.pointer (some ⟨g,0,none⟩), .string s, .bool false] w fun e w'=>e= .returned (.tuple #[.string u, .int .i64 2, .bool true])/\ ∃n,w'=w.drewN n:=by
 have z:=Cl.ne1 f;have i:=Cl.ne2 f;have hb:(s[0].toNat:Int)<256:=by have:=s[0].toNat_lt;omega
 go_enter Tryz.func306,Tryz.ntmps306
 go_wp2
 go_rounds 3
 go_quiet (fail)
 go_wp2
 rw[rounds_succ]
 go_wp2
 rw[rounds_succ]
 go_wp2
 all_goals (go_ret3;exact⟨rfl,_,rfl⟩)
theorem Cl.look_off (g tb na d k:Nat) (hk:k<4) (v u:ByteArray) (c:UInt8) (s:ByteArray) (f:0<s.size) (w:World)
  (h1:w.cell? ⟨g,1,none⟩=some (.int .i64 0)) (h4:w.cell? ⟨g,4,none⟩=some (.slice (some ⟨tb,0,none⟩) 4 4)) (j:w.cell? ⟨g,5,none⟩=some (.int .i64 4))
  (hm:w.cell? ⟨g,6+s[0].toNat,none⟩=some (.int .u8 k)) (ht:w.cell? ⟨tb,k,none⟩=some (.pointer (some ⟨na,0,none⟩)))
  (a0:w.cell? ⟨na,0,none⟩=some (.string v)) (a1:w.cell? ⟨na,1,none⟩=some (.int .i64 6)) (a2:w.cell? ⟨na,2,none⟩=some (.string ⟨#[c]⟩)) (m:w.cell? ⟨na,3,none⟩=some (.pointer (some ⟨d,0,none⟩))) (a4:w.cell? ⟨na,4,none⟩=some (.slice none 0 0))
  (n0:w.cell? ⟨d,0,none⟩=some (.string u)) (p:w.cell? ⟨d,1,none⟩=some (.int .i64 8)) (r:w.cell? ⟨d,2,none⟩=some (.string ⟨#[]⟩)) (y:w.cell? ⟨d,4,none⟩=some (.slice none 0 0))
  (e1:(s.extract 1 s.size).toList.isEmpty=false) (e2:(1:Int)<=((s.size - 1:Nat):Int)) (e3:(((s.extract 1 s.size).extract 0 1).toList==[c])=false):
  Calls Tryz.prog 306 #[.pointer (some ⟨g,0,none⟩), .string s, .bool false] w fun e w'=>e= .returned (.tuple #[.string v, .int .i64 1, .bool true])/\ ∃n,w'=w.drewN n:=by
 have z:=Cl.ne1 f;have i:=Cl.ne2 f;have hb:(s[0].toNat:Int)<256:=by have:=s[0].toNat_lt;omega
 go_enter Tryz.func306,Tryz.ntmps306
 go_wp2
 go_rounds 3
 go_quiet (fail)
 go_wp2
 rw[rounds_succ]
 go_wp2
 all_goals (go_ret3;exact⟨rfl,_,rfl⟩)
theorem Cl.look_last (g tb na d k:Nat) (hk:k<4) (v u:ByteArray) (c:UInt8) (s:ByteArray) (f:0<s.size) (w:World)
  (h1:w.cell? ⟨g,1,none⟩=some (.int .i64 0)) (h4:w.cell? ⟨g,4,none⟩=some (.slice (some ⟨tb,0,none⟩) 4 4)) (j:w.cell? ⟨g,5,none⟩=some (.int .i64 4))
  (hm:w.cell? ⟨g,6+s[0].toNat,none⟩=some (.int .u8 k)) (ht:w.cell? ⟨tb,k,none⟩=some (.pointer (some ⟨na,0,none⟩)))
  (a0:w.cell? ⟨na,0,none⟩=some (.string v)) (a1:w.cell? ⟨na,1,none⟩=some (.int .i64 6)) (a2:w.cell? ⟨na,2,none⟩=some (.string ⟨#[c]⟩)) (m:w.cell? ⟨na,3,none⟩=some (.pointer (some ⟨d,0,none⟩))) (a4:w.cell? ⟨na,4,none⟩=some (.slice none 0 0))
  (n0:w.cell? ⟨d,0,none⟩=some (.string u)) (p:w.cell? ⟨d,1,none⟩=some (.int .i64 8)) (r:w.cell? ⟨d,2,none⟩=some (.string ⟨#[]⟩)) (y:w.cell? ⟨d,4,none⟩=some (.slice none 0 0))
  (e1:(s.extract 1 s.size).toList.isEmpty=true):
  Calls Tryz.prog 306 #[.pointer (some ⟨g,0,none⟩), .string s, .bool false] w fun e w'=>e= .returned (.tuple #[.string v, .int .i64 1, .bool true])/\ ∃n,w'=w.drewN n:=by
 have z:=Cl.ne1 f;have i:=Cl.ne2 f;have hb:(s[0].toNat:Int)<256:=by have:=s[0].toNat_lt;omega
 go_enter Tryz.func306,Tryz.ntmps306
 go_wp2
 go_rounds 3
 go_quiet (fail)
 go_wp2
 rw[rounds_succ]
 go_wp2
 all_goals (go_ret3;exact⟨rfl,_,rfl⟩)
open Go.Lv
theorem Cl.append_run {P:Program} {w:World} {ops:Array Oper} {rest:List Oper} {o:Oper} {a:Act} {Q:Exit->Act->World->Prop} (c:o.guard=none) (s x:Operand) (t u:TypeId)
  (ho:o.op= .call {callee:= .builtin .append,args:= #[s,x],argTypes:= #[t,u]}) {vs vx v:Value} {w':World} (d:a.eval s=vs) (f:a.eval x=vx) (hr:(Builtin.append_ #[t,u] o.type #[vs,vx]).run P w= .ok v w')
  (h:wpList P ops Q rest (a.put o.dst v) w'):wpList P ops Q (o::rest) a w:=
 wpList_plain c fun K i=>by unfold Oper.wp execOp;simp only[ho,resolve,invoke,builtin,Sem.run_bind,Sem.run_pure,Result.andThen_ok,List.map_toArray,aa,ic,d,f,hr];exact i _ _ h
def Cl.Buf(ι:Asg)(get:Get)(w:World)(c id:Nat)(l:List UInt8):Prop:=
 Rel ι get w/\0<id/\(∀j,id<j->ι j= .free)/\ι 0= .live (some c) 1/\get 0=some ⟨306,1,[[.osl id 0 l.length]],none⟩/\get id=some ⟨5,1,l.map fun b=>[ag b],none⟩
theorem Cl.kd290:kdOf Tryz.prog 306= .sl 5:=by kernel_rfl
theorem Cl.kd9:kdOf Tryz.prog 9= .str:=by kernel_rfl
theorem Cl.kd5:kdOf Tryz.prog 5= .int .u8:=by kernel_rfl
theorem Cl.sz5:Tryz.prog.cellsOf 5=1:=by kernel_rfl
theorem Cl.by5:(ti Tryz.prog 5).by_=1:=by kernel_rfl
theorem Cl.zok5:(ti Tryz.prog 5).zok=true:=by kernel_rfl
theorem Cl.inf290:(Tryz.prog.info? 306).map (·.size)=some 1:=by kernel_rfl
theorem Cl.sz290:(ti Tryz.prog 306).sz=1:=by kernel_rfl
theorem Cl.kdt290:(ti Tryz.prog 306).kd≠ .bad:=by rw[show(ti Tryz.prog 306).kd= .sl 5 from Cl.kd290];simp
theorem Cl.write_walk (d:Nat) (t:ByteArray) (w f:World) (a j:Option Addr) (n c m p:Nat) (hc:w.cell? ⟨d,0,none⟩=some (.slice a n c)) (i:(Builtin.append_ #[306,9] 306 #[.slice a n c, .string t]).run Tryz.prog w= .ok (.slice j m p) f)
  (u:Value) (r:f.cell? ⟨d,0,none⟩=some u) (v:f.frozen? ⟨d,0,none⟩=false):
  Calls Tryz.prog 316 #[.pointer (some ⟨d,0,none⟩), .string t] w fun e w'=>e= .returned (.tuple #[.int .i64 t.size, .nilIface])/\w'=f.setCell ⟨d,0,none⟩ (.slice j m p):=by
 go_enter Tryz.func316,Tryz.ntmps316
 go_wp2_with (at_builtin;refine Cl.append_run rfl _ _ _ _ rfl (by rfl) (by rfl) i ?_)
 go_ret2;exact⟨rfl,rfl⟩
theorem Cl.write{ι:Asg}{get:Get}{w:World}{f id:Nat}{l:List UInt8}(t:ByteArray)(h:Cl.Buf ι get w f id l)(hl:l.length+t.size<=140737488355328):
  Calls Tryz.prog 316 #[.pointer (some ⟨f,0,none⟩), .string t] w fun e w'=>e= .returned (.tuple #[.int .i64 t.size, .nilIface])/\ ∃ι' get',Cl.Buf ι' get' w' f (id+1) (l++t.data.toList)/\Stp ι w ι' w':=by
 obtain⟨hR,h0,hf,hp,g0,g1⟩:=h;obtain⟨b,cur,fr,e1,hh,ba,_,_,bb,hc,_⟩:=Hz hR g0 (row:=0) rfl;rw[hp]at e1;injection e1 with e1 _;injection e1 with e1;subst e1;obtain⟨v,am,an,Y⟩:=hc 0 (.osl id 0 l.length) rfl;have A:w.cell? ⟨f,0,none⟩=some v:=by rw[cell_of hh];exact am
 have Z:t.data.toList.length=t.size:=rfl;have a3:(Zd Tryz.prog get (id+1) 306 9 (.c (.osl id 0 l.length)) (.c (.p (.str t.data.toList)))).pre:=by
  simp only[Zd,Cl.kd290,rowsOf,g1];refine⟨Cl.sz5.symm,trivial,by simp,by rw[Cl.sz5];omega,fun row hr=> ?_,?_,?_,⟨Cl.kd5,Cl.kd9⟩,by rw[Cl.kd9];trivial,Cl.zok5⟩
  ·obtain⟨x,_,rfl⟩:=Oa.1 hr;rw[Cl.sz5];rfl
  ·rw[Cl.by5,Ra,Z];omega
  ·rw[Ra,Z];omega
 obtain⟨v',O,ao,ap,r1,p1,s1,f1⟩:=kE (P:=Tryz.prog) (ts:=306) (tx:=9) (ty:=306) (nx:=id+1) hR (hf _ (by omega)) (s:= .c (.osl id 0 l.length)) (x:= .c (.p (.str t.data.toList))) (vs:=v) (vx:= .string t) ⟨an,Y⟩ (Cu t.data.toList) a3;simp only[Zd,Cl.kd290,rowsOf,g1,Ra,Cl.sz5]at r1 p1;have aq:(0:Nat)≠id:=by omega
 have a5:(0:Nat)≠id+1:=by omega
 have y:upd get [(id,none),(id+1,some (⟨5,1,List.take l.length (List.map (fun b=>[ag b]) l)++List.map (fun b=>[ag b]) t.data.toList,none⟩:OB))] 0=some ⟨306,1,[[.osl id 0 l.length]],none⟩:=by simp only[upd,Ha aq,Ha a5,g0]
 obtain⟨b1,a6,_⟩:=r1.live 0 _ y;have m:ap 0= .live (some f) 1:=by
  rcases s1.slots 0 (by rw[hp];simp)with e|e
  ·rw[e,hp]
  ·rw[e]at a6;cases a6
 have B:(Qw (ti Tryz.prog 306) (upd get [(id,none),(id+1,some (⟨5,1,List.take l.length (List.map (fun b=>[ag b]) l)++List.map (fun b=>[ag b]) t.data.toList,none⟩:OB))]) (.c (.optr 0 0 0)) (.c (.osl (id+1) 0 (l.length+t.data.toList.length)))).pre:=by simp only[Qw,y,De];exact⟨by rw[Cl.sz290];rfl,by rw[Cl.sz290];simp,Cl.kdt290⟩
 obtain⟨w2,hst,ar,r2,_,s2,f2⟩:=BS (P:=Tryz.prog) (t:=306) (nx:=id+2) (va:= .pointer (some ⟨f,0,none⟩)) (vx:=v') r1 (a:= .c (.optr 0 0 0)) (x:= .c (.osl (id+1) 0 (l.length+t.data.toList.length)))
  ⟨rfl,by rw[m];simp,fun b k e=>by rw[m]at e;injection e with e1 e2;subst e1;subst e2;exact⟨f,rfl,by simp⟩⟩ p1 B
 obtain⟨U,V,W,rfl⟩: ∃U V W,v'= .slice U V W:=by
  obtain⟨b3,J,_⟩:=r1.live (id+1) ⟨5,1,List.take l.length (List.map (fun b=>[ag b]) l)++List.map (fun b=>[ag b]) t.data.toList,none⟩ (by
   have r:id+1≠id:=by omega
   simp only[upd,Ha r,Td])
  rcases p1.2.2 _ _ J with⟨_,_,rfl⟩|⟨_,_,_,_,_,_,rfl,_⟩<;>exact⟨_,_,_,rfl⟩
 obtain⟨a,n,c,rfl⟩: ∃a n c,v= .slice a n c:=by obtain⟨b3,J,_⟩:=hR.live id _ g1;rcases Y.2 _ _ J with⟨_,_,rfl⟩|⟨_,_,_,_,_,_,rfl,_⟩<;>exact⟨_,_,_,rfl⟩
 obtain⟨bq,b7,av,i,a7,a8,_,_,b8,aw,_⟩:=Hz r1 y (row:=0) rfl;rw[m]at i;injection i with i _;injection i with i;subst i;obtain⟨u1,a9,_⟩:=aw 0 _ rfl;have d:O.cell? ⟨f,0,none⟩=some u1:=by rw[cell_of a7];exact a9
 have u:O.frozen? ⟨f,0,none⟩=false:=by
  have b5:=(Ic.1 a9).1;have:=a8.out 0 (by simpa using b5);simp only[World.frozen?,a7];simp only[Hg,Rf];by_cases h:av.1<=0
  ·exact .inr (fun h'=>b9 ⟨h,h'⟩)
  ·exact .inl h
 obtain⟨inf,ab,L⟩:=Lb.1 Cl.inf290;have z:(Instr.storeAt 306 (.pointer (some ⟨f,0,none⟩)) (.slice U V W)).run Tryz.prog O= .ok () (O.setCell ⟨f,0,none⟩ (.slice U V W)):=by simp[Instr.storeAt,storeVar,Instr.sureAddr,Value.cells,sizeOf,typeInfo,ab,L,storeCells,d,u,go_sem]
 obtain rfl:w2=O.setCell ⟨f,0,none⟩ (.slice U V W):=by rw[hst]at z;injection z
 refine(Cl.write_walk f t w O a U n c V W A ao u1 d u).mono fun e w' ⟨h1,h2⟩=>⟨h1,?_⟩;subst h2;have b6:(Qw (ti Tryz.prog 306) (upd get [(id,none),(id+1,some (⟨5,1,List.take l.length (List.map (fun b=>[ag b]) l)++List.map (fun b=>[ag b]) t.data.toList,none⟩:OB))]) (.c (.optr 0 0 0)) (.c (.osl (id+1) 0 (l.length+t.data.toList.length)))).up=[(0,some ⟨306,1,[[.osl (id+1) 0 (l.length+t.data.toList.length)]],none⟩)]:=by simp only[Qw,y,De,Cl.sz290];rfl
 rw[b6]at r2;have ad:id+1≠0:=by omega
 have r:id+1≠id:=by omega
 refine⟨ar,_,⟨r2,by omega,fun j hj=>f2 j (f1 j (hf j (by omega)) (by omega)) (by omega),?_,?_,?_⟩,s1.trans s2⟩
 ·rcases s2.slots 0 (by rw[m];simp)with e|e
  ·rw[e,m]
  ·obtain⟨b2,al,_⟩:=r2.live 0 ⟨306,1,[[.osl (id+1) 0 (l.length+t.data.toList.length)]],none⟩ (by simp only[upd,Td]);rw[e]at al;cases al
 ·simp only[upd,Td,Ba]
 ·simp only[upd,Ha ad,Ha r,Td,yc];rw[Hd (by simp)]
set_option maxHeartbeats 4000000
theorem Cl.na(c:Nat)(w:World):(nilAhead 418 307 (.pointer (some ⟨c,0,none⟩)) "WriteString").run Tryz.prog w= .ok (some false) w:=by kernel_rfl
theorem Cl.isSW(v:Value)(w:World):(Instr.typeAssert (.iface 307 v) 309 311 true).run Tryz.prog w= .ok (.tuple #[.iface 307 v, .bool true]) w:=run_typeAssert_hasB Tryz.underlying311 (by kernel_rfl) v 309 w
theorem Cl.getsw(c:Nat)(w:World):
  Calls Tryz.prog 305 #[.iface 307 (.pointer (some ⟨c,0,none⟩))] w fun e w'=>e= .returned (.iface 307 (.pointer (some ⟨c,0,none⟩)))/\w=w':=by
 have H:=Cl.isSW (.pointer (some ⟨c,0,none⟩)) w;go_enter Tryz.func305,Tryz.ntmps305
 go_wp2
 go_ret;exact⟨rfl,rfl⟩
def Cl.iOf:Value->Int
 | .int _ n=>n
 |_=>0
def Cl.mp(k:Nat):Nat:=if k=0 then 0 else if k=10 then 1 else if k=12 then 2 else if k=13 then 3 else 4
structure Cl.TW (w:World) (g tb a b c d:Nat):Prop where
 p1:w.cell? ⟨g,1,none⟩=some (.int .i64 0)
 p4:w.cell? ⟨g,4,none⟩=some (.slice (some ⟨tb,0,none⟩) 4 4)
 p5:w.cell? ⟨g,5,none⟩=some (.int .i64 4)
 pm: ∀k:Nat,k<256->w.cell? ⟨g,6+k,none⟩=some (.int .u8 (Cl.mp k))
 t0:w.cell? ⟨tb,0,none⟩=some (.pointer (some ⟨a,0,none⟩))
 t1:w.cell? ⟨tb,1,none⟩=some (.pointer none)
 t2:w.cell? ⟨tb,2,none⟩=some (.pointer (some ⟨b,0,none⟩))
 t3:w.cell? ⟨tb,3,none⟩=some (.pointer (some ⟨c,0,none⟩))
 a0:w.cell? ⟨a,0,none⟩=some (.string ⟨#[239,191,189]⟩)
 a1:w.cell? ⟨a,1,none⟩=some (.int .i64 2)
 a2:w.cell? ⟨a,2,none⟩=some (.string ⟨#[]⟩)
 a4:w.cell? ⟨a,4,none⟩=some (.slice none 0 0)
 b0:w.cell? ⟨b,0,none⟩=some (.string ⟨#[10]⟩)
 b1:w.cell? ⟨b,1,none⟩=some (.int .i64 4)
 b2:w.cell? ⟨b,2,none⟩=some (.string ⟨#[]⟩)
 b4:w.cell? ⟨b,4,none⟩=some (.slice none 0 0)
 c0:w.cell? ⟨c,0,none⟩=some (.string ⟨#[10]⟩)
 c1:w.cell? ⟨c,1,none⟩=some (.int .i64 6)
 c2:w.cell? ⟨c,2,none⟩=some (.string ⟨#[10]⟩)
 c3:w.cell? ⟨c,3,none⟩=some (.pointer (some ⟨d,0,none⟩))
 c4:w.cell? ⟨c,4,none⟩=some (.slice none 0 0)
 d0:w.cell? ⟨d,0,none⟩=some (.string ⟨#[10]⟩)
 d1:w.cell? ⟨d,1,none⟩=some (.int .i64 8)
 d2:w.cell? ⟨d,2,none⟩=some (.string ⟨#[]⟩)
 d4:w.cell? ⟨d,4,none⟩=some (.slice none 0 0)
def Cl.Inv(ι:Asg)(w:World)(f:Nat)(s:ByteArray)(i pm n last:Value)(W:World):Prop:=
 ∃(k c:Nat) (N:Int) (ι':Asg) (get':Get) (d:Nat) (B:List UInt8),k<=s.size+1/\c<=k/\c<=s.size/\i= .int .i64 k/\pm= .bool false/\n= .int .i64 N/\last= .int .i64 c/\
  Cl.Buf ι' get' W f d B/\Stp ι w ι' W/\B++(s.data.toList.take k).drop c++Cl.cleanS (s.data.toList.drop k)=Cl.cleanS s.data.toList/\B.length<=3*c
theorem Cl.TW.keep{w w':World}{g tb a b c d:Nat}(h:Cl.TW w g tb a b c d)(hk: ∀x o,x=g\/x=tb\/x=a\/x=b\/x=c\/x=d->w'.cell? ⟨x,o,none⟩=w.cell? ⟨x,o,none⟩):Cl.TW w' g tb a b c d:=by have i:=fun o=>hk g o (by simp);have ht:=fun o=>hk tb o (by simp);have ha:=fun o=>hk a o (by simp);have hb:=fun o=>hk b o (by simp);have hc:=fun o=>hk c o (by simp);have j:=fun o=>hk d o (by simp);obtain⟨⟩:=h;constructor<;>(first|(intro k f;rw[i];rename_i pm _ _ _ _ _ _ _ _ _ _ _ _ _ _ _ _ _ _ _ _ _;exact pm k f)|(simp only[i,ht,ha,hb,hc,j];assumption))
theorem Cl.TW.drewN{w:World}{g tb a b c d:Nat}(h:Cl.TW w g tb a b c d)(n:Nat):Cl.TW (w.drewN n) g tb a b c d:=h.keep fun _ _ _=>rfl
theorem Cl.ext_size{s:ByteArray}{k:Nat}(h:k<s.size):0<(s.extract k s.size).size:=by simp;omega
theorem Cl.ext_get{s:ByteArray}{k:Nat}(h:k<s.size):(s.extract k s.size)[0]'(Cl.ext_size h)=s[k]:=by rw[ByteArray.getElem_extract];simp only[jd]
theorem Cl.look0{w:World}{g tb a b c d:Nat}(h:Cl.TW w g tb a b c d)(s:ByteArray)(k:Nat)(f:k<s.size)(h0:s[k].toNat=0):
  Calls Tryz.prog 306 #[.pointer (some ⟨g,0,none⟩), .string (s.extract k s.size), .bool false] w fun e w'=>e= .returned (.tuple #[.string ⟨#[239,191,189]⟩, .int .i64 1, .bool true])/\ ∃n,w'=w.drewN n:=
 Cl.look_leaf g tb a 0 2 (by decide) _ (by decide) _ (Cl.ext_size f) w h.p1 h.p4 h.p5 (by rw[Cl.ext_get f,h0];exact h.pm 0 (by decide)) h.t0 h.a0 h.a1 h.a2 h.a4
theorem Cl.look12{w:World}{g tb a b c d:Nat}(h:Cl.TW w g tb a b c d)(s:ByteArray)(k:Nat)(f:k<s.size)(h0:s[k].toNat=12):
  Calls Tryz.prog 306 #[.pointer (some ⟨g,0,none⟩), .string (s.extract k s.size), .bool false] w fun e w'=>e= .returned (.tuple #[.string ⟨#[10]⟩, .int .i64 1, .bool true])/\ ∃n,w'=w.drewN n:=
 Cl.look_leaf g tb b 2 4 (by decide) _ (by decide) _ (Cl.ext_size f) w h.p1 h.p4 h.p5 (by rw[Cl.ext_get f,h0];exact h.pm 12 (by decide)) h.t2 h.b0 h.b1 h.b2 h.b4
theorem Cl.ext_list(s:ByteArray)(k:Nat):(s.extract k s.size).data.toList=s.data.toList.drop k:=by rw[Lib.extract_eq];have:s.data.toList.length=s.size:=rfl;simp only[List.toList_toArray];exact Hd (by rw[Ob];omega)
theorem Cl.ext_tail(s:ByteArray)(k:Nat):((s.extract k s.size).extract 1 (s.extract k s.size).size).toList=s.data.toList.drop (k+1):=by rw[Lib.toList_data,Cl.ext_list,Cl.ext_list,Vf]
theorem Cl.ext_head(s:ByteArray)(k:Nat):(((s.extract k s.size).extract 1 (s.extract k s.size).size).extract 0 1).toList=(s.data.toList.drop (k+1)).take 1:=by have h:=Cl.ext_tail s k;rw[Lib.toList_data]at h;generalize (s.extract k s.size).extract 1 (s.extract k s.size).size=t at h ⊢;rw[Lib.toList_data,Lib.extract_eq,h];simp
theorem Cl.clean_off{r:List UInt8}(h: ∀c,r=10::c->False):Cl.cleanS (13::r)=10::Cl.cleanS r:=by
 rw[Cl.cleanS]
 ·rfl
 ·intro c _ h2;exact h c h2
theorem Cl.found{w:World}{g tb a b c d:Nat}(h:Cl.TW w g tb a b c d){s:ByteArray}{k:Nat}(f:k<s.size)(hm:Cl.mp s[k].toNat≠4)(B:s[k].toNat≠10):
  ∃(m x:Nat) (val:ByteArray) (j:Nat),m<4/\w.cell? ⟨g,6+s[k].toNat,none⟩=some (.int .u8 m)/\w.cell? ⟨tb,m,none⟩=some (.pointer (some ⟨x,0,none⟩))/\1<=j/\k+j<=s.size/\val.size<=3*j/\
   Cl.cleanS (s.data.toList.drop k)=val.data.toList++Cl.cleanS (s.data.toList.drop (k+j))/\
   ∀n,Calls Tryz.prog 306 #[.pointer (some ⟨g,0,none⟩), .string (s.extract k s.size), .bool false] (w.drewN n) fun e w'=>e= .returned (.tuple #[.string val, .int .i64 j, .bool true])/\ ∃V,w'=(w.drewN n).drewN V:=by
 have hk:k<s.data.toList.length:=f;have e:s.data.toList[k]=s[k]:=rfl;by_cases h0:s[k].toNat=0
 ·refine⟨0,a,⟨#[239,191,189]⟩,1,by omega,by rw[h0];exact h.pm 0 (by decide),h.t0,by omega,by omega,by decide,?_,fun n=>Cl.look0 (h.drewN n) s k f h0⟩;have:s[k]=0:=Tf.1 h0;rw[Yb hk,e,y];rfl
 ·by_cases i:s[k].toNat=12
  ·refine⟨2,b,⟨#[10]⟩,1,by omega,by rw[i];exact h.pm 12 (by decide),h.t2,by omega,by omega,by decide,?_,fun n=>Cl.look12 (h.drewN n) s k f i⟩;have:s[k]=12:=Tf.1 i;rw[Yb hk,e,y];rfl
  ·have r:s[k].toNat=13:=by
    unfold Cl.mp at hm;rw[Ha h0,Ha B,Ha i]at hm;by_cases h:s[k].toNat=13
    ·exact h
    ·rw[Ha h]at hm;exact absurd rfl hm
   have hc:s[k]=13:=Tf.1 r;have u: ∀n,(w.drewN n).cell? ⟨g,6+((s.extract k s.size)[0]'(Cl.ext_size f)).toNat,none⟩=some (.int .u8 (3:Nat)):=fun n=>by rw[Cl.ext_get f,r];exact h.pm 13 (by decide)
   have v:w.cell? ⟨g,6+s[k].toNat,none⟩=some (.int .u8 (3:Nat)):=by rw[r];exact h.pm 13 (by decide)
   have J:(s.extract k s.size).size=s.size - k:=by simp
   by_cases h1:k+1<s.size
   ·have p:k+1<s.data.toList.length:=h1;have e2:s.data.toList[k+1]=s[k+1]:=rfl;have L:s.data.toList.drop k=13::s[k+1]::s.data.toList.drop (k+2):=by rw[Yb hk,e,hc,Yb p,e2]
    have O:(((s.extract k s.size).extract 1 (s.extract k s.size).size).extract 0 1).toList=[s[k+1]]:=by rw[Cl.ext_head,Yb p,e2];rfl
    have U:((s.extract k s.size).extract 1 (s.extract k s.size).size).toList.isEmpty=false:=by rw[Cl.ext_tail,Yb p];rfl
    have z:(1:Int)<=(((s.extract k s.size).size - 1:Nat):Int):=by rw[J];omega
    by_cases h2:s[k+1]=10
    ·refine⟨3,c,⟨#[10]⟩,2,by omega,v,h.t3,by omega,by omega,by decide,?_,fun n=> ?_⟩
     ·rw[L,h2];rfl
     ·have h':=h.drewN n;exact Cl.look_hit g tb c d 3 (by decide) _ _ 10 _ (Cl.ext_size f) _ h'.p1 h'.p4 h'.p5 (u n) h'.t3 h'.c0 h'.c1 h'.c2 h'.c3 h'.c4 h'.d0 h'.d1 h'.d2 h'.d4 U z (by rw[O,h2];rfl)
    ·refine⟨3,c,⟨#[10]⟩,1,by omega,v,h.t3,by omega,by omega,by decide,?_,fun n=> ?_⟩
     ·rw[L,Cl.clean_off (fun W hr=>by injection hr with hr _;exact h2 hr),Yb p,e2];rfl
     ·have h':=h.drewN n;refine Cl.look_off g tb c d 3 (by decide) _ ⟨#[10]⟩ 10 _ (Cl.ext_size f) _ h'.p1 h'.p4 h'.p5 (u n) h'.t3 h'.c0 h'.c1 h'.c2 h'.c3 h'.c4 h'.d0 h'.d1 h'.d2 h'.d4 U z (by rw[O];exact Ga.2 (fun hr=>by injection hr with hr _;exact h2 hr))
   ·have A:s.data.toList.drop (k+1)=[]:=Ff.2 (by have:s.data.toList.length=s.size:=rfl;omega);refine⟨3,c,⟨#[10]⟩,1,by omega,v,h.t3,by omega,by omega,by decide,?_,fun n=> ?_⟩
    ·rw[Yb hk,e,hc,A];rfl
    ·have h':=h.drewN n;exact Cl.look_last g tb c d 3 (by decide) _ ⟨#[10]⟩ 10 _ (Cl.ext_size f) _ h'.p1 h'.p4 h'.p5 (u n) h'.t3 h'.c0 h'.c1 h'.c2 h'.c3 h'.c4 h'.d0 h'.d1 h'.d2 h'.d4 (by rw[Cl.ext_tail,A];rfl)
theorem Cl.rel_drewN{ι:Asg}{get:Get}{w:World}(h:Rel ι get w)(n:Nat):Rel ι get (w.drewN n):=by have st:Stp ι w ι (w.drewN n):=⟨rfl,rfl,rfl,Va _,fun _ _ h=>h,fun _ h=>h,fun _ _=>rfl,fun _ _=> .inl rfl⟩;refine⟨fun id o ho=> ?_,h.gone,h.inj,h.glob.step st⟩;obtain⟨b,e,c⟩:=h.live id o ho;exact⟨b,e,c.step st (fun _ _=>rfl)⟩
theorem Cl.Buf.drewN{ι:Asg}{get:Get}{w:World}{c id:Nat}{l:List UInt8}(h:Cl.Buf ι get w c id l)(n:Nat):Cl.Buf ι get (w.drewN n) c id l:=
 ⟨Cl.rel_drewN h.1 n,h.2⟩
theorem Cl.stp_drewN{ι ι':Asg}{w w':World}(h:Stp ι w ι' w')(n:Nat):Stp ι w ι' (w'.drewN n):=
 h.trans ⟨rfl,rfl,rfl,Va _,fun _ _ h=>h,fun _ h=>h,fun _ _=>rfl,fun _ _=> .inl rfl⟩
theorem Cl.clean_same{c:UInt8}{r:List UInt8}(h:Cl.mp c.toNat=4\/c.toNat=10):Cl.cleanS (c::r)=c::Cl.cleanS r:=by
 have h0:c≠0:=by rintro rfl;revert h;decide
 have f:c≠12:=by rintro rfl;revert h;decide
 have d:c≠13:=by rintro rfl;revert h;decide
 have b0:(c==0)=false:=Ga.2 h0;have i:(c==12)=false:=Ga.2 f;have j:(c==13)=false:=Ga.2 d;rw[Cl.cleanS]
 ·rw[b0,i,j];rfl
 ·intro m h1;exact absurd h1 d
theorem Cl.step_plain {s:ByteArray} {k c:Nat} {B:List UInt8} (h:k<s.size) (hl:c<=k) (hc:Cl.mp s[k].toNat=4\/s[k].toNat=10)
  (d:B++(s.data.toList.take k).drop c++Cl.cleanS (s.data.toList.drop k)=Cl.cleanS s.data.toList):B++(s.data.toList.take (k+1)).drop c++Cl.cleanS (s.data.toList.drop (k+1))=Cl.cleanS s.data.toList:=by
 have hk:k<s.data.toList.length:=h;have e:s.data.toList[k]=s[k]:=rfl;rw[Yb hk,Cl.clean_same (by rw[e];exact hc)]at d;rw[<-d,af hk,List.drop_append_of_le_length (by simp;omega)];simp
theorem Cl.step_hit {s val:ByteArray} {k c j:Nat} {B:List UInt8} (h:k+j<=s.size) (hl:c<=k) (hv:Cl.cleanS (s.data.toList.drop k)=val.data.toList++Cl.cleanS (s.data.toList.drop (k+j)))
  (d:B++(s.data.toList.take k).drop c++Cl.cleanS (s.data.toList.drop k)=Cl.cleanS s.data.toList):
  (B++(s.extract c k).data.toList++val.data.toList)++(s.data.toList.take (k+j)).drop (k+j)++Cl.cleanS (s.data.toList.drop (k+j))=Cl.cleanS s.data.toList:=by
 have e1:(s.data.toList.take (k+j)).drop (k+j)=[]:=Ff.2 (by simp;omega);have e2:(s.extract c k).data.toList=(s.data.toList.take k).drop c:=by rw[Lib.extract_eq];simp[List.drop_take]
 rw[e1,e2,Ab,<-d,hv];simp
theorem Cl.look_end(g:Nat)(w:World)(h1:w.cell? ⟨g,1,none⟩=some (.int .i64 0)):
  Calls Tryz.prog 306 #[.pointer (some ⟨g,0,none⟩), .string ByteArray.empty, .bool false] w fun e w'=>e= .returned (.tuple #[.string ⟨#[]⟩, .int .i64 0, .bool false])/\ ∃n,w'=w.drewN n:=
 Cl.look_nil g w h1
theorem Cl.step_end{s:ByteArray}{c:Nat}{B:List UInt8}(d:B++(s.data.toList.take s.size).drop c++Cl.cleanS (s.data.toList.drop s.size)=Cl.cleanS s.data.toList):
  B++(s.data.toList.take (s.size+1)).drop c++Cl.cleanS (s.data.toList.drop (s.size+1))=Cl.cleanS s.data.toList:=by
 have hl:s.data.toList.length=s.size:=rfl;have h1:s.data.toList.drop (s.size+1)=[]:=Ff.2 (by omega);have h2:s.data.toList.take (s.size+1)=s.data.toList:=Hd (by omega);have h3:s.data.toList.drop s.size=[]:=Ff.2 (by omega);have h4:s.data.toList.take s.size=s.data.toList:=Hd (by omega);rw[h3,h4]at d;rw[h1,h2];exact d
theorem Cl.last_of{s:ByteArray}{c:Nat}{B:List UInt8}(d:B++(s.data.toList.take (s.size+1)).drop c++Cl.cleanS (s.data.toList.drop (s.size+1))=Cl.cleanS s.data.toList):
  B++s.data.toList.drop c=Cl.cleanS s.data.toList:=by
 have h1:s.data.toList.drop (s.size+1)=[]:=Ff.2 (by have:s.data.toList.length=s.size:=rfl;omega);have h2:s.data.toList.take (s.size+1)=s.data.toList:=Hd (by have:s.data.toList.length=s.size:=rfl;omega);rw[h1,h2]at d;simpa [Cl.cleanS] using d
theorem Cl.ws{ι:Asg}{get:Get}{id:Nat}(g tb a b c d pb:Nat)(s:ByteArray)(hs:s.size<=4000)(w:World)(hT:Cl.TW w g tb a b c d)(hD: ∀x,x=g\/x=tb\/x=a\/x=b\/x=c\/x=d->Dom ι w x)(hB:Cl.Buf ι get w pb id []):
  Calls Tryz.prog 304 #[.pointer (some ⟨g,0,none⟩), .iface 307 (.pointer (some ⟨pb,0,none⟩)), .string s] w fun e w'=>(∃n:Int,e= .returned (.tuple #[.int .i64 n, .nilIface]))/\ ∃ι' get' y,Cl.Buf ι' get' w' pb y (Cl.cleanS s.data.toList)/\Stp ι w ι' w':=by
 go_enter Tryz.func304,Tryz.ntmps304
 go_wp2_with (go_at_call 305;refine(Cl.getsw _ _).mono ?_;rintro e w' ⟨rfl,rfl⟩)
 go_loopw [12,11,6,9,7] (fun i pm n last er W=>Cl.Inv ι w pb s i pm n last W/\er= .nilIface) (fun i _ _ _ _ _=>s.size+1 - (Cl.iOf i).toNat)
 case atStart=>exact⟨⟨0,0,0,ι,get,id,[],by omega,by omega,by omega,rfl,rfl,rfl,rfl,hB,Stp.refl _ _,by simp,by simp⟩,rfl⟩
 case round=>
  obtain⟨⟨k,u,N,ι',get',y,B,k1,k2,k3,rfl,rfl,rfl,rfl,r,p,v,hl⟩,rfl⟩:=ar;have f:Cl.TW wr g tb a b c d:=hT.keep fun x o hx=>World.cell?_of_block (a:=⟨x,o,none⟩) (p.keep x (hD x hx));by_cases A:k<s.size
  ·have hb:s[k].toNat<256:=s[k].toNat_lt;have e1:=f.p1;have e4:=f.p4;have e5:=f.p5;have em:=f.pm _ hb;by_cases hm:Cl.mp s[k].toNat=4
   ·rw[hm]at em;have L:=Lib.hid r;have O:=Lib.hid p;have U:=Lib.hid v;have HM:=Lib.hid hm;clear r p v f hm hB hT;have kk:(k:Int)<=(s.size:Int):=by omega
    have kn:(k:Int)≠(s.size:Int):=by omega
    go_wp2
    go_quiet (fail)
    go_wp2
    refine⟨⟨⟨k+1,u,N,ι',get',y,B,by omega,by omega,k3,rfl,rfl,rfl,rfl,L.out.drewN nq,Cl.stp_drewN O.out nq,?_,hl⟩,rfl⟩,by simp[Cl.iOf];omega⟩;exact Cl.step_plain A k2 (.inl HM.out) U.out
   ·by_cases z:s[k].toNat=10
    ·have e10:=f.t1;rw[z]at em;have L:=Lib.hid r;have O:=Lib.hid p;have U:=Lib.hid v;have a9:=Lib.hid z;have ab:wr.cell? ⟨g,6+s[k].toNat,none⟩=some (.int .u8 1):=by rw[z];exact em
     clear r p v f hm hB hT z em;have kk:(k:Int)<=(s.size:Int):=by omega
     have kn:(k:Int)≠(s.size:Int):=by omega
     go_wp2
     go_quiet (fail)
     go_wp2
     refine⟨⟨⟨k+1,u,N,ι',get',y,B,by omega,by omega,k3,rfl,rfl,rfl,rfl,L.out.drewN nq,Cl.stp_drewN O.out nq,?_,hl⟩,rfl⟩,by simp[Cl.iOf];omega⟩;exact Cl.step_plain A k2 (.inr a9.out) U.out
    ·obtain⟨m,x,val,j,m4,ab,et,j1,j2,vs,hv,J⟩:=Cl.found f A hm z;have L:=Lib.hid r;have O:=Lib.hid p;have U:=Lib.hid v;have HV:=Lib.hid hv;have HL:=Lib.hid J;clear r p v f hm hB hT z em hv J;have kk:(k:Int)<=(s.size:Int):=by omega
     have kn:(k:Int)≠(s.size:Int):=by omega
     have mn:((m:Int)==4)=false:=Ga.2 (by omega);have jn:((j:Int)==0)=false:=Ga.2 (by omega)
     go_wp2
     go_quiet (fail)
     go_wp2_with (go_at_call 306;refine(HL.out _).mono ?_;rintro e w' ⟨rfl,n2,rfl⟩)
     have kl:(u:Int)<=(k:Int):=by omega
     have V:B.length+(s.extract u k).size<=140737488355328:=by simp;omega
     have ad:=Cl.na pb
     go_region_with (go_at_call 316;refine(Cl.write (s.extract u k) (L.out.drewN _) V).mono ?_;rintro e w' ⟨rfl,a5,Z,Y,a3⟩)
     have al:(B++(s.extract u k).data.toList).length+val.size<=140737488355328:=by have:(s.extract u k).data.toList.length=(s.extract u k).size:=rfl;rw[Ba,a6,ByteArray.size_extract];omega
     clear V
     go_wp2_with (go_at_call 316;refine(Cl.write val Y al).mono ?_;rintro e w' ⟨rfl,am,a7,an,ao⟩)
     have v:=U.out;have hv:=HV.out;have a8:(s.extract u k).data.toList.length=k - u:=by have:(s.extract u k).data.toList.length=(s.extract u k).size:=rfl;rw[a6,ByteArray.size_extract];omega
     refine⟨⟨⟨k+j,k+j,_,am,a7,_,_,by omega,by omega,by omega,rfl,rfl,rfl,rfl,an,((Cl.stp_drewN O.out _).trans a3).trans ao,Cl.step_hit j2 k2 hv v,?_⟩,rfl⟩,by simp[Cl.iOf];omega⟩;have ap:val.data.toList.length=val.size:=rfl;rw[Ba,Ba,a8,ap];omega
  ·by_cases hk:k=s.size
   ·subst hk;have e1:=f.p1;have L:=Lib.hid r;have O:=Lib.hid p;have U:=Lib.hid v;clear r p v f hB hT A
    go_wp2_with (go_at_call 306;refine(Cl.look_end g _ e1).mono ?_;rintro e w' ⟨rfl,n2,rfl⟩)
    exact⟨⟨⟨s.size+1,u,N,ι',get',y,B,by omega,by omega,k3,rfl,rfl,rfl,rfl,L.out.drewN n2,Cl.stp_drewN O.out n2,Cl.step_end U.out,hl⟩,rfl⟩,by simp[Cl.iOf]⟩
   ·obtain rfl:k=s.size+1:=by omega
    have L:=Lib.hid r;have O:=Lib.hid p;have U:=Lib.hid v;clear r p v f hB hT A hk;by_cases aq:u=s.size
    ·subst aq
     go_wp2
     go_ret2;have v:=Cl.last_of U.out;have h3:s.data.toList.drop s.size=[]:=Ff.2 (Va _);rw[h3,Ab]at v;rw[<-v];exact⟨⟨N,rfl⟩,ι',get',y,L.out,O.out⟩
    ·have kl:(u:Int)≠(s.size:Int):=by omega
     have k4:(u:Int)<=(s.size:Int):=by omega
     go_wp2
     have V:B.length+(s.extract u s.size).size<=140737488355328:=by simp;omega
     have ad:=Cl.na pb
     go_region_with (go_at_call 316;refine(Cl.write (s.extract u s.size) (L.out.drewN _) V).mono ?_;rintro e w' ⟨rfl,a5,Z,Y,a3⟩)
     go_wp2
     go_ret2;have v:=Cl.last_of U.out;rw[Cl.ext_list,v]at Y;exact⟨⟨_,rfl⟩,a5,Z,_,Y,(Cl.stp_drewN O.out _).trans a3⟩
structure Cl.Gr (w w':World):Prop where
 os:w'.os=w.os
 tape:w'.tape=w.tape
 output:w'.output=w.output
 size:w.heap.size<=w'.heap.size
 old: ∀b,b<w.heap.size->w'.heap[b]? =w.heap[b]?
theorem Cl.make_run {P:Program} {w:World} {ops:Array Oper} {rest:List Oper} {o:Oper} {a:Act} {Q:Exit->Act->World->Prop} (d:o.guard=none) (t:TypeId) (l c:Operand)
  (ho:o.op= .makeSlice t l c) {f i v:Value} {w':World} (hl:a.eval l=f) (hc:a.eval c=i) (hr:(Instr.makeSlice t f i).run P w= .ok v w')
  (h:wpList P ops Q rest (a.put o.dst v) w'):wpList P ops Q (o::rest) a w:=
 wpList_plain d fun K j=>by unfold Oper.wp execOp;simp only[ho,Sem.run_bind,Sem.run_pure,Result.andThen_ok,hl,hc,hr];exact j _ _ h
def Cl.Gb(w:World):Prop:=Glob (fun b=>b<w.heap.size) w
theorem Cl.Gb.gr{w w':World}(h:Cl.Gb w)(g:Cl.Gr w w'):Cl.Gb w':=fun q c=>by obtain⟨h1,o,h2,h3⟩:=h q c;exact⟨Mc h1 g.size,o,by rw[g.old _ h1];exact h2,h3⟩
theorem Cl.nilRel(w:World)(c:Cl.Gb w):Rel (fun _=> .free) (fun _=>none) w:=⟨fun id o h=>(by cases h),fun _ _=> .inl rfl,fun i j b k k' h=>(by cases h),c.dom fun b hb=>⟨hb,fun _ _ e=>by cases e⟩⟩
theorem Cl.Buf.read{ι:Asg}{get:Get}{w:World}{m id:Nat}{l:List UInt8}(h:Cl.Buf ι get w m id l):
  ∃a n c ι' w',w.cell? ⟨m,0,none⟩=some (.slice a n c)/\(convert 306 9 (.slice a n c)).run Tryz.prog w= .ok (.string ⟨l.toArray⟩) w'/\Stp ι w ι' w':=by
 obtain⟨p,h0,hf,hp,g0,g1⟩:=h;obtain⟨b,cur,fr,e1,B,J,_,_,L,hc,_⟩:=Hz p g0 (row:=0) rfl;rw[hp]at e1;injection e1 with e1 _;injection e1 with e1;subst e1;obtain⟨v,r,y,f⟩:=hc 0 (.osl id 0 l.length) rfl;have d:w.cell? ⟨m,0,none⟩=some v:=by rw[cell_of B];exact r
 obtain⟨a,n,c,rfl⟩: ∃a n c,v= .slice a n c:=by obtain⟨U,z,_⟩:=p.live id _ g1;rcases f.2 _ _ z with⟨_,_,rfl⟩|⟨_,_,_,_,_,_,rfl,_⟩<;>exact⟨_,_,_,rfl⟩
 have hb:bytesOf ((l.map fun b=>[ag b]).take l.length)=l:=by rw[Hd (by simp)];simp[bytesOf,sw,ag,ai]
 have hrow: ∀row∈(l.map fun b=>[ag b]).take l.length,Q0 row=true:=by intro row hr;obtain⟨x,_,rfl⟩:=Oa.1 (bf hr);have:=x.toNat_lt;simp only[Q0,ag,Cc];omega
 have i:(Yg Tryz.prog get (id+1) 306 9 (.c (.osl id 0 l.length))).pre:=by simp only[Yg,Cl.kd290,Cl.kd9,Cl.kd5,rowsOf,g1,Pf];exact⟨hrow,fun o ho=>by injection ho with ho;subst ho;exact⟨rfl,by simp⟩⟩
 obtain⟨u,w',j,ι',V,A,O,W⟩:=IR (P:=Tryz.prog) (src:=306) (dst:=9) (nx:=id+1) p (hf _ (by omega)) (x:= .c (.osl id 0 l.length)) (v:= .slice a n c) ⟨y,f⟩ i;simp only[Yg,Cl.kd290,Cl.kd9,Cl.kd5,rowsOf,g1,Pf,hb]at A;obtain rfl:=jk A;exact⟨a,n,c,ι',w',d,j,O⟩
theorem Cl.start{w f:World}{m:Option Addr}{p r:Nat}{d:Asg}(J:Rel d (upd (fun _=>none) [(1,some ⟨5,1,[],none⟩)]) f)(hv:repT d f (.c (.osl 1 0 0)) (.slice m p r))(hf: ∀j,j<1\/2<=j->d j= .free)(L:Stp (fun _=> .free) w d f):
  ∃u v,Cl.Buf u v (f.alloc (.cells #[.slice m p r] 306)) f.heap.size 1 []/\Stp (fun _=> .free) w u (f.alloc (.cells #[.slice m p r] 306)):=by
 have g:Grew f (f.alloc (.cells #[.slice m p r] 306)) (.cells #[.slice m p r] 306 (0,0)):=⟨rfl,rfl,rfl,rfl⟩;obtain⟨r2,O⟩:=J.new (nx:=0) (hf 0 (by omega)) ⟨306,1,[[.osl 1 0 0]],none⟩ #[.slice m p r] (0,0) g (.inl rfl) (by simp) (by simp) (fun i row j x hi z=>by
  have A:i=0:=by have:=(Fa.1 hi).1;simpa using y
  subst A;simp at hi;subst hi;have B:j=0:=by have:=(Fa.1 z).1;simpa using y
  subst B;simp at z;subst z;exact⟨_,rfl,hv.1,hv.2⟩)
 refine⟨_,_,⟨r2,by omega,fun j z=> ?_,zL _ _ _,?_,?_⟩,L.trans O⟩
 ·rw[zB _ _ _ (by omega)];exact hf j (by omega)
 ·simp[upd]
 ·simp[upd]
theorem Cl.gr_of{ι':Asg}{w w':World}(h:Stp (fun _=> .free) w ι' w'):Cl.Gr w w':=
 ⟨h.os,h.tape,h.output,h.size,fun b hb=>h.keep b ⟨hb,fun _ _ e=>by cases e⟩⟩
theorem Cl.repl(g tb a b c d:Nat)(s:ByteArray)(hs:s.size<=4000)(w:World)(Y:Cl.Gb w)(r:Cl.TW w g tb a b c d):
  Calls Tryz.prog 303 #[.pointer (some ⟨g,0,none⟩), .string s] w fun e w'=>e= .returned (.string ⟨(Cl.cleanS s.data.toList).toArray⟩)/\Cl.Gr w w':=by
 have u:(Mk Tryz.prog 1 306 (.c (.p (.at (.int .i64 0)))) (.c (.p (.at (.int .i64 (s.size:Int)))))).pre:=by simp only[Mk,Cl.kd290];exact⟨by omega,by omega,by rw[Cl.by5];omega,by omega,by rw[Cl.sz5];omega,Cl.zok5⟩
 obtain⟨v1,w1,i,a7,r1,p1,Z,f1⟩:=pR (P:=Tryz.prog) (nx:=1) (Cl.nilRel w Y) rfl (l:= .c (.p (.at (.int .i64 0)))) (c:= .c (.p (.at (.int .i64 (s.size:Int))))) (Kj _ _) (Kj _ _) u;simp only[Mk,Cl.kd290,Cl.sz5]at r1 p1;obtain⟨a',n',c',rfl⟩: ∃a n c,v1= .slice a n c:=by obtain⟨b3,L,_⟩:=r1.live 1 ⟨5,1,[],none⟩ rfl;rcases p1.2.2 _ _ L with⟨_,_,rfl⟩|⟨_,_,_,_,_,_,rfl,_⟩<;>exact⟨_,_,_,rfl⟩
 obtain⟨a8,a5,y,m⟩:=Cl.start (w:=w) r1 p1 (fun j hj=>f1 j rfl (by omega)) Z;have f: ∀x o v,w.cell? ⟨x,o,none⟩=some v->x<w.heap.size:=fun x o v h=>World.block_lt_of_cell? w _ h;have z: ∀x,x=g\/x=tb\/x=a\/x=b\/x=c\/x=d->x<w.heap.size:=by
  rintro x (rfl|rfl|rfl|rfl|rfl|rfl)
  ·exact f _ _ _ r.p1
  ·exact f _ _ _ r.t0
  ·exact f _ _ _ r.a0
  ·exact f _ _ _ r.b0
  ·exact f _ _ _ r.c0
  ·exact f _ _ _ r.d0
 have hD: ∀x,x=g\/x=tb\/x=a\/x=b\/x=c\/x=d->Dom (fun _=> .free) w x:=fun x A=>⟨z x A,fun _ _ e=>by cases e⟩;have B:Cl.TW (w1.alloc (.cells #[.slice a' n' c'] 306)) g tb a b c d:=r.keep fun x o A=>World.cell?_of_block (a:=⟨x,o,none⟩) (m.keep x (hD x A));have HM:=Lib.hid i;have HW:=Lib.hid (Cl.ws g tb a b c d _ s hs _ B (fun x A=>m.dom x (hD x A)) y);have HS:=Lib.hid m;clear Y u r1 p1 Z f1 r i B y m hD z f;go_enter Tryz.func303,Tryz.ntmps303
 go_wp2_with (at_make;refine Cl.make_run rfl _ _ _ rfl (by rfl) (by rfl) HM.out ?_)
 refine HW.out.mono ?_;rintro e w' ⟨⟨n,rfl⟩,a9,a6,ab,O,U⟩;obtain⟨a3,n3,c3,ad,w4,J,V,W⟩:=O.read
 go_wp2
 go_ret;exact⟨rfl,Cl.gr_of ((HS.out.trans U).trans W)⟩
end Go.Proofs
