/- Contracts of library functions, of seat .ZD, in the evaluator's form: pure functions. -/
import Derived.Test.YtcdeccnjlkkejaaGreatDoorLf
import Derived.Test.YtcdeccnjlkkejaaGreatDoorSh
import Derived.Lib.ItoaNum
import Derived.Test.YtcdeccnjlkkejaaGreatDoorCa
import Derived.Lib.Walk
import Derived.Lib.ItoaWalk
import Derived.Lib.ItoaMem
import Derived.Lib.AppendIntMem
import Derived.Lib.BufferKept
import Derived.Lib.OwnKind
import Derived.Lib.Slices
import Derived.Lib.Hide
import Derived.OwnWalk
import Derived.BigCall
import Derived.BigGuard
import Derived.CellFam
import Derived.Test.YtcdeccnjlkkejaaGreatDoorIp
set_option linter.unusedSimpArgs false
set_option linter.unusedVariables false
namespace Go.Lv
open Go.Proofs Go.RowKit
set_option maxRecDepth 100000
theorem JC{ι:Asg}{w w':World}(g:Below w.heap.size w w'):Stp ι w ι w':=
 ⟨g.os,g.tape,g.output,g.size,fun b s h=>by rw[bD (g.block b (kG h))];exact h,fun b a=>⟨Xb a.1 g.size,a.2⟩,fun b a=>g.block b a.1,fun _ _=> .inl rfl⟩
theorem gP{ι:Asg}{get:Get}{w w':World}(h:Rel ι get w)(g:Below w.heap.size w w'):Rel ι get w':=
 ⟨fun id d a=>by
  obtain⟨b,e,c⟩:=h.live id d a;refine⟨b,e,c.step (JC g) (fun i f=> ?_)⟩;subst f;exact g.block _ (h.lt e),h.gone,h.inj,h.glob.step (JC g)⟩
theorem uC{ι:Asg}{w w':World}{get:Get}{nx k:Nat}{val:LV}{v:Value}(a:Rel ι get w)(g:Below w.heap.size w w')(h:repL ι w' val v):Good ι w get nx k val [] v w':=
 ⟨ι,gP a g,h,JC g,fun _ h _=>h⟩
theorem rE{ι:Asg}{get:Get}{w:World}(h:Rel ι get w){q:Nat×(Obj->Prop)}(a:q∈tabG): ∃o,w.heap[q.1]? =some o/\q.2 o:=(h.glob q a).2
theorem dM{ι:Asg}{get:Get}{w:World}(h:Rel ι get w): ∃m,w.cell? ⟨0,0,none⟩=some (.int .i64 m):=by obtain⟨o,a,d,t,c,m,rfl,b⟩:=rE h (q:=(0,jF)) (Nb ..);exact⟨m,by rw[cell_of a];exact b⟩
theorem pq{ι:Asg}{w:World}{l:Str}{ts:List TV}{vs:Array Value}{j:Nat}(h:Ai ι w ts vs)(d:ts[j]? =some (.c (.p (.str l)))):vs[j]? =some (.string ⟨l.toArray⟩):=by obtain⟨u,b,_,a⟩:=h.2 j _ d;rw[b,VI a]
theorem pz{ι:Asg}{w:World}{v:Value}{ts:List TV}{vs:Array Value}{j:Nat}(h:Ai ι w ts vs)(d:ts[j]? =some (.c (.p (.at v)))):vs[j]? =some v:=by obtain⟨u,b,_,a⟩:=h.2 j _ d;rw[b,bO a]
theorem BB{vs:Array Value}{a b:Value}(e:vs.size=2)(d:vs[0]? =some a)(c:vs[1]? =some b):vs= #[a,b]:=by
 grind
theorem mr{l:Str}(h:short l=true):(⟨l.toArray⟩:ByteArray).size<4294967281:=by unfold short at h;have:=Gc h;rw[size_mk];exact this
theorem Cm{R:Type}{b:Bool}{x:Option R}{y:R}(h:need b x=some y):b=true/\x=some y:=by
 cases b with
 |true=>simp_all
 |false=>cases h
theorem dw{l:Str}(h:mg l=true): ∀(j:Nat) b,l[j]? =some b->b.toNat<128:=fun j b a=>by
 unfold mg at h
 grind
section
variable {I:Ip} {P:Program}
theorem LP {f:FuncId} {fn:Go.Func} (g:P.funcs[f]? =some fn) (k:(fn.name== "runtime.NumGoroutine")=false) (j:fn.body.isSome=true) {F:Str×Str->Option Int}
  (h: ∀(s t:Str) (n:Int) (ι:Asg) (get:Get) (w:World),Rel ι get w->F (s,t)=some n->Calls P f #[.string ⟨s.toArray⟩, .string ⟨t.toArray⟩] w fun e w'=>e= .returned (.int .i64 n)/\Below w.heap.size w w'):
  zn P (⟨f,⟨[.str, .str],[]⟩,[],⟨[.int .i64],[]⟩,0,F⟩:Con I)where
 wf:=rfl
 ok:=fun x y b p o _ _ _=>by obtain⟨l,c⟩:=x;refine⟨⟨fn,g,k,j⟩,fun ι get w N m d _ _ a _=> ?_⟩;obtain rfl:=BB a.1 (pq (l:=l) a rfl) (pq (l:=c) a rfl);refine(h l c y ι get w d b).mono ?_;rintro e w' ⟨rfl,i⟩;exact⟨_,rfl,uC d i (by exact⟨rfl, .at _ rfl⟩)⟩
theorem KP {f:FuncId} {fn:Go.Func} (g:P.funcs[f]? =some fn) (k:(fn.name== "runtime.NumGoroutine")=false) (j:fn.body.isSome=true) {F:Str×Str->Option Str}
  (h: ∀(s t r:Str) (ι:Asg) (get:Get) (w:World),Rel ι get w->F (s,t)=some r->Calls P f #[.string ⟨s.toArray⟩, .string ⟨t.toArray⟩] w fun e w'=>e= .returned (.string ⟨r.toArray⟩)/\Below w.heap.size w w'):
  zn P (⟨f,⟨[.str, .str],[]⟩,[],⟨[.str],[]⟩,0,F⟩:Con I)where
 wf:=rfl
 ok:=fun x y b o n _ _ _=>by obtain⟨l,c⟩:=x;refine⟨⟨fn,g,k,j⟩,fun ι get w N m d _ _ a _=> ?_⟩;obtain rfl:=BB a.1 (pq (l:=l) a rfl) (pq (l:=c) a rfl);refine(h l c y ι get w d b).mono ?_;rintro e w' ⟨rfl,i⟩;exact⟨_,rfl,uC d i (by exact⟨rfl, .str _⟩)⟩
theorem J4 {f:FuncId} {fn:Go.Func} (g:P.funcs[f]? =some fn) (k:(fn.name== "runtime.NumGoroutine")=false) (j:fn.body.isSome=true) {F:Int×Int->Option Str}
  (h: ∀(s t:Int) (r:Str) (ι:Asg) (get:Get) (w:World),Rel ι get w->F (s,t)=some r->Calls P f #[.int .i64 s, .int .i64 t] w fun e w'=>e= .returned (.string ⟨r.toArray⟩)/\Below w.heap.size w w'):
  zn P (⟨f,⟨[.int .i64, .int .i64],[]⟩,[],⟨[.str],[]⟩,0,F⟩:Con I)where
 wf:=rfl
 ok:=fun x y b o n _ _ _=>by obtain⟨l,c⟩:=x;refine⟨⟨fn,g,k,j⟩,fun ι get w N m d _ _ a _=> ?_⟩;obtain rfl:=BB a.1 (pz (v:= .int .i64 l) a rfl) (pz (v:= .int .i64 c) a rfl);refine(h l c y ι get w d b).mono ?_;rintro e w' ⟨rfl,i⟩;exact⟨_,rfl,uC d i (by exact⟨rfl, .str _⟩)⟩
theorem X0 {f:FuncId} {fn:Go.Func} (i:P.funcs[f]? =some fn) (n:(fn.name== "runtime.NumGoroutine")=false) (m:fn.body.isSome=true) {F:Str×Str->Option (Str×Str×Bool)}
  (h: ∀(s t:Str) (r:Str×Str×Bool) (ι:Asg) (get:Get) (w:World),Rel ι get w->F (s,t)=some r->Calls P f #[.string ⟨s.toArray⟩, .string ⟨t.toArray⟩] w fun e w'=>e= .returned (.tuple #[.string ⟨r.1.toArray⟩, .string ⟨r.2.1.toArray⟩, .bool r.2.2])/\Below w.heap.size w w'):
  zn P (⟨f,⟨[.str, .str],[]⟩,[],⟨[.str, .str, .bool],[]⟩,0,F⟩:Con I)where
 wf:=rfl
 ok:=fun x y d q p _ _ _=>by
  obtain⟨l,c⟩:=x;refine⟨⟨fn,i,n,m⟩,fun ι get w N o g _ _ b _=> ?_⟩;obtain rfl:=BB b.1 (pq (l:=l) b rfl) (pq (l:=c) b rfl);refine(h l c y ι get w g d).mono ?_;rintro e w' ⟨rfl,k⟩;refine⟨_,rfl,uC g k ?_⟩;refine⟨_,rfl,rfl,fun j t a=> ?_⟩;rcases j with _|_|_|j
  ·injection a with a;subst a;exact⟨_,rfl,rfl, .str _⟩
  ·injection a with a;subst a;exact⟨_,rfl,rfl, .str _⟩
  ·injection a with a;subst a;exact⟨_,rfl,rfl, .at _ rfl⟩
  ·cases a
end
theorem WQ{w w':World}(h:w'=w):Below w.heap.size w w':=h▸Below.refl _ _
theorem below_drewN{w:World}(n:Nat):Below w.heap.size w (w.drewN n):=⟨rfl,rfl,rfl,Ya _,fun _ _=>rfl⟩
theorem oM{ι:Asg}{get:Get}{w:World}(h:Rel ι get w):Lib.TabIs Tryz.prog w "internal/strconv.uint64pow10" .u64 Lib.pow10Tab:=by obtain⟨o,a,t,b,rfl⟩:=rE h (q:=(1,Hu .u64 jE)) (Eb _ (Nb ..));unfold Lib.TabIs World.var?;rw[show Tryz.prog.globalNamed "internal/strconv.uint64pow10" =some 1 by kernel_rfl];simp only[Aa];rw[a];rfl
theorem K6{I:Ip}:zn Tryz.prog (⟨156,⟨[.str, .int .u8],[]⟩,[],⟨[.int .i64],[]⟩,0,Dw⟩:Con I):=
 K4 Tryz.func156 (by kernel_rfl) (by kernel_rfl) fun s c w=>Any.stringslite_IndexByte Tryz.lays217 s c w
theorem EZ{I:Ip}:zn Tryz.prog (⟨136,⟨[.str, .str],[]⟩,[],⟨[.int .i64],[]⟩,0,Xk⟩:Con I):=
 LP Tryz.func136 (by kernel_rfl) (by kernel_rfl) fun s t n k h w g i=>by obtain⟨c,f⟩:=Cm i;cases f;obtain⟨m,d⟩:=dM g;exact(Any.strings_Index Tryz.lays143 ⟨s.toArray⟩ ⟨t.toArray⟩ m w (mr c) d).mono fun e j ⟨a,b⟩=>⟨a,WQ b⟩
theorem zBJ{I:Ip}:zn Tryz.prog (⟨215,⟨[.str, .str],[]⟩,[],⟨[.str, .str, .bool],[]⟩,0,cutF⟩:Con I):=
 X0 Tryz.func215 (by kernel_rfl) (by kernel_rfl) fun s t n l h w g i=>by obtain⟨c,f⟩:=Cm i;cases f;obtain⟨m,d⟩:=dM g;exact(Any.strings_Cut Tryz.lays145 ⟨s.toArray⟩ ⟨t.toArray⟩ m w (mr c) d).mono fun e j ⟨a,k,b⟩=>⟨a,b▸below_drewN k⟩
theorem D9{I:Ip}:zn Tryz.prog (⟨214,⟨[.str, .str],[]⟩,[],⟨[.int .i64],[]⟩,0,QX⟩:Con I):=
 LP Tryz.func214 (by kernel_rfl) (by kernel_rfl) fun s t n j g w i h=>by obtain⟨a,c⟩:=Cm h;cases c;simp only[Ca]at a;obtain⟨⟨⟨d,b⟩,e⟩,f⟩:=a;exact Any.strings_IndexAny_laid Tryz.lays153 (by kernel_rfl) ⟨s.toArray⟩ ⟨t.toArray⟩ w (mr d) (mr b) (dw e) (dw f)
theorem fZ{I:Ip}:zn Tryz.prog (⟨213,⟨[.str, .str],[]⟩,[],⟨[.str],[]⟩,0,Gj⟩:Con I):=
 KP Tryz.func213 (by kernel_rfl) (by kernel_rfl) fun s t n f c w e d=>by obtain⟨a,b⟩:=Cm d;cases b;simp only[Ca]at a;exact Any.strings_TrimLeft_laid Tryz.lays161 (by kernel_rfl) ⟨s.toArray⟩ ⟨t.toArray⟩ w (mr a.1) (dw a.2)
theorem eZ{I:Ip}:zn Tryz.prog (⟨160,⟨[.str, .str],[]⟩,[],⟨[.str],[]⟩,0,ol⟩:Con I):=
 KP Tryz.func160 (by kernel_rfl) (by kernel_rfl) fun s t n l i w k d=>by
  have d:ol (s,t)=some n:=d;unfold ol at d;split at d
  ·rename_i c g;have g:t=[c]:=g;subst g;obtain⟨f,h⟩:=Cm d;cases h;simp only[Ca]at f;have:=mr f.2;exact(Any.strings_TrimRight_one Tryz.lays162 ⟨s.toArray⟩ c (Gc f.1) w (by grind)).mono fun e j ⟨a,b⟩=>⟨a,WQ b⟩
  ·cases d
theorem L6{I:Ip}:zn Tryz.prog (⟨161,⟨[.int .i64, .int .i64],[]⟩,[],⟨[.str],[]⟩,0,bn⟩:Con I):=
 J4 Tryz.func161 (by kernel_rfl) (by kernel_rfl) fun s t n m f w h g=>by
  obtain⟨c,d⟩:=Cm g;cases d;simp only[Ca,i64B]at c;obtain rfl:t=10:=Gc c.1;refine(Any.strconv_FormatInt_10 Tryz.laysM173 s (Gc c.2.1) (Gc c.2.2) w (oM h)).mono fun e l ⟨a,k,i,b⟩=>⟨a,b▸⟨rfl,rfl,rfl,?_,fun j o=> ?_⟩⟩
  ·simp_all
  ·show(w.heap++i)[j]? =w.heap[j]?
   grind
end Go.Lv

namespace Go.Proofs
open Go.Lv Go.RowKit
set_option maxRecDepth 100000
set_option maxHeartbeats 4000000
theorem Ap.idx:IntKind.u64.wrap (bits BinOp.and IntKind.u64 16 (IntKind.u64.wrap (-16))*285870213051353865) / 288230376151711744=15:=by decide+kernel
theorem Ap.trail(w:World)(a:w.cell? ⟨3,15,none⟩=some (.int .u8 4)):Calls Tryz.prog 265 #[.int .u64 16] w fun e w'=>e= .returned (.int .i64 4)/\w'=w:=by
 have b:w.cell? ⟨3,(IntKind.u64.wrap (bits BinOp.and IntKind.u64 16 (IntKind.u64.wrap (-16))*285870213051353865) / 288230376151711744).toNat,none⟩=some (.int .u8 4):=by rw[Ap.idx];exact a
 have c:=Ap.idx;go_enter Tryz.func265,Tryz.ntmps265
 go_wp2
 ·go_ret;simp_all
 all_goals (exfalso;omega)
theorem Ap.pow(w:World):Calls Tryz.prog 253 #[.int .i64 16] w fun e w'=>e= .returned (.bool true)/\w'=w:=by
 go_enter Tryz.func253,Tryz.ntmps253
 go_wp2
 ·go_ret;exact⟨rfl,rfl⟩
theorem Ap.trail0(w:World)(a:w.cell? ⟨3,15,none⟩=some (.int .u8 4)):Calls Tryz.prog 254 #[.int .u64 16] w fun e w'=>e= .returned (.int .i64 4)/\w'=w:=by
 have H:=Lib.hid (Ap.trail w a);clear a;go_enter Tryz.func254,Tryz.ntmps254
 go_wp2_with (go_at_call 265;refine H.out.mono ?_;rintro e w' ⟨rfl,rfl⟩)
 go_ret;simp_all
theorem Ap.old5{w:World}(a:w.cell? ⟨3,15,none⟩=some (.int .u8 4))(o:Obj):(w.alloc o).cell? ⟨3,15,none⟩=some (.int .u8 4):=by rw[World.cell?_alloc_lt (h:=World.block_lt_of_cell? w _ a)];exact a
theorem Ap.kd59:kdOf Tryz.prog 42= .sl 5:=by kernel_rfl
theorem Ap.good {ι:Asg} {get:Get} {w:World} {id nx:Nat} {l:Str} (hR:Rel ι get w) (hf:ι nx= .free) (hid:get id=some ⟨5,1,l.map fun b=>[bf b],none⟩) {sv:Value} (hs:repT ι w (.c (.osl id 0 l.length)) sv)
  {W:World} (hB:Below w.heap.size w W) {b o c:Nat} (hb:w.heap.size<=b) (m:Str) (hl:l.length+m.length<=140737488355328) (hc:m.length<=c) (hbW:m=[]\/b<W.heap.size) (hcell: ∀(i:Nat) x,m[i]? =some x->W.cell? ⟨b,o+i,none⟩=some (.int .u8 (x.toNat:Int))):
  ∃v w',(Builtin.append_ #[42,42] 42 #[sv, .slice (some ⟨b,o,none⟩) m.length c]).run Tryz.prog W= .ok v w'/\Go.Lv.Good ι w get nx 1 (.v (.c (.osl nx 0 (l.length+m.length)))) [(id,none),(nx,some ⟨5,1,(l++m).map fun b=>[bf b],none⟩)] v w':=by
 have hrow:(m.map fun b=>[Tu b]).map (·.map CV.p)=m.map fun b=>[bf b]:=by rw[Ob];rfl
 have hpre:(z8 Tryz.prog get nx 42 42 (.c (.osl id 0 l.length)) (.c (.p (.sl (m.map fun b=>[Tu b]))))).pre:=by
  simp only[z8,Ap.kd59,rowsOf,hid,hrow];refine⟨Cl.sz5.symm,trivial,by simp,by rw[Cl.sz5];omega,fun row hr=> ?_,?_,?_,trivial,by rw[Ap.kd59];trivial,Cl.zok5⟩
  ·obtain⟨x,_,rfl⟩:=Ka.1 hr;rw[Cl.sz5];rfl
  ·rw[Cl.by5,Xa];omega
  ·rw[Xa];omega
 have st:=JC (ι:=ι) hB;have hx:repT ι W (.c (.p (.sl (m.map fun b=>[Tu b])))) (.slice (some ⟨b,o,none⟩) m.length c):=by
  refine⟨rfl, .sl _ _ _ _ 1 b o (fun i _=> .int .u8 ((m.getD i 0).toNat:Int)) (by simp) hc (fun _=>rfl) (fun h=>⟨?_,fun id' k e=> ?_⟩) (fun row hr=> ?_) (fun i row j x hi hj=> ?_) (fun i row j x hi hj=> ?_)⟩
  ·rcases hbW with h'|h'
   ·rw[h']at h;simp at h
   ·exact h'
  ·have:=hR.lt e;omega
  ·obtain⟨x,_,rfl⟩:=Ka.1 hr;rfl
  all_goals
   obtain⟨y,hy,rfl⟩:=by simpa [Ua,Yb] using hi
   have hj0:j=0:=by have:=(Da.1 hj).1;simpa using this
   subst hj0;have hd:m.getD i 0=y:=by rw[Yd,hy];rfl
   simp only[Hd,Option.some.injEq]at hj;subst hj;simp only[hd]
   first
    |exact .at _ rfl
    |(rw[Nat.mul_one,Ae];exact hcell i y hy)
 obtain⟨v',w1,hap,ι1,r1,p1,s1,f1⟩:=kD (P:=Tryz.prog) (ts:=42) (tx:=42) (ty:=42) (nx:=nx) (gP hR hB) hf (s:= .c (.osl id 0 l.length)) (x:= .c (.p (.sl (m.map fun b=>[Tu b])))) (aC st hs) hx hpre;simp only[z8,Ap.kd59,rowsOf,hid,hrow,Xa,Cl.sz5]at r1 p1;refine⟨v',w1,hap,ι1,?_,p1,st.trans s1,f1⟩;rw[ic];rw[Od (by simp)]at r1;exact r1
theorem Ap.app {P:Program} {w:World} {C:Array Value} {d:TypeId} {ops:Array Oper} {rest:List Oper} {o:Oper} {a:Act} {Q:Exit->Act->World->Prop} (b:o.guard=none) (s x:Operand) (t u:TypeId)
  (k:o.op= .call {callee:= .builtin .append,args:= #[s,x],argTypes:= #[t,u]}) {vs vx:Value} (j:a.eval s=vs) (i:a.eval x=vx) {cond:Array Value->Prop} {G:Value->World->Prop}
  (c: ∀C,cond C-> ∃v w',(Builtin.append_ #[t,u] o.type #[vs,vx]).run P (w.alloc (.cells C d))= .ok v w'/\G v w') (f:cond C)
  (h: ∀v w',G v w'->wpList P ops Q rest (a.put o.dst v) w'):wpList P ops Q (o::rest) a (w.alloc (.cells C d)):=by
 obtain⟨v,w',e,g⟩:=c C f;exact Cl.append_run b s x t u k j i e (h v w' g)
def Ap.DG:ByteArray:={data:= #[48,49,50,51,52,53,54,55,56,57,97,98,99,100,101,102,103,104,105,106,107,108,109,110,111,112,113,114,115,116,117,118,119,120,121,122]}
theorem Ap.dg: ∀u:Fin 16,Ap.DG[u.1]'(by show u.1<36;omega)=hexD u.1:=by decide+kernel
theorem Ap.bits1 (u:Nat) (hu:u<16) (b:Value) (w:World) (c:w.cell? ⟨3,15,none⟩=some (.int .u8 4)) {G:Value->World->Prop}
  (a: ∀C:Array Value,C[64]? =some (.int .u8 ((hexD u).toNat:Int))-> ∃v w',(Builtin.append_ #[42,42] 42 #[b, .slice (some ⟨w.heap.size,64,none⟩) 1 1]).run Tryz.prog (w.alloc (.cells C 256))= .ok v w'/\G v w'):
  Calls Tryz.prog 225 #[b, .int .u64 u, .int .i64 16, .bool false, .bool true] w fun e w'=> ∃v,e= .returned (.tuple #[v, .string ⟨#[]⟩])/\G v w':=by
 have d:=Lib.hid (fun w=>Ap.pow w);have g:=Lib.hid (Ap.trail0 _ (Ap.old5 c (.cells Tryz.zeroCells256 256)));have i:=Lib.hid a;have j: ¬((u:Nat):Int)>=16:=by omega
 clear c a;go_enter Tryz.func225,Tryz.ntmps225
 go_wp2_with (first|(go_at_call 253;refine(d.out _).mono ?_;rintro e w' ⟨rfl,rfl⟩)|(go_at_call 254;refine g.out.mono ?_;rintro e w' ⟨rfl,rfl⟩))
 refine wp_loop_rounds 1 ?_;rw[rounds_succ]
 go_wp2_with (at_builtin;refine Ap.app rfl _ _ _ _ rfl (by rfl) (by rfl) i.out ?_ ?_)
 ·have f: ∀h,Ap.DG[u]'h=hexD u:=fun h=>Ap.dg ⟨u,hu⟩;have k:Tryz.zeroCells256.size=65:=by kernel_rfl
  show(Tryz.zeroCells256.setIfInBounds 64 _)[64]? =_;rw[Array.getElem?_setIfInBounds_self,La (by omega)];rw[<-f (by show u<36;omega)];rfl
 ·intro v w' l
  go_wp2
  go_ret2;simp_all
theorem Ap.and15: ∀u:Fin 256,bits BinOp.and IntKind.u64 ((u.1:Nat):Int) 15=((u.1%16:Nat):Int):=by decide+kernel
theorem Ap.bits2 (u:Nat) (p:16<=u) (hu:u<256) (b:Value) (w:World) (d:w.cell? ⟨3,15,none⟩=some (.int .u8 4)) {G:Value->World->Prop}
  (a: ∀C:Array Value,C[63]? =some (.int .u8 ((hexD (u / 16)).toNat:Int))/\C[64]? =some (.int .u8 ((hexD (u%16)).toNat:Int))-> ∃v w',(Builtin.append_ #[42,42] 42 #[b, .slice (some ⟨w.heap.size,63,none⟩) 2 2]).run Tryz.prog (w.alloc (.cells C 256))= .ok v w'/\G v w'):
  Calls Tryz.prog 225 #[b, .int .u64 u, .int .i64 16, .bool false, .bool true] w fun e w'=> ∃v,e= .returned (.tuple #[v, .string ⟨#[]⟩])/\G v w':=by
 have f:=Lib.hid (fun w=>Ap.pow w);have g:=Lib.hid (Ap.trail0 _ (Ap.old5 d (.cells Tryz.zeroCells256 256)));have j:=Lib.hid a;have m:((u:Nat):Int)>=16:=by omega
 have n: ¬((u:Nat):Int) / 16>=16:=by omega
 have l:=Ap.and15 ⟨u,hu⟩;simp only at l;clear d a;go_enter Tryz.func225,Tryz.ntmps225
 go_wp2_with (first|(go_at_call 253;refine(f.out _).mono ?_;rintro e w' ⟨rfl,rfl⟩)|(go_at_call 254;refine g.out.mono ?_;rintro e w' ⟨rfl,rfl⟩))
 refine wp_loop_rounds 2 ?_;rw[rounds_succ]
 go_wp2_with fail
 ·rw[rounds_succ]
  go_wp2_with (at_builtin;refine Ap.app rfl _ _ _ _ rfl (by rfl) (by rfl) j.out ?_ ?_)
  ·have o:Tryz.zeroCells256.size=65:=by kernel_rfl
   have c: ∀(i:Nat) (h:i<Ap.DG.size),i<16->Ap.DG[i]'h=hexD i:=fun i h k=>Ap.dg ⟨i,k⟩;refine⟨?_,?_⟩
   ·show((Tryz.zeroCells256.setIfInBounds 64 _).setIfInBounds 63 _)[63]? =_;rw[Array.getElem?_setIfInBounds_self,La (by grind),<-c _ (by show _<36;omega) (by omega)];rfl
   ·show((Tryz.zeroCells256.setIfInBounds 64 _).setIfInBounds 63 _)[64]? =_;rw[Vd (by omega),Array.getElem?_setIfInBounds_self,La (by omega),<-c _ (by show _<36;omega) (by omega)];rfl
  ·intro v w' q
   go_wp2
   go_ret2;simp_all
open Go.Lv Go.Shelf Go.RowKit Go.Sort Go.Lib
set_option maxHeartbeats 12800000
theorem Ap.kd9:kdOf Tryz.prog 9= .str:=by kernel_rfl
theorem Ap.goodS {ι:Asg} {get:Get} {w:World} {id nx:Nat} {l:Str} (u:Rel ι get w) (t:ι nx= .free) (hid:get id=some ⟨5,1,l.map fun b=>[bf b],none⟩) {g:Value} (o:repT ι w (.c (.osl id 0 l.length)) g)
  (m:Str) (y:l.length+m.length<=140737488355328):
  ∃v w',(Builtin.append_ #[42,9] 42 #[g, .string ⟨m.toArray⟩]).run Tryz.prog w= .ok v w'/\Go.Lv.Good ι w get nx 1 (.v (.c (.osl nx 0 (l.length+m.length)))) [(id,none),(nx,some ⟨5,1,(l++m).map fun b=>[bf b],none⟩)] v w':=by
 have a:(z8 Tryz.prog get nx 42 9 (.c (.osl id 0 l.length)) (.c (.p (.str m)))).pre:=by
  simp only[z8,Ap.kd59,rowsOf,hid];refine⟨Cl.sz5.symm,trivial,by simp,by rw[Cl.sz5];omega,fun j n=> ?_,?_,?_,⟨Cl.kd5,Ap.kd9⟩,by rw[Ap.kd9];trivial,Cl.zok5⟩
  ·obtain⟨x,_,rfl⟩:=Ka.1 n;rw[Cl.sz5];rfl
  ·rw[Cl.by5,Xa];omega
  ·grind
 obtain⟨k,i,f,e,d,h,r,q⟩:=kD (P:=Tryz.prog) (ts:=42) (tx:=9) (ty:=42) (nx:=nx) u t (s:= .c (.osl id 0 l.length)) (x:= .c (.p (.str m))) o (Cr m) a;simp only[z8,Ap.kd59,rowsOf,hid,Xa,Cl.sz5]at d h;refine⟨k,i,f,e,?_,h,r,q⟩;rw[ic];rw[Od (by simp)]at d;exact d
theorem Ap.u10s(u:Nat)(hu:u<100)(c:Value)(w:World){G:Value->World->Prop}(a: ∃v w',(Builtin.append_ #[42,9] 42 #[c, .string ⟨(Lib.decDigits u).toArray⟩]).run Tryz.prog w= .ok v w'/\G v w'):
  Calls Tryz.prog 190 #[c, .int .u64 u, .int .i64 10] w fun e w'=> ∃v,e= .returned v/\G v w':=by
 obtain⟨v,w',b,d⟩:=a;have g:=Lib.hid b;have f:((u:Nat):Int)<100:=by omega
 clear b;go_enter Tryz.func190,Tryz.ntmps190
 go_wp2_with (first
  |(go_at_call 222;refine(Any.internal_strconv_small Tryz.lays283 u hu _).mono ?_;rintro e w' ⟨rfl,rfl⟩)
  |(at_builtin;refine Cl.append_run rfl _ _ _ _ rfl (by rfl) (by rfl) g.out ?_))
 go_ret;exact⟨_,rfl,d⟩
theorem Ap.u10b (u:Nat) (hu:100<=u) (hu64:u<18446744073709551616) (sv:Value) (w:World) (htab:Lib.TabIs Tryz.prog w "internal/strconv.uint64pow10" .u64 Lib.pow10Tab) {G:Value->World->Prop}
  (hap: ∀W:World,Below w.heap.size w W->w.heap.size<W.heap.size->(∀(i:Nat) x,(Lib.decDigits u)[i]? =some x->W.cell? ⟨w.heap.size,0+i,none⟩=some (.int .u8 (x.toNat:Int)))->
   ∃v w',(Builtin.append_ #[42,42] 42 #[sv, .slice (some ⟨w.heap.size,0,none⟩) (Lib.decDigits u).length 24]).run Tryz.prog W= .ok v w'/\G v w'):
  Calls Tryz.prog 190 #[sv, .int .u64 u, .int .i64 10] w fun e w'=> ∃v,e= .returned v/\G v w':=by
 have t171:=Tryz.underlying226;have hu1:1<=u:=by omega
 have hnd20:Lib.nDigits u<=20:=by have:=Lib.numDigits_eq u hu1 hu64;split at this<;>omega
 have hal:Tryz.prog.arrayLen 226=24:=by kernel_rfl
 have hsl: ∀W,(Instr.sliceAt 226 (.pointer (some ⟨w.heap.size,0,none⟩)) none (some (.int .i64 (Lib.nDigits u:Int))) none).run Tryz.prog W= .ok (.slice (some ⟨w.heap.size,0,none⟩) (Lib.nDigits u) 24) W:=fun W=>by
  rw[run_sliceAt_array_h W 226 ⟨w.heap.size,0,none⟩ (by kernel_rfl) .i64 (Lib.nDigits u:Int) (by omega) (by rw[hal];omega)]
  go_simp
 have hH0:=Lib.holds_zero0 w 226 (Lib.nDigits u) (by omega);have hfmt:=Any.internal_strconv_formatBase10 Tryz.lays285 w.heap.size 0 24 u (Array.replicate (Lib.nDigits u) 0) (w.alloc (.cells Lib.zeros24 226)) hH0 (by rw[Lf];exact Lib.lt_pow_nDigits u) hu64 (by grind);rw[Lf]at hfmt;have HH0:=Lib.hid hH0;have HAP:=Lib.hid hap;have iu:(100:Int)<=(u:Int):=by omega
 have HN:=Lib.hid (fun w' (h:Lib.TabIs Tryz.prog w' "internal/strconv.uint64pow10" .u64 Lib.pow10Tab)=>Any.internal_strconv_numDigits Tryz.laysM284 u hu1 hu64 w' h);have HT:=Lib.hid (Lib.tabIs_alloc htab (.cells Lib.zeros24 226));clear hH0 hal hap htab;go_enter Tryz.func190,Tryz.ntmps190
 go_wp2_with (go_at_call 223;refine(HN.out _ HT.out).mono ?_;rintro e w' ⟨rfl,rfl⟩)
 go_at_call 224
 refine hfmt.mono ?_;rintro e w' ⟨rfl,k,v',dk,rfl,hF⟩;have hcells: ∀(j:Nat) x,(Lib.decDigits u)[j]? =some x->((putRow (fun(b:UInt8)=>Value.int .u8 (b.toNat:Int)) (w.alloc (.cells Lib.zeros24 226)) w.heap.size 0 dk).drewN k).cell? ⟨w.heap.size,0+j,none⟩=some (.int .u8 (x.toNat:Int)):=by intro j x hj;have hjl:j<(Lib.decDigits u).length:=(Da.1 hj).1;have hx:(Lib.decDigits u)[j]=x:=(Da.1 hj).2;rw[<-hx,Lib.row_is_numeral hF j hjl,World.cell?_drewN];exact cell?_putRow (fun(b:UInt8)=>Value.int .u8 (b.toNat:Int)) _ w.heap.size 0 _ dk HH0.out (by rw[hF.size,Lf]) j (by rw[hF.size];rw[Lib.decDigits_length]at hjl;exact hjl)
 obtain⟨os,eo⟩:=Lib.fin_at w (.cells Lib.zeros24 226) dk k 0;have hnx2:Below w.heap.size w ((putRow (fun(b:UInt8)=>Value.int .u8 (b.toNat:Int)) (w.alloc (.cells Lib.zeros24 226)) w.heap.size 0 dk).drewN k):=by rw[eo];exact Lib.below_grow w.heap.size w (Ya _) k os
 have hsz2:w.heap.size<((putRow (fun(b:UInt8)=>Value.int .u8 (b.toNat:Int)) (w.alloc (.cells Lib.zeros24 226)) w.heap.size 0 dk).drewN k).heap.size:=by
  have h0:0<(Lib.decDigits u).length:=by rw[Lib.decDigits_length];exact Lib.nDigits_pos u
  exact World.block_lt_of_cell? _ _ (hcells 0 _ (Ja h0))
 obtain⟨v2,w3,hrun,hG⟩:=HAP.out _ hnx2 hsz2 hcells;rw[Lib.decDigits_length]at hrun;generalize (putRow (fun(b:UInt8)=>Value.int .u8 (b.toNat:Int)) (w.alloc (.cells Lib.zeros24 226)) w.heap.size 0 dk).drewN k=W2 at hrun ⊢;clear eo HH0 hfmt hcells hnx2 hsz2 HAP HN HT;have HR:=Lib.hid hrun;clear hrun
 go_wp2_with (at_builtin;refine Cl.append_run rfl _ _ _ _ rfl (by rfl) (by rfl) HR.out ?_)
 go_ret;exact⟨_,rfl,hG⟩
theorem Ap.int186(u:Nat)(hu:u<=9223372036854775807)(a:Value)(w:World){G:Value->World->Prop}(h:Calls Tryz.prog 190 #[a, .int .u64 u, .int .i64 10] w fun e w'=> ∃v,e= .returned v/\G v w'):
  Calls Tryz.prog 191 #[a, .int .i64 u, .int .i64 10] w fun e w'=> ∃v,e= .returned v/\G v w':=by
 have H:=Lib.hid h;have f: ¬((u:Nat):Int)<0:=by omega
 have g:IntKind.u64.wrap ((u:Nat):Int)=(u:Int):=by rw[IntKind.wrap_u64];omega
 clear h;go_enter Tryz.func191,Tryz.ntmps191
 go_wp2_with (go_at_call 190;refine H.out.mono ?_;rintro e d ⟨c,rfl,b⟩)
 go_ret;exact⟨_,rfl,b⟩
theorem Ap.int143(u:Nat)(a:Value)(w:World){G:Value->World->Prop}(h:Calls Tryz.prog 191 #[a, .int .i64 u, .int .i64 10] w fun e w'=> ∃v,e= .returned v/\G v w'):
  Calls Tryz.prog 159 #[a, .int .i64 u, .int .i64 10] w fun e w'=> ∃v,e= .returned v/\G v w':=by
 have H:=Lib.hid h;clear h;go_enter Tryz.func159,Tryz.ntmps159
 go_wp2_with (go_at_call 191;refine H.out.mono ?_;rintro e c ⟨d,rfl,b⟩)
 go_ret;simp_all
theorem Ap.uint185(u:Nat)(a:Value)(w:World){G:Value->World->Prop}(h:Calls Tryz.prog 225 #[a, .int .u64 u, .int .i64 16, .bool false, .bool true] w fun e w'=> ∃v,e= .returned (.tuple #[v, .string ⟨#[]⟩])/\G v w'):
  Calls Tryz.prog 190 #[a, .int .u64 u, .int .i64 16] w fun e w'=> ∃v,e= .returned v/\G v w':=by
 have H:=Lib.hid h;clear h;go_enter Tryz.func190,Tryz.ntmps190
 go_wp2_with (go_at_call 225;refine H.out.mono ?_;rintro e c ⟨d,rfl,b⟩)
 go_ret;simp_all
theorem Ap.uint142(u:Nat)(a:Value)(w:World){G:Value->World->Prop}(h:Calls Tryz.prog 190 #[a, .int .u64 u, .int .i64 16] w fun e w'=> ∃v,e= .returned v/\G v w'):
  Calls Tryz.prog 158 #[a, .int .u64 u, .int .i64 16] w fun e w'=> ∃v,e= .returned v/\G v w':=by
 have H:=Lib.hid h;clear h;go_enter Tryz.func158,Tryz.ntmps158
 go_wp2_with (go_at_call 190;refine H.out.mono ?_;rintro e c ⟨d,rfl,b⟩)
 go_ret;simp_all
end Go.Proofs
namespace Go.Lv
open Go.Proofs Go.RowKit
set_option maxRecDepth 100000
theorem zBp{u:Nat}(h:u<18446744073709551616):(Lib.decDigits u).length<=20:=by
 rw[Lib.decDigits_length];by_cases h1:u=0
 ·subst h1;rw[Lib.nDigits_small (by omega)];omega
 ·have:=Lib.numDigits_eq u (by omega) h;split at this<;>omega
theorem oZ{vs:Array Value}{a b c:Value}(f:vs.size=3)(e:vs[0]? =some a)(d:vs[1]? =some b)(h2:vs[2]? =some c):vs= #[a,b,c]:=by
 grind
theorem zDX(l:Str):(l.map fun b=>(VT.I.full 5 b).map CV.p)=l.map fun b=>[bf b]:=Na fun b _=>rfl
theorem u8ob(l:Str):(⟨5,1,l.map fun b=>(VT.I.full 5 b).map CV.p,none⟩:OB)=⟨5,1,l.map fun b=>[bf b],none⟩:=by rw[zDX]
theorem MP {f:FuncId} {fn:Go.Func} {k1:IntKind} (hf:Tryz.prog.funcs[f]? =some fn) (hn:(fn.name== "runtime.NumGoroutine")=false) (hb:fn.body.isSome=true) {F:(Int×Int)×Str->Option Str}
  (h: ∀(i b:Int) (l r:Str) (sv:Value) (ι:Asg) (get:Get) (w:World) (id nx:Nat),F ((i,b),l)=some r->Rel ι get w->ι nx= .free->get id=some ⟨5,1,l.map fun b=>[bf b],none⟩->repT ι w (.c (.osl id 0 l.length)) sv->
   Calls Tryz.prog f #[sv, .int k1 i, .int .i64 b] w fun e w'=> ∃v,e= .returned v/\Good ι w get nx 1 (.v (.c (.osl nx 0 r.length))) [(id,none),(nx,some ⟨5,1,r.map fun b=>[bf b],none⟩)] v w'):
  zn Tryz.prog (⟨f,⟨[.own 0, .int k1, .int .i64],[(0, .sl 5)]⟩,[],⟨[.own 1],[(1, .sl 5)]⟩,1,F⟩:Con VT.I)where
 wf:=rfl
 ok:=fun x y hxy ρ nx hinj hlt hnew=>by
  obtain⟨⟨i,b⟩,l⟩:=x;refine⟨⟨fn,hf,hn,hb⟩,fun ι get w N vs hR hN hfr ha hrd=> ?_⟩;obtain⟨sv,hsv,hrep⟩:=ha.2 0 (.c (.osl (ρ 0) 0 (List.length (α:=UInt8) l))) rfl;obtain rfl:=oZ ha.1 hsv (pz (v:= .int k1 i) ha rfl) (pz (v:= .int .i64 b) ha rfl);have hid:get (ρ 0)=some ⟨5,1,l.map fun b=>[bf b],none⟩:=by have:=hrd (ρ 0,⟨5,1,l.map fun b=>(VT.I.full 5 b).map .p,none⟩) (Nb ..);exact this.trans (congrArg some (u8ob l))
  have hr1:ρ 1=nx:=hnew 0;have hl:ρ 0<nx\/nx+1<=ρ 0:=hlt 0 (Nat.zero_lt_one);have hne:ρ 0≠nx:=by omega
  refine(h i b l y sv ι get w (ρ 0) nx hxy hR (hfr 0 (Nat.zero_lt_one)) hid hrep).mono ?_;rintro e w' ⟨v,rfl,ι',q1,q2,q3,q4⟩;refine⟨v,rfl,ι',?_,?_,q3,q4⟩
  ·rw[<-UN (fun h=>hne h.symm)]at q1;have e:upd get [(ρ 1,some ⟨5,1,List.map (fun b=>(VT.I.full 5 b).map CV.p) y,none⟩),(ρ 0,none)]=upd get [(nx,some ⟨5,1,List.map (fun b=>[bf b]) y,none⟩),(ρ 0,none)]:=by rw[hr1];exact congrArg (fun o=>upd get [(nx,some o),(ρ 0,none)]) (u8ob y)
   exact e▸q1
  ·show repL ι' w' (.v (.c (.osl (ρ 1) 0 (List.length (α:=UInt8) y)))) v
   grind
theorem V8:zn Tryz.prog (⟨159,⟨[.own 0, .int .i64, .int .i64],[(0, .sl 5)]⟩,[],⟨[.own 1],[(1, .sl 5)]⟩,1,Io⟩:Con VT.I):=
 MP Tryz.func159 (by kernel_rfl) (by kernel_rfl) fun i b l r a t m w id x n d g hid f=>by
  obtain⟨e,j⟩:=Cm n;cases j;simp only[Ca,jb,short]at e;obtain⟨⟨⟨rfl,v⟩,q⟩,s⟩:=e;obtain⟨u,rfl⟩: ∃u:Nat,i=u:=⟨i.toNat,by omega⟩;simp only[Ic];have k:=zBp (u:=u) (by omega);refine Ap.int143 u a w (Ap.int186 u (by omega) a w ?_);rw[Ia];by_cases o:u<100
  ·exact Ap.u10s u o a w (Ap.goodS d g hid f _ (by omega))
  ·exact Ap.u10b u (by omega) (by omega) a w (oM d) fun W p c h=>Ap.good d g hid f p (Ya _) _ (by omega) (by omega) (.inr c) h
theorem xQ{ι:Asg}{get:Get}{w:World}(h:Rel ι get w):w.cell? ⟨3,15,none⟩=some (.int .u8 4):=by obtain⟨o,a,t,b,rfl⟩:=rE h (q:=(3,Hu .u8 Gx)) (Eb _ (Eb _ (Nb ..)));rw[cell_of a];rfl
theorem N7:zn Tryz.prog (⟨158,⟨[.own 0, .int .u64, .int .i64],[(0, .sl 5)]⟩,[],⟨[.own 1],[(1, .sl 5)]⟩,1,Ho⟩:Con VT.I):=
 MP Tryz.func158 (by kernel_rfl) (by kernel_rfl) fun i b l r d t n w id y p e j hid h=>by
  obtain⟨g,m⟩:=Cm p;cases m;simp only[Ca,jb,short]at g;obtain⟨⟨⟨rfl,v⟩,q⟩,s⟩:=g;obtain⟨u,rfl⟩: ∃u:Nat,i=u:=⟨i.toNat,by omega⟩;simp only[Ic];refine Ap.uint142 u d w (Ap.uint185 u d w ?_);rw[Ia];by_cases f:u<16
  ·rw[show hexS u=[hexD u] by unfold hexS;rw[La f]];refine Ap.bits1 u f d w (xQ e) fun C k=> ?_;refine Ap.good e j hid h (b:=w.heap.size) (o:=64) (c:=1) ((Below.refl _ w).alloc (Ya _) _) (Ya _) [hexD u] (by simp;omega) (by simp) (.inr (by simp_all)) (fun i x a=> ?_)
   match i,a with
   |0,a=> simp_all
  ·rw[show hexS u=[hexD (u / 16),hexD (u%16)] by unfold hexS;rw[Ga f]];refine Ap.bits2 u (by omega) (by omega) d w (xQ e) fun C k=> ?_;refine Ap.good e j hid h (b:=w.heap.size) (o:=63) (c:=2) ((Below.refl _ w).alloc (Ya _) _) (Ya _) [hexD (u / 16),hexD (u%16)] (by simp;omega) (by simp) (.inr (by simp_all)) (fun i x a=> ?_)
   match i,a with
   |0,a=> simp_all
   |1,a=> simp_all
end Go.Lv
