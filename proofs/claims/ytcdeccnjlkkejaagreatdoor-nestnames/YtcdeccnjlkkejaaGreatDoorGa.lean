/- Contracts of library functions, of seat .ZD, in the evaluator's form: pure functions. -/
import Derived.Test.YtcdeccnjlkkejaaGreatDoorLf
import Derived.Test.YtcdeccnjlkkejaaGreatDoorSh
import Derived.Lib.ItoaNum
import Derived.Test.YtcdeccnjlkkejaaGreatDoorCa
import Derived.Lib.Walk
import Derived.Lib.ItoaWalk
import Derived.Lib.ItoaMem
import Derived.Lib.AppendIntMem
import Derived.Lib.BufferKept
import Derived.Lib.OwnKind
import Derived.Lib.Slices
import Derived.Lib.Hide
import Derived.OwnWalk
import Derived.BigCall
import Derived.BigGuard
import Derived.CellFam
import Derived.Test.YtcdeccnjlkkejaaGreatDoorIp
set_option linter.unusedSimpArgs false
set_option linter.unusedVariables false
namespace Go.Lv
open Go.Proofs Go.RowKit
set_option maxRecDepth 100000
theorem Gt{ι:Asg}{w w':World}(g:Below w.heap.size w w'):Stp ι w ι w':=
 ⟨g.os,g.tape,g.output,g.size,fun b s h=>by rw[Tu (g.block b (Jw h))];exact h,fun b hb=>⟨Kb hb.1 g.size,hb.2⟩,fun b hb=>g.block b hb.1,fun _ _=> .inl rfl⟩
theorem RD{ι:Asg}{get:Get}{w w':World}(h:Rel ι get w)(g:Below w.heap.size w w'):Rel ι get w':=
 ⟨fun id o' ho=>by
  obtain⟨b,e,h2⟩:=h.live id o' ho;refine⟨b,e,h2.step (Gt g) (fun b' hb=> ?_)⟩;subst hb;exact g.block _ (h.lt e),h.gone,h.inj,h.glob.step (Gt g)⟩
theorem Au{ι:Asg}{w w':World}{get:Get}{nx k:Nat}{val:LV}{v:Value}(hR:Rel ι get w)(g:Below w.heap.size w w')(h:repL ι w' val v):Good ι w get nx k val [] v w':=
 ⟨ι,RD hR g,h,Gt g,fun _ h _=>h⟩
theorem Gv{ι:Asg}{get:Get}{w:World}(h:Rel ι get w){q:Nat×(Obj->Prop)}(hq:q∈tabG): ∃o,w.heap[q.1]? =some o/\q.2 o:=(h.glob q hq).2
theorem yB{ι:Asg}{get:Get}{w:World}(h:Rel ι get w): ∃m,w.cell? ⟨0,0,none⟩=some (.int .i64 m):=by obtain⟨o,h1,cs,t,fr,m,rfl,h2⟩:=Gv h (q:=(0,Vv)) (Ib ..);exact⟨m,by rw[cell_of h1];exact h2⟩
theorem Hl{ι:Asg}{w:World}{l:Str}{ts:List TV}{vs:Array Value}{j:Nat}(h:bg ι w ts vs)(hj:ts[j]? =some (.c (.p (.str l)))):vs[j]? =some (.string ⟨l.toArray⟩):=by obtain⟨u,hu,_,hr⟩:=h.2 j _ hj;rw[hu,Fy hr]
theorem gq{ι:Asg}{w:World}{v:Value}{ts:List TV}{vs:Array Value}{j:Nat}(h:bg ι w ts vs)(hj:ts[j]? =some (.c (.p (.at v)))):vs[j]? =some v:=by obtain⟨u,hu,_,hr⟩:=h.2 j _ hj;rw[hu,YD hr]
theorem Nr{vs:Array Value}{a b:Value}(hs:vs.size=2)(h0:vs[0]? =some a)(h1:vs[1]? =some b):vs= #[a,b]:=by
 apply Array.ext
 ·simp[hs]
 ·intro i hi hi';have:i=0\/i=1:=by omega
  rcases this with rfl|rfl
  ·exact(Ub.1 h0).2
  ·exact(Ub.1 h1).2
theorem Jl{l:Str}(h:short l=true):(⟨l.toArray⟩:ByteArray).size<4294967281:=by unfold short at h;have:=Sb h;rw[size_mk];exact this
theorem Ti{R:Type}{b:Bool}{x:Option R}{y:R}(h:need b x=some y):b=true/\x=some y:=by
 cases b with
 |true=>exact⟨rfl,h⟩
 |false=>cases h
theorem Ws{l:Str}(h:Dj l=true): ∀(j:Nat) b,l[j]? =some b->b.toNat<128:=fun j b hb=>by unfold Dj at h;exact Sb (La.1 h b (Ia hb))
section
variable {I:Ip} {P:Program}
theorem yC {f:FuncId} {fn:Go.Func} (hf:P.funcs[f]? =some fn) (hn:(fn.name== "runtime.NumGoroutine")=false) (hb:fn.body.isSome=true) {F:Str×Str->Option Int}
  (h: ∀(s t:Str) (n:Int) (ι:Asg) (get:Get) (w:World),Rel ι get w->F (s,t)=some n->Calls P f #[.string ⟨s.toArray⟩, .string ⟨t.toArray⟩] w fun e w'=>e= .returned (.int .i64 n)/\Below w.heap.size w w'):
  zm P (⟨f,⟨[.str, .str],[]⟩,[],⟨[.int .i64],[]⟩,0,F⟩:Con I)where
 wf:=rfl
 ok:=fun x y hxy ρ nx _ _ _=>by obtain⟨l,c⟩:=x;refine⟨⟨fn,hf,hn,hb⟩,fun ι get w N vs hR _ _ ha _=> ?_⟩;obtain rfl:=Nr ha.1 (Hl (l:=l) ha rfl) (Hl (l:=c) ha rfl);refine(h l c y ι get w hR hxy).mono ?_;rintro e w' ⟨rfl,hB⟩;exact⟨_,rfl,Au hR hB (by exact⟨rfl, .at _ rfl⟩)⟩
theorem xC {f:FuncId} {fn:Go.Func} (hf:P.funcs[f]? =some fn) (hn:(fn.name== "runtime.NumGoroutine")=false) (hb:fn.body.isSome=true) {F:Str×Str->Option Str}
  (h: ∀(s t r:Str) (ι:Asg) (get:Get) (w:World),Rel ι get w->F (s,t)=some r->Calls P f #[.string ⟨s.toArray⟩, .string ⟨t.toArray⟩] w fun e w'=>e= .returned (.string ⟨r.toArray⟩)/\Below w.heap.size w w'):
  zm P (⟨f,⟨[.str, .str],[]⟩,[],⟨[.str],[]⟩,0,F⟩:Con I)where
 wf:=rfl
 ok:=fun x y hxy ρ nx _ _ _=>by obtain⟨l,c⟩:=x;refine⟨⟨fn,hf,hn,hb⟩,fun ι get w N vs hR _ _ ha _=> ?_⟩;obtain rfl:=Nr ha.1 (Hl (l:=l) ha rfl) (Hl (l:=c) ha rfl);refine(h l c y ι get w hR hxy).mono ?_;rintro e w' ⟨rfl,hB⟩;exact⟨_,rfl,Au hR hB (by exact⟨rfl, .str _⟩)⟩
theorem iM {f:FuncId} {fn:Go.Func} (hf:P.funcs[f]? =some fn) (hn:(fn.name== "runtime.NumGoroutine")=false) (hb:fn.body.isSome=true) {F:Int×Int->Option Str}
  (h: ∀(s t:Int) (r:Str) (ι:Asg) (get:Get) (w:World),Rel ι get w->F (s,t)=some r->Calls P f #[.int .i64 s, .int .i64 t] w fun e w'=>e= .returned (.string ⟨r.toArray⟩)/\Below w.heap.size w w'):
  zm P (⟨f,⟨[.int .i64, .int .i64],[]⟩,[],⟨[.str],[]⟩,0,F⟩:Con I)where
 wf:=rfl
 ok:=fun x y hxy ρ nx _ _ _=>by obtain⟨l,c⟩:=x;refine⟨⟨fn,hf,hn,hb⟩,fun ι get w N vs hR _ _ ha _=> ?_⟩;obtain rfl:=Nr ha.1 (gq (v:= .int .i64 l) ha rfl) (gq (v:= .int .i64 c) ha rfl);refine(h l c y ι get w hR hxy).mono ?_;rintro e w' ⟨rfl,hB⟩;exact⟨_,rfl,Au hR hB (by exact⟨rfl, .str _⟩)⟩
theorem mM {f:FuncId} {fn:Go.Func} (hf:P.funcs[f]? =some fn) (hn:(fn.name== "runtime.NumGoroutine")=false) (hb:fn.body.isSome=true) {F:Str×Str->Option (Str×Str×Bool)}
  (h: ∀(s t:Str) (r:Str×Str×Bool) (ι:Asg) (get:Get) (w:World),Rel ι get w->F (s,t)=some r->Calls P f #[.string ⟨s.toArray⟩, .string ⟨t.toArray⟩] w fun e w'=>e= .returned (.tuple #[.string ⟨r.1.toArray⟩, .string ⟨r.2.1.toArray⟩, .bool r.2.2])/\Below w.heap.size w w'):
  zm P (⟨f,⟨[.str, .str],[]⟩,[],⟨[.str, .str, .bool],[]⟩,0,F⟩:Con I)where
 wf:=rfl
 ok:=fun x y hxy ρ nx _ _ _=>by
  obtain⟨l,c⟩:=x;refine⟨⟨fn,hf,hn,hb⟩,fun ι get w N vs hR _ _ ha _=> ?_⟩;obtain rfl:=Nr ha.1 (Hl (l:=l) ha rfl) (Hl (l:=c) ha rfl);refine(h l c y ι get w hR hxy).mono ?_;rintro e w' ⟨rfl,hB⟩;refine⟨_,rfl,Au hR hB ?_⟩;refine⟨_,rfl,rfl,fun j t ht=> ?_⟩;rcases j with _|_|_|j
  ·injection ht with ht;subst ht;exact⟨_,rfl,rfl, .str _⟩
  ·injection ht with ht;subst ht;exact⟨_,rfl,rfl, .str _⟩
  ·injection ht with ht;subst ht;exact⟨_,rfl,rfl, .at _ rfl⟩
  ·cases ht
end
theorem yD{w w':World}(h:w'=w):Below w.heap.size w w':=h▸Below.refl _ _
theorem below_drewN{w:World}(n:Nat):Below w.heap.size w (w.drewN n):=⟨rfl,rfl,rfl,Ma _,fun _ _=>rfl⟩
theorem iB{ι:Asg}{get:Get}{w:World}(h:Rel ι get w):Lib.TabIs Tryz.prog w "internal/strconv.uint64pow10" .u64 Lib.pow10Tab:=by obtain⟨o,h1,t,fr,rfl⟩:=Gv h (q:=(1,Jm .u64 uu)) (Fb _ (Ib ..));unfold Lib.TabIs World.var?;rw[show Tryz.prog.globalNamed "internal/strconv.uint64pow10" =some 1 by kernel_rfl];simp only[aa];rw[h1];rfl
theorem WN{I:Ip}:zm Tryz.prog (⟨156,⟨[.str, .int .u8],[]⟩,[],⟨[.int .i64],[]⟩,0,yn⟩:Con I):=
 jM Tryz.func156 (by kernel_rfl) (by kernel_rfl) fun s c w=>Any.stringslite_IndexByte Tryz.lays217 s c w
theorem BL{I:Ip}:zm Tryz.prog (⟨136,⟨[.str, .str],[]⟩,[],⟨[.int .i64],[]⟩,0,Kj⟩:Con I):=
 yC Tryz.func136 (by kernel_rfl) (by kernel_rfl) fun s t n ι get w hR hF=>by obtain⟨h1,h2⟩:=Ti hF;cases h2;obtain⟨m,hm⟩:=yB hR;exact(Any.strings_Index Tryz.lays143 ⟨s.toArray⟩ ⟨t.toArray⟩ m w (Jl h1) hm).mono fun e w' ⟨a,b⟩=>⟨a,yD b⟩
theorem yI{I:Ip}:zm Tryz.prog (⟨215,⟨[.str, .str],[]⟩,[],⟨[.str, .str, .bool],[]⟩,0,cutF⟩:Con I):=
 mM Tryz.func215 (by kernel_rfl) (by kernel_rfl) fun s t n ι get w hR hF=>by obtain⟨h1,h2⟩:=Ti hF;cases h2;obtain⟨m,hm⟩:=yB hR;exact(Any.strings_Cut Tryz.lays145 ⟨s.toArray⟩ ⟨t.toArray⟩ m w (Jl h1) hm).mono fun e w' ⟨a,k,b⟩=>⟨a,b▸below_drewN k⟩
theorem eP{I:Ip}:zm Tryz.prog (⟨214,⟨[.str, .str],[]⟩,[],⟨[.int .i64],[]⟩,0,wo⟩:Con I):=
 yC Tryz.func214 (by kernel_rfl) (by kernel_rfl) fun s t n ι get w hR hF=>by obtain⟨h1,h2⟩:=Ti hF;cases h2;simp only[Ca]at h1;obtain⟨⟨⟨a1,a2⟩,a3⟩,a4⟩:=h1;exact Any.strings_IndexAny_laid Tryz.lays153 (by kernel_rfl) ⟨s.toArray⟩ ⟨t.toArray⟩ w (Jl a1) (Jl a2) (Ws a3) (Ws a4)
theorem AL{I:Ip}:zm Tryz.prog (⟨213,⟨[.str, .str],[]⟩,[],⟨[.str],[]⟩,0,si⟩:Con I):=
 xC Tryz.func213 (by kernel_rfl) (by kernel_rfl) fun s t n ι get w hR hF=>by obtain⟨h1,h2⟩:=Ti hF;cases h2;simp only[Ca]at h1;exact Any.strings_TrimLeft_laid Tryz.lays161 (by kernel_rfl) ⟨s.toArray⟩ ⟨t.toArray⟩ w (Jl h1.1) (Ws h1.2)
theorem yK{I:Ip}:zm Tryz.prog (⟨160,⟨[.str, .str],[]⟩,[],⟨[.str],[]⟩,0,Tk⟩:Con I):=
 xC Tryz.func160 (by kernel_rfl) (by kernel_rfl) fun s t n ι get w hR hF=>by
  have hF:Tk (s,t)=some n:=hF;unfold Tk at hF;split at hF
  ·rename_i c hc;have hc:t=[c]:=hc;subst hc;obtain⟨h1,h2⟩:=Ti hF;cases h2;simp only[Ca]at h1;have:=Jl h1.2;exact(Any.strings_TrimRight_one Tryz.lays162 ⟨s.toArray⟩ c (Sb h1.1) w (by show(⟨s.toArray⟩:ByteArray).size<=_;omega)).mono fun e w' ⟨a,b⟩=>⟨a,yD b⟩
  ·cases hF
theorem XN{I:Ip}:zm Tryz.prog (⟨161,⟨[.int .i64, .int .i64],[]⟩,[],⟨[.str],[]⟩,0,uq⟩:Con I):=
 iM Tryz.func161 (by kernel_rfl) (by kernel_rfl) fun s t n ι get w hR hF=>by
  obtain⟨h1,h2⟩:=Ti hF;cases h2;simp only[Ca,i64B]at h1;obtain rfl:t=10:=Sb h1.1;refine(Any.strconv_FormatInt_10 Tryz.laysM173 s (Sb h1.2.1) (Sb h1.2.2) w (iB hR)).mono fun e w' ⟨a,k,os,b⟩=>⟨a,b▸⟨rfl,rfl,rfl,?_,fun j hj=> ?_⟩⟩
  ·show w.heap.size<=(w.heap++os).size;simp
  ·show(w.heap++os)[j]? =w.heap[j]?;exact Array.getElem?_append_left hj
end Go.Lv

namespace Go.Proofs
open Go.Lv Go.RowKit
set_option maxRecDepth 100000
set_option maxHeartbeats 4000000
theorem Ap.idx:IntKind.u64.wrap (bits BinOp.and IntKind.u64 16 (IntKind.u64.wrap (-16))*285870213051353865) / 288230376151711744=15:=by decide+kernel
theorem Ap.trail(w:World)(hT:w.cell? ⟨3,15,none⟩=some (.int .u8 4)):Calls Tryz.prog 265 #[.int .u64 16] w fun e w'=>e= .returned (.int .i64 4)/\w'=w:=by
 have hT':w.cell? ⟨3,(IntKind.u64.wrap (bits BinOp.and IntKind.u64 16 (IntKind.u64.wrap (-16))*285870213051353865) / 288230376151711744).toNat,none⟩=some (.int .u8 4):=by rw[Ap.idx];exact hT
 have hi:=Ap.idx;go_enter Tryz.func265,Tryz.ntmps265
 go_wp2
 ·go_ret;exact⟨rfl,rfl⟩
 all_goals (exfalso;omega)
theorem Ap.pow(w:World):Calls Tryz.prog 253 #[.int .i64 16] w fun e w'=>e= .returned (.bool true)/\w'=w:=by
 go_enter Tryz.func253,Tryz.ntmps253
 go_wp2
 ·go_ret;exact⟨rfl,rfl⟩
theorem Ap.trail0(w:World)(hT:w.cell? ⟨3,15,none⟩=some (.int .u8 4)):Calls Tryz.prog 254 #[.int .u64 16] w fun e w'=>e= .returned (.int .i64 4)/\w'=w:=by
 have H:=Lib.hid (Ap.trail w hT);clear hT;go_enter Tryz.func254,Tryz.ntmps254
 go_wp2_with (go_at_call 265;refine H.out.mono ?_;rintro e w' ⟨rfl,rfl⟩)
 go_ret;exact⟨rfl,rfl⟩
theorem Ap.old5{w:World}(hT:w.cell? ⟨3,15,none⟩=some (.int .u8 4))(o:Obj):(w.alloc o).cell? ⟨3,15,none⟩=some (.int .u8 4):=by rw[World.cell?_alloc_lt (h:=World.block_lt_of_cell? w _ hT)];exact hT
theorem Ap.kd59:kdOf Tryz.prog 42= .sl 5:=by kernel_rfl
theorem Ap.good {ι:Asg} {get:Get} {w:World} {id nx:Nat} {l:Str} (hR:Rel ι get w) (hf:ι nx= .free) (hid:get id=some ⟨5,1,l.map fun b=>[ve b],none⟩) {sv:Value} (hs:repT ι w (.c (.osl id 0 l.length)) sv)
  {W:World} (hB:Below w.heap.size w W) {b o c:Nat} (hb:w.heap.size<=b) (m:Str) (hl:l.length+m.length<=140737488355328) (hc:m.length<=c) (hbW:m=[]\/b<W.heap.size) (hcell: ∀(i:Nat) x,m[i]? =some x->W.cell? ⟨b,o+i,none⟩=some (.int .u8 (x.toNat:Int))):
  ∃v w',(Builtin.append_ #[42,42] 42 #[sv, .slice (some ⟨b,o,none⟩) m.length c]).run Tryz.prog W= .ok v w'/\Go.Lv.Good ι w get nx 1 (.v (.c (.osl nx 0 (l.length+m.length)))) [(id,none),(nx,some ⟨5,1,(l++m).map fun b=>[ve b],none⟩)] v w':=by
 have hrow:(m.map fun b=>[Lm b]).map (·.map CV.p)=m.map fun b=>[ve b]:=by rw[ma];rfl
 have hpre:(zL Tryz.prog get nx 42 42 (.c (.osl id 0 l.length)) (.c (.p (.sl (m.map fun b=>[Lm b]))))).pre:=by
  simp only[zL,Ap.kd59,rowsOf,hid,hrow];refine⟨Cl.sz5.symm,trivial,by simp,by rw[Cl.sz5];omega,fun row hr=> ?_,?_,?_,trivial,by rw[Ap.kd59];trivial,Cl.zok5⟩
  ·obtain⟨x,_,rfl⟩:=Da.1 hr;rw[Cl.sz5];rfl
  ·rw[Cl.by5,Ga];omega
  ·rw[Ga];omega
 have st:=Gt (ι:=ι) hB;have hx:repT ι W (.c (.p (.sl (m.map fun b=>[Lm b])))) (.slice (some ⟨b,o,none⟩) m.length c):=by
  refine⟨rfl, .sl _ _ _ _ 1 b o (fun i _=> .int .u8 ((m.getD i 0).toNat:Int)) (by simp) hc (fun _=>rfl) (fun h=>⟨?_,fun id' k e=> ?_⟩) (fun row hr=> ?_) (fun i row j x hi hj=> ?_) (fun i row j x hi hj=> ?_)⟩
  ·rcases hbW with h'|h'
   ·rw[h']at h;simp at h
   ·exact h'
  ·have:=hR.lt e;omega
  ·obtain⟨x,_,rfl⟩:=Da.1 hr;rfl
  all_goals
   obtain⟨y,hy,rfl⟩:=by simpa [Ka,Jb] using hi
   have hj0:j=0:=by have:=(Ba.1 hj).1;simpa using this
   subst hj0;have hd:m.getD i 0=y:=by rw[Sd,hy];rfl
   simp only[Uc,Option.some.injEq]at hj;subst hj;simp only[hd]
   first
    |exact .at _ rfl
    |(rw[Nat.mul_one,Pd];exact hcell i y hy)
 obtain⟨v',w1,hap,ι1,r1,p1,s1,f1⟩:=Nu (P:=Tryz.prog) (ts:=42) (tx:=42) (ty:=42) (nx:=nx) (RD hR hB) hf (s:= .c (.osl id 0 l.length)) (x:= .c (.p (.sl (m.map fun b=>[Lm b])))) (Jt st hs) hx hpre;simp only[zL,Ap.kd59,rowsOf,hid,hrow,Ga,Cl.sz5]at r1 p1;refine⟨v',w1,hap,ι1,?_,p1,st.trans s1,f1⟩;rw[Vb];rw[Yb (by simp)]at r1;exact r1
theorem Ap.app {P:Program} {w:World} {C:Array Value} {ct:TypeId} {ops:Array Oper} {rest:List Oper} {o:Oper} {a:Act} {Q:Exit->Act->World->Prop} (hgd:o.guard=none) (s x:Operand) (t u:TypeId)
  (ho:o.op= .call {callee:= .builtin .append,args:= #[s,x],argTypes:= #[t,u]}) {vs vx:Value} (hs:a.eval s=vs) (hx:a.eval x=vx) {cond:Array Value->Prop} {G:Value->World->Prop}
  (hap: ∀C,cond C-> ∃v w',(Builtin.append_ #[t,u] o.type #[vs,vx]).run P (w.alloc (.cells C ct))= .ok v w'/\G v w') (hc:cond C)
  (h: ∀v w',G v w'->wpList P ops Q rest (a.put o.dst v) w'):wpList P ops Q (o::rest) a (w.alloc (.cells C ct)):=by
 obtain⟨v,w',h1,h2⟩:=hap C hc;exact Cl.append_run hgd s x t u ho hs hx h1 (h v w' h2)
def Ap.DG:ByteArray:={data:= #[48,49,50,51,52,53,54,55,56,57,97,98,99,100,101,102,103,104,105,106,107,108,109,110,111,112,113,114,115,116,117,118,119,120,121,122]}
theorem Ap.dg: ∀u:Fin 16,Ap.DG[u.1]'(by show u.1<36;omega)=hexD u.1:=by decide+kernel
theorem Ap.bits1 (u:Nat) (hu:u<16) (sv:Value) (w:World) (hT:w.cell? ⟨3,15,none⟩=some (.int .u8 4)) {G:Value->World->Prop}
  (hap: ∀C:Array Value,C[64]? =some (.int .u8 ((hexD u).toNat:Int))-> ∃v w',(Builtin.append_ #[42,42] 42 #[sv, .slice (some ⟨w.heap.size,64,none⟩) 1 1]).run Tryz.prog (w.alloc (.cells C 256))= .ok v w'/\G v w'):
  Calls Tryz.prog 225 #[sv, .int .u64 u, .int .i64 16, .bool false, .bool true] w fun e w'=> ∃v,e= .returned (.tuple #[v, .string ⟨#[]⟩])/\G v w':=by
 have HP:=Lib.hid (fun w=>Ap.pow w);have HT:=Lib.hid (Ap.trail0 _ (Ap.old5 hT (.cells Tryz.zeroCells256 256)));have HA:=Lib.hid hap;have h1: ¬((u:Nat):Int)>=16:=by omega
 clear hT hap;go_enter Tryz.func225,Tryz.ntmps225
 go_wp2_with (first|(go_at_call 253;refine(HP.out _).mono ?_;rintro e w' ⟨rfl,rfl⟩)|(go_at_call 254;refine HT.out.mono ?_;rintro e w' ⟨rfl,rfl⟩))
 refine wp_loop_rounds 1 ?_;rw[rounds_succ]
 go_wp2_with (at_builtin;refine Ap.app rfl _ _ _ _ rfl (by rfl) (by rfl) HA.out ?_ ?_)
 ·have hd: ∀h,Ap.DG[u]'h=hexD u:=fun h=>Ap.dg ⟨u,hu⟩;have hs:Tryz.zeroCells256.size=65:=by kernel_rfl
  show(Tryz.zeroCells256.setIfInBounds 64 _)[64]? =_;rw[Array.getElem?_setIfInBounds_self,Va (by omega)];rw[<-hd (by show u<36;omega)];rfl
 ·intro v w' hG
  go_wp2
  go_ret2;exact⟨_,rfl,hG⟩
theorem Ap.and15: ∀u:Fin 256,bits BinOp.and IntKind.u64 ((u.1:Nat):Int) 15=((u.1%16:Nat):Int):=by decide+kernel
theorem Ap.bits2 (u:Nat) (hl:16<=u) (hu:u<256) (sv:Value) (w:World) (hT:w.cell? ⟨3,15,none⟩=some (.int .u8 4)) {G:Value->World->Prop}
  (hap: ∀C:Array Value,C[63]? =some (.int .u8 ((hexD (u / 16)).toNat:Int))/\C[64]? =some (.int .u8 ((hexD (u%16)).toNat:Int))-> ∃v w',(Builtin.append_ #[42,42] 42 #[sv, .slice (some ⟨w.heap.size,63,none⟩) 2 2]).run Tryz.prog (w.alloc (.cells C 256))= .ok v w'/\G v w'):
  Calls Tryz.prog 225 #[sv, .int .u64 u, .int .i64 16, .bool false, .bool true] w fun e w'=> ∃v,e= .returned (.tuple #[v, .string ⟨#[]⟩])/\G v w':=by
 have HP:=Lib.hid (fun w=>Ap.pow w);have HT:=Lib.hid (Ap.trail0 _ (Ap.old5 hT (.cells Tryz.zeroCells256 256)));have HA:=Lib.hid hap;have h1:((u:Nat):Int)>=16:=by omega
 have h2: ¬((u:Nat):Int) / 16>=16:=by omega
 have hb:=Ap.and15 ⟨u,hu⟩;simp only at hb;clear hT hap;go_enter Tryz.func225,Tryz.ntmps225
 go_wp2_with (first|(go_at_call 253;refine(HP.out _).mono ?_;rintro e w' ⟨rfl,rfl⟩)|(go_at_call 254;refine HT.out.mono ?_;rintro e w' ⟨rfl,rfl⟩))
 refine wp_loop_rounds 2 ?_;rw[rounds_succ]
 go_wp2_with fail
 ·rw[rounds_succ]
  go_wp2_with (at_builtin;refine Ap.app rfl _ _ _ _ rfl (by rfl) (by rfl) HA.out ?_ ?_)
  ·have hs:Tryz.zeroCells256.size=65:=by kernel_rfl
   have he: ∀(i:Nat) (h:i<Ap.DG.size),i<16->Ap.DG[i]'h=hexD i:=fun i h hi=>Ap.dg ⟨i,hi⟩;refine⟨?_,?_⟩
   ·show((Tryz.zeroCells256.setIfInBounds 64 _).setIfInBounds 63 _)[63]? =_;rw[Array.getElem?_setIfInBounds_self,Va (by rw[Array.size_setIfInBounds];omega),<-he _ (by show _<36;omega) (by omega)];rfl
   ·show((Tryz.zeroCells256.setIfInBounds 64 _).setIfInBounds 63 _)[64]? =_;rw[jc (by omega),Array.getElem?_setIfInBounds_self,Va (by omega),<-he _ (by show _<36;omega) (by omega)];rfl
  ·intro v w' hG
   go_wp2
   go_ret2;exact⟨_,rfl,hG⟩
open Go.Lv Go.Shelf Go.RowKit Go.Sort Go.Lib
set_option maxHeartbeats 12800000
theorem Ap.kd9:kdOf Tryz.prog 9= .str:=by kernel_rfl
theorem Ap.goodS {ι:Asg} {get:Get} {w:World} {id nx:Nat} {l:Str} (hR:Rel ι get w) (hf:ι nx= .free) (hid:get id=some ⟨5,1,l.map fun b=>[ve b],none⟩) {sv:Value} (hs:repT ι w (.c (.osl id 0 l.length)) sv)
  (m:Str) (hl:l.length+m.length<=140737488355328):
  ∃v w',(Builtin.append_ #[42,9] 42 #[sv, .string ⟨m.toArray⟩]).run Tryz.prog w= .ok v w'/\Go.Lv.Good ι w get nx 1 (.v (.c (.osl nx 0 (l.length+m.length)))) [(id,none),(nx,some ⟨5,1,(l++m).map fun b=>[ve b],none⟩)] v w':=by
 have hpre:(zL Tryz.prog get nx 42 9 (.c (.osl id 0 l.length)) (.c (.p (.str m)))).pre:=by
  simp only[zL,Ap.kd59,rowsOf,hid];refine⟨Cl.sz5.symm,trivial,by simp,by rw[Cl.sz5];omega,fun row hr=> ?_,?_,?_,⟨Cl.kd5,Ap.kd9⟩,by rw[Ap.kd9];trivial,Cl.zok5⟩
  ·obtain⟨x,_,rfl⟩:=Da.1 hr;rw[Cl.sz5];rfl
  ·rw[Cl.by5,Ga];omega
  ·rw[Ga];omega
 obtain⟨v',w1,hap,ι1,r1,p1,s1,f1⟩:=Nu (P:=Tryz.prog) (ts:=42) (tx:=9) (ty:=42) (nx:=nx) hR hf (s:= .c (.osl id 0 l.length)) (x:= .c (.p (.str m))) hs (Il m) hpre;simp only[zL,Ap.kd59,rowsOf,hid,Ga,Cl.sz5]at r1 p1;refine⟨v',w1,hap,ι1,?_,p1,s1,f1⟩;rw[Vb];rw[Yb (by simp)]at r1;exact r1
theorem Ap.u10s(u:Nat)(hu:u<100)(sv:Value)(w:World){G:Value->World->Prop}(hap: ∃v w',(Builtin.append_ #[42,9] 42 #[sv, .string ⟨(Lib.decDigits u).toArray⟩]).run Tryz.prog w= .ok v w'/\G v w'):
  Calls Tryz.prog 190 #[sv, .int .u64 u, .int .i64 10] w fun e w'=> ∃v,e= .returned v/\G v w':=by
 obtain⟨v,w',h1,h2⟩:=hap;have HA:=Lib.hid h1;have hlt:((u:Nat):Int)<100:=by omega
 clear h1;go_enter Tryz.func190,Tryz.ntmps190
 go_wp2_with (first
  |(go_at_call 222;refine(Any.internal_strconv_small Tryz.lays283 u hu _).mono ?_;rintro e w' ⟨rfl,rfl⟩)
  |(at_builtin;refine Cl.append_run rfl _ _ _ _ rfl (by rfl) (by rfl) HA.out ?_))
 go_ret;exact⟨_,rfl,h2⟩
theorem Ap.u10b (u:Nat) (hu:100<=u) (hu64:u<18446744073709551616) (sv:Value) (w:World) (htab:Lib.TabIs Tryz.prog w "internal/strconv.uint64pow10" .u64 Lib.pow10Tab) {G:Value->World->Prop}
  (hap: ∀W:World,Below w.heap.size w W->w.heap.size<W.heap.size->(∀(i:Nat) x,(Lib.decDigits u)[i]? =some x->W.cell? ⟨w.heap.size,0+i,none⟩=some (.int .u8 (x.toNat:Int)))->
   ∃v w',(Builtin.append_ #[42,42] 42 #[sv, .slice (some ⟨w.heap.size,0,none⟩) (Lib.decDigits u).length 24]).run Tryz.prog W= .ok v w'/\G v w'):
  Calls Tryz.prog 190 #[sv, .int .u64 u, .int .i64 10] w fun e w'=> ∃v,e= .returned v/\G v w':=by
 have t171:=Tryz.underlying226;have hu1:1<=u:=by omega
 have hnd20:Lib.nDigits u<=20:=by have:=Lib.numDigits_eq u hu1 hu64;split at this<;>omega
 have hal:Tryz.prog.arrayLen 226=24:=by kernel_rfl
 have hsl: ∀W,(Instr.sliceAt 226 (.pointer (some ⟨w.heap.size,0,none⟩)) none (some (.int .i64 (Lib.nDigits u:Int))) none).run Tryz.prog W= .ok (.slice (some ⟨w.heap.size,0,none⟩) (Lib.nDigits u) 24) W:=fun W=>by
  rw[run_sliceAt_array_h W 226 ⟨w.heap.size,0,none⟩ (by kernel_rfl) .i64 (Lib.nDigits u:Int) (by omega) (by rw[hal];omega)]
  go_simp
 have hH0:=Lib.holds_zero0 w 226 (Lib.nDigits u) (by omega);have hfmt:=Any.internal_strconv_formatBase10 Tryz.lays285 w.heap.size 0 24 u (Array.replicate (Lib.nDigits u) 0) (w.alloc (.cells Lib.zeros24 226)) hH0 (by rw[Be];exact Lib.lt_pow_nDigits u) hu64 (by rw[Be];omega);rw[Be]at hfmt;have HH0:=Lib.hid hH0;have HAP:=Lib.hid hap;have iu:(100:Int)<=(u:Int):=by omega
 have HN:=Lib.hid (fun w' (h:Lib.TabIs Tryz.prog w' "internal/strconv.uint64pow10" .u64 Lib.pow10Tab)=>Any.internal_strconv_numDigits Tryz.laysM284 u hu1 hu64 w' h);have HT:=Lib.hid (Lib.tabIs_alloc htab (.cells Lib.zeros24 226));clear hH0 hal hap htab;go_enter Tryz.func190,Tryz.ntmps190
 go_wp2_with (go_at_call 223;refine(HN.out _ HT.out).mono ?_;rintro e w' ⟨rfl,rfl⟩)
 go_at_call 224
 refine hfmt.mono ?_;rintro e w' ⟨rfl,k,v',dk,rfl,hF⟩;have hcells: ∀(j:Nat) x,(Lib.decDigits u)[j]? =some x->((putRow (fun(b:UInt8)=>Value.int .u8 (b.toNat:Int)) (w.alloc (.cells Lib.zeros24 226)) w.heap.size 0 dk).drewN k).cell? ⟨w.heap.size,0+j,none⟩=some (.int .u8 (x.toNat:Int)):=by intro j x hj;have hjl:j<(Lib.decDigits u).length:=(Ba.1 hj).1;have hx:(Lib.decDigits u)[j]=x:=(Ba.1 hj).2;rw[<-hx,Lib.row_is_numeral hF j hjl,World.cell?_drewN];exact cell?_putRow (fun(b:UInt8)=>Value.int .u8 (b.toNat:Int)) _ w.heap.size 0 _ dk HH0.out (by rw[hF.size,Be]) j (by rw[hF.size];rw[Lib.decDigits_length]at hjl;exact hjl)
 obtain⟨os,eo⟩:=Lib.fin_at w (.cells Lib.zeros24 226) dk k 0;have hnx2:Below w.heap.size w ((putRow (fun(b:UInt8)=>Value.int .u8 (b.toNat:Int)) (w.alloc (.cells Lib.zeros24 226)) w.heap.size 0 dk).drewN k):=by rw[eo];exact Lib.below_grow w.heap.size w (Ma _) k os
 have hsz2:w.heap.size<((putRow (fun(b:UInt8)=>Value.int .u8 (b.toNat:Int)) (w.alloc (.cells Lib.zeros24 226)) w.heap.size 0 dk).drewN k).heap.size:=by
  have h0:0<(Lib.decDigits u).length:=by rw[Lib.decDigits_length];exact Lib.nDigits_pos u
  exact World.block_lt_of_cell? _ _ (hcells 0 _ (Ea h0))
 obtain⟨v2,w3,hrun,hG⟩:=HAP.out _ hnx2 hsz2 hcells;rw[Lib.decDigits_length]at hrun;generalize (putRow (fun(b:UInt8)=>Value.int .u8 (b.toNat:Int)) (w.alloc (.cells Lib.zeros24 226)) w.heap.size 0 dk).drewN k=W2 at hrun ⊢;clear eo HH0 hfmt hcells hnx2 hsz2 HAP HN HT;have HR:=Lib.hid hrun;clear hrun
 go_wp2_with (at_builtin;refine Cl.append_run rfl _ _ _ _ rfl (by rfl) (by rfl) HR.out ?_)
 go_ret;exact⟨_,rfl,hG⟩
theorem Ap.int186(u:Nat)(hu:u<=9223372036854775807)(sv:Value)(w:World){G:Value->World->Prop}(h:Calls Tryz.prog 190 #[sv, .int .u64 u, .int .i64 10] w fun e w'=> ∃v,e= .returned v/\G v w'):
  Calls Tryz.prog 191 #[sv, .int .i64 u, .int .i64 10] w fun e w'=> ∃v,e= .returned v/\G v w':=by
 have H:=Lib.hid h;have h0: ¬((u:Nat):Int)<0:=by omega
 have hw:IntKind.u64.wrap ((u:Nat):Int)=(u:Int):=by rw[IntKind.wrap_u64];omega
 clear h;go_enter Tryz.func191,Tryz.ntmps191
 go_wp2_with (go_at_call 190;refine H.out.mono ?_;rintro e w2 ⟨v2,rfl,hG⟩)
 go_ret;exact⟨_,rfl,hG⟩
theorem Ap.int143(u:Nat)(sv:Value)(w:World){G:Value->World->Prop}(h:Calls Tryz.prog 191 #[sv, .int .i64 u, .int .i64 10] w fun e w'=> ∃v,e= .returned v/\G v w'):
  Calls Tryz.prog 159 #[sv, .int .i64 u, .int .i64 10] w fun e w'=> ∃v,e= .returned v/\G v w':=by
 have H:=Lib.hid h;clear h;go_enter Tryz.func159,Tryz.ntmps159
 go_wp2_with (go_at_call 191;refine H.out.mono ?_;rintro e w2 ⟨v2,rfl,hG⟩)
 go_ret;exact⟨_,rfl,hG⟩
theorem Ap.uint185(u:Nat)(sv:Value)(w:World){G:Value->World->Prop}(h:Calls Tryz.prog 225 #[sv, .int .u64 u, .int .i64 16, .bool false, .bool true] w fun e w'=> ∃v,e= .returned (.tuple #[v, .string ⟨#[]⟩])/\G v w'):
  Calls Tryz.prog 190 #[sv, .int .u64 u, .int .i64 16] w fun e w'=> ∃v,e= .returned v/\G v w':=by
 have H:=Lib.hid h;clear h;go_enter Tryz.func190,Tryz.ntmps190
 go_wp2_with (go_at_call 225;refine H.out.mono ?_;rintro e w2 ⟨v2,rfl,hG⟩)
 go_ret;exact⟨_,rfl,hG⟩
theorem Ap.uint142(u:Nat)(sv:Value)(w:World){G:Value->World->Prop}(h:Calls Tryz.prog 190 #[sv, .int .u64 u, .int .i64 16] w fun e w'=> ∃v,e= .returned v/\G v w'):
  Calls Tryz.prog 158 #[sv, .int .u64 u, .int .i64 16] w fun e w'=> ∃v,e= .returned v/\G v w':=by
 have H:=Lib.hid h;clear h;go_enter Tryz.func158,Tryz.ntmps158
 go_wp2_with (go_at_call 190;refine H.out.mono ?_;rintro e w2 ⟨v2,rfl,hG⟩)
 go_ret;exact⟨_,rfl,hG⟩
end Go.Proofs
namespace Go.Lv
open Go.Proofs Go.RowKit
set_option maxRecDepth 100000
theorem GJ{u:Nat}(h:u<18446744073709551616):(Lib.decDigits u).length<=20:=by
 rw[Lib.decDigits_length];by_cases h1:u=0
 ·subst h1;rw[Lib.nDigits_small (by omega)];omega
 ·have:=Lib.numDigits_eq u (by omega) h;split at this<;>omega
theorem FM{vs:Array Value}{a b c:Value}(hs:vs.size=3)(h0:vs[0]? =some a)(h1:vs[1]? =some b)(h2:vs[2]? =some c):vs= #[a,b,c]:=by
 apply Array.ext
 ·simp[hs]
 ·intro i hi hi';have:i=0\/i=1\/i=2:=by omega
  rcases this with rfl|rfl|rfl
  ·exact(Ub.1 h0).2
  ·exact(Ub.1 h1).2
  ·exact(Ub.1 h2).2
theorem aI(l:Str):(l.map fun b=>(VT.I.full 5 b).map CV.p)=l.map fun b=>[ve b]:=Ha fun b _=>rfl
theorem u8ob(l:Str):(⟨5,1,l.map fun b=>(VT.I.full 5 b).map CV.p,none⟩:OB)=⟨5,1,l.map fun b=>[ve b],none⟩:=by rw[aI]
theorem BD {f:FuncId} {fn:Go.Func} {k1:IntKind} (hf:Tryz.prog.funcs[f]? =some fn) (hn:(fn.name== "runtime.NumGoroutine")=false) (hb:fn.body.isSome=true) {F:(Int×Int)×Str->Option Str}
  (h: ∀(i b:Int) (l r:Str) (sv:Value) (ι:Asg) (get:Get) (w:World) (id nx:Nat),F ((i,b),l)=some r->Rel ι get w->ι nx= .free->get id=some ⟨5,1,l.map fun b=>[ve b],none⟩->repT ι w (.c (.osl id 0 l.length)) sv->
   Calls Tryz.prog f #[sv, .int k1 i, .int .i64 b] w fun e w'=> ∃v,e= .returned v/\Good ι w get nx 1 (.v (.c (.osl nx 0 r.length))) [(id,none),(nx,some ⟨5,1,r.map fun b=>[ve b],none⟩)] v w'):
  zm Tryz.prog (⟨f,⟨[.own 0, .int k1, .int .i64],[(0, .sl 5)]⟩,[],⟨[.own 1],[(1, .sl 5)]⟩,1,F⟩:Con VT.I)where
 wf:=rfl
 ok:=fun x y hxy ρ nx hinj hlt hnew=>by
  obtain⟨⟨i,b⟩,l⟩:=x;refine⟨⟨fn,hf,hn,hb⟩,fun ι get w N vs hR hN hfr ha hrd=> ?_⟩;obtain⟨sv,hsv,hrep⟩:=ha.2 0 (.c (.osl (ρ 0) 0 (List.length (α:=UInt8) l))) rfl;obtain rfl:=FM ha.1 hsv (gq (v:= .int k1 i) ha rfl) (gq (v:= .int .i64 b) ha rfl);have hid:get (ρ 0)=some ⟨5,1,l.map fun b=>[ve b],none⟩:=by have:=hrd (ρ 0,⟨5,1,l.map fun b=>(VT.I.full 5 b).map .p,none⟩) (Ib ..);exact this.trans (congrArg some (u8ob l))
  have hr1:ρ 1=nx:=hnew 0;have hl:ρ 0<nx\/nx+1<=ρ 0:=hlt 0 (Nat.zero_lt_one);have hne:ρ 0≠nx:=by omega
  refine(h i b l y sv ι get w (ρ 0) nx hxy hR (hfr 0 (Nat.zero_lt_one)) hid hrep).mono ?_;rintro e w' ⟨v,rfl,ι',q1,q2,q3,q4⟩;refine⟨v,rfl,ι',?_,?_,q3,q4⟩
  ·rw[<-fB (fun h=>hne h.symm)]at q1;have e:upd get [(ρ 1,some ⟨5,1,List.map (fun b=>(VT.I.full 5 b).map CV.p) y,none⟩),(ρ 0,none)]=upd get [(nx,some ⟨5,1,List.map (fun b=>[ve b]) y,none⟩),(ρ 0,none)]:=by rw[hr1];exact congrArg (fun o=>upd get [(nx,some o),(ρ 0,none)]) (u8ob y)
   exact e▸q1
  ·show repL ι' w' (.v (.c (.osl (ρ 1) 0 (List.length (α:=UInt8) y)))) v;rw[hr1];exact q2
theorem OP:zm Tryz.prog (⟨159,⟨[.own 0, .int .i64, .int .i64],[(0, .sl 5)]⟩,[],⟨[.own 1],[(1, .sl 5)]⟩,1,Dt⟩:Con VT.I):=
 BD Tryz.func159 (by kernel_rfl) (by kernel_rfl) fun i b l r sv ι get w id nx hF hR hf hid hs=>by
  obtain⟨h1,h2⟩:=Ti hF;cases h2;simp only[Ca,Lb,short]at h1;obtain⟨⟨⟨rfl,h3⟩,h4⟩,h5⟩:=h1;obtain⟨u,rfl⟩: ∃u:Nat,i=u:=⟨i.toNat,by omega⟩;simp only[jb];have h20:=GJ (u:=u) (by omega);refine Ap.int143 u sv w (Ap.int186 u (by omega) sv w ?_);rw[Ja];by_cases hu:u<100
  ·exact Ap.u10s u hu sv w (Ap.goodS hR hf hid hs _ (by omega))
  ·exact Ap.u10b u (by omega) (by omega) sv w (iB hR) fun W hB hsz hc=>Ap.good hR hf hid hs hB (Ma _) _ (by omega) (by omega) (.inr hsz) hc
theorem CF{ι:Asg}{get:Get}{w:World}(h:Rel ι get w):w.cell? ⟨3,15,none⟩=some (.int .u8 4):=by obtain⟨o,h1,t,fr,rfl⟩:=Gv h (q:=(3,Jm .u8 yo)) (Fb _ (Fb _ (Ib ..)));rw[cell_of h1];rfl
theorem NP:zm Tryz.prog (⟨158,⟨[.own 0, .int .u64, .int .i64],[(0, .sl 5)]⟩,[],⟨[.own 1],[(1, .sl 5)]⟩,1,Bt⟩:Con VT.I):=
 BD Tryz.func158 (by kernel_rfl) (by kernel_rfl) fun i b l r sv ι get w id nx hF hR hf hid hs=>by
  obtain⟨h1,h2⟩:=Ti hF;cases h2;simp only[Ca,Lb,short]at h1;obtain⟨⟨⟨rfl,h3⟩,h4⟩,h5⟩:=h1;obtain⟨u,rfl⟩: ∃u:Nat,i=u:=⟨i.toNat,by omega⟩;simp only[jb];refine Ap.uint142 u sv w (Ap.uint185 u sv w ?_);rw[Ja];by_cases hu:u<16
  ·rw[show hexS u=[hexD u] by unfold hexS;rw[Va hu]];refine Ap.bits1 u hu sv w (CF hR) fun C hC=> ?_;refine Ap.good hR hf hid hs (b:=w.heap.size) (o:=64) (c:=1) ((Below.refl _ w).alloc (Ma _) _) (Ma _) [hexD u] (by simp;omega) (by simp) (.inr (by rw[World.size_alloc];omega)) (fun i x hx=> ?_)
   match i,hx with
   |0,hx=>
    obtain rfl:hexD u=x:=by simpa using hx
    simpa using hC
  ·rw[show hexS u=[hexD (u / 16),hexD (u%16)] by unfold hexS;rw[Oa hu]];refine Ap.bits2 u (by omega) (by omega) sv w (CF hR) fun C hC=> ?_;refine Ap.good hR hf hid hs (b:=w.heap.size) (o:=63) (c:=2) ((Below.refl _ w).alloc (Ma _) _) (Ma _) [hexD (u / 16),hexD (u%16)] (by simp;omega) (by simp) (.inr (by rw[World.size_alloc];omega)) (fun i x hx=> ?_)
   match i,hx with
   |0,hx=>
    obtain rfl:hexD (u / 16)=x:=by simpa using hx
    simpa using hC.1
   |1,hx=>
    obtain rfl:hexD (u%16)=x:=by simpa using hx
    simpa using hC.2
end Go.Lv
