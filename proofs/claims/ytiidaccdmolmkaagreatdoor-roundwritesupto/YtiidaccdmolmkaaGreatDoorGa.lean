import Derived.Test.YtiidaccdmolmkaaGreatDoorSh
import Derived.Test.YtiidaccdmolmkaaGreatDoorCa
import Derived.Lib.ItoaWalk
import Derived.Lib.ItoaMem
import Derived.Lib.AppendIntMem
import Derived.Lib.BufferKept
import Derived.Lib.OwnKind
import Derived.Lib.Slices
import Derived.OwnWalk
import Derived.BigCall
import Derived.BigGuard
import Derived.CellFam
set_option linter.all false
namespace Go.Lv
open Go.Proofs Go.RowKit
set_option maxRecDepth 100000
def MR{ι:cL}{w:World}(h:Wf ι w){q:Nat×(Obj->Prop)}(hq:q∈tabG): ∃o,w.heap[q.1]? =some o/\q.2 o:=(h.glob q hq).2
def H9{ι:cL}{w:World}(h:Wf ι w): ∃m,w.cell? ⟨0,0,none⟩=some (.int .i64 m):=by obtain⟨o,h1,cs,t,fr,m,rfl,h2⟩:=MR h (q:=(0,NS)) (Ub ..);exact⟨m,by rw[hU h1];exact h2⟩
def Fw{l:aE}(h:short l=true):(⟨l.toArray⟩:ByteArray).size<4294967281:=by unfold short at h;have:=jb h;rw[gn];exact this
def Eo{R:Type}{b:Bool}{x:Option R}{y:R}(h:ck b x=some y):b=true/\x=some y:=by
 cases b with
 |true=>exact⟨rfl,h⟩
 |false=>cases h
def uz{l:aE}(h:Bi l=true): ∀(j:Nat) b,l[j]? =some b->b.toNat<128:=λj b hb=>by unfold Bi at h;exact jb (Ya.1 h b (Ob hb))
section
variable {I:Ip} {P:Program} (hI:cU P I)
include hI
def zBk {f:FuncId}{fn:Go.Func}(hf:P.funcs[f]? =some fn)(hn:(fn.name== "runtime.NumGoroutine")=false)(hb:fn.body.isSome=true){F:aE×aE->Option Int}
  (h: ∀(s t:aE) (n:Int) (ι:cL) (w:World),Wf ι w->F (s,t)=some n->Calls P f #[.string ⟨s.toArray⟩, .string ⟨t.toArray⟩] w λe w'=>e= .returned (.int .i64 n)/\Below w.heap.size w w'):
  ZH P (⟨f,⟨[.str, .str],[]⟩,[],⟨[.int .i64],[]⟩,0,F⟩:Con I):=
 Ps hI rfl hf hn hb λ(l,c) y hxy ι w vs W hv=>by obtain rfl:=Dw hv.1 (Io (l:=l) hv rfl) (Io (l:=c) hv rfl);exact(h l c y ι w W hxy).mono λe w' ⟨he,hB⟩=>⟨_,he,hB,Ci _ _⟩
def zBl {f:FuncId}{fn:Go.Func}(hf:P.funcs[f]? =some fn)(hn:(fn.name== "runtime.NumGoroutine")=false)(hb:fn.body.isSome=true){F:aE×aE->Option aE}
  (h: ∀(s t r:aE) (ι:cL) (w:World),Wf ι w->F (s,t)=some r->Calls P f #[.string ⟨s.toArray⟩, .string ⟨t.toArray⟩] w λe w'=>e= .returned (.string ⟨r.toArray⟩)/\Below w.heap.size w w'):
  ZH P (⟨f,⟨[.str, .str],[]⟩,[],⟨[.str],[]⟩,0,F⟩:Con I):=
 Ps hI rfl hf hn hb λ(l,c) y hxy ι w vs W hv=>by obtain rfl:=Dw hv.1 (Io (l:=l) hv rfl) (Io (l:=c) hv rfl);exact(h l c y ι w W hxy).mono λe w' ⟨he,hB⟩=>⟨_,he,hB,Rq _⟩
def zIp {f:FuncId}{fn:Go.Func}(hf:P.funcs[f]? =some fn)(hn:(fn.name== "runtime.NumGoroutine")=false)(hb:fn.body.isSome=true){F:Int×Int->Option aE}
  (h: ∀(s t:Int) (r:aE) (ι:cL) (w:World),Wf ι w->F (s,t)=some r->Calls P f #[.int .i64 s, .int .i64 t] w λe w'=>e= .returned (.string ⟨r.toArray⟩)/\Below w.heap.size w w'):
  ZH P (⟨f,⟨[.int .i64, .int .i64],[]⟩,[],⟨[.str],[]⟩,0,F⟩:Con I):=
 Ps hI rfl hf hn hb λ(l,c) y hxy ι w vs W hv=>by obtain rfl:=Dw hv.1 (Tz (k:= .i64) (n:=l) hv rfl) (Tz (k:= .i64) (n:=c) hv rfl);exact(h l c y ι w W hxy).mono λe w' ⟨he,hB⟩=>⟨_,he,hB,Rq _⟩
def zIm {f:FuncId}{fn:Go.Func}(hf:P.funcs[f]? =some fn)(hn:(fn.name== "runtime.NumGoroutine")=false)(hb:fn.body.isSome=true){F:aE×aE->Option (aE×aE×Bool)}
  (h: ∀(s t:aE) (r:aE×aE×Bool) (ι:cL) (w:World),Wf ι w->F (s,t)=some r->Calls P f #[.string ⟨s.toArray⟩, .string ⟨t.toArray⟩] w λe w'=>e= .returned (.tuple #[.string ⟨r.1.toArray⟩, .string ⟨r.2.1.toArray⟩, .bool r.2.2])/\Below w.heap.size w w'):
  ZH P (⟨f,⟨[.str, .str],[]⟩,[],⟨[.str, .str, .bool],[]⟩,0,F⟩:Con I):=
 Ps hI rfl hf hn hb λ(l,c) y hxy ι w vs W hv=>by
  obtain rfl:=Dw hv.1 (Io (l:=l) hv rfl) (Io (l:=c) hv rfl);refine(h l c y ι w W hxy).mono λe w' ⟨he,hB⟩=>⟨_,he,hB,_,rfl,rfl,λj t ht=> ?_⟩;rcases j with _|_|_|j
  ·injection ht with ht;subst ht;exact⟨_,rfl,Rq _⟩
  ·injection ht with ht;subst ht;exact⟨_,rfl,Rq _⟩
  ·injection ht with ht;subst ht;exact⟨_,rfl,Rj _⟩
  ·cases ht
end
def below_drewN{w:World}(n:Nat):Below w.heap.size w (w.drewN n):=⟨rfl,rfl,rfl,Db _,λ_ _=>rfl⟩
def A8{ι:cL}{w:World}(h:Wf ι w):Lib.TabIs Tryz.prog w "internal/strconv.uint64pow10" .u64 Lib.pow10Tab:=by obtain⟨o,h1,t,fr,rfl⟩:=MR h (q:=(1,FC .u64 jQ)) (Vb _ (Ub ..));unfold Lib.TabIs World.var?;rw[show Tryz.prog.globalNamed "internal/strconv.uint64pow10" =some 1 by kernel_rfl];simp only[Aa];rw[h1];rfl
def zG4:ZH Tryz.prog (⟨157,⟨[.str, .int .u8],[]⟩,[],⟨[.int .i64],[]⟩,0,FE⟩:Con VT.I):=
 zIo VT.ipOK Tryz.func157 (by kernel_rfl) (by kernel_rfl) λs c w=>Any.stringslite_IndexByte Tryz.lays217 s c w
def zI4:ZH Tryz.prog (⟨238,⟨[.str, .str],[]⟩,[],⟨[.int .i64],[]⟩,0,mr⟩:Con VT.I):=
 zBk VT.ipOK Tryz.func238 (by kernel_rfl) (by kernel_rfl) λs t n ι w hR hF=>by obtain⟨h1,h2⟩:=Eo hF;cases h2;obtain⟨m,hm⟩:=H9 hR;exact(Any.strings_Index Tryz.lays143 ⟨s.toArray⟩ ⟨t.toArray⟩ m w (Fw h1) hm).mono λe w' ⟨a,b⟩=>⟨a,jN b⟩
def zQd:ZH Tryz.prog (⟨332,⟨[.str, .str],[]⟩,[],⟨[.str, .str, .bool],[]⟩,0,cutF⟩:Con VT.I):=
 zIm VT.ipOK Tryz.func332 (by kernel_rfl) (by kernel_rfl) λs t n ι w hR hF=>by obtain⟨h1,h2⟩:=Eo hF;cases h2;obtain⟨m,hm⟩:=H9 hR;exact(Any.strings_Cut Tryz.lays145 ⟨s.toArray⟩ ⟨t.toArray⟩ m w (Fw h1) hm).mono λe w' ⟨a,k,b⟩=>⟨a,b▸below_drewN k⟩
def zBD:ZH Tryz.prog (⟨331,⟨[.str, .str],[]⟩,[],⟨[.int .i64],[]⟩,0,lm⟩:Con VT.I):=
 zBk VT.ipOK Tryz.func331 (by kernel_rfl) (by kernel_rfl) λs t n ι w hR hF=>by obtain⟨h1,h2⟩:=Eo hF;cases h2;simp only[Da]at h1;obtain⟨⟨⟨a1,a2⟩,a3⟩,a4⟩:=h1;exact Any.strings_IndexAny_laid Tryz.lays153 (by kernel_rfl) ⟨s.toArray⟩ ⟨t.toArray⟩ w (Fw a1) (Fw a2) (uz a3) (uz a4)
def zI5:ZH Tryz.prog (⟨330,⟨[.str, .str],[]⟩,[],⟨[.str],[]⟩,0,Tm⟩:Con VT.I):=
 zBl VT.ipOK Tryz.func330 (by kernel_rfl) (by kernel_rfl) λs t n ι w hR hF=>by obtain⟨h1,h2⟩:=Eo hF;cases h2;simp only[Da]at h1;exact Any.strings_TrimLeft_laid Tryz.lays161 (by kernel_rfl) ⟨s.toArray⟩ ⟨t.toArray⟩ w (Fw h1.1) (uz h1.2)
def zI6:ZH Tryz.prog (⟨261,⟨[.str, .str],[]⟩,[],⟨[.str],[]⟩,0,Dq⟩:Con VT.I):=
 zBl VT.ipOK Tryz.func261 (by kernel_rfl) (by kernel_rfl) λs t n ι w hR hF=>by
  have hF:Dq (s,t)=some n:=hF;unfold Dq at hF;split at hF
  ·rename_i c hc;have hc:t=[c]:=hc;subst hc;obtain⟨h1,h2⟩:=Eo hF;cases h2;simp only[Da]at h1;have:=Fw h1.2;exact(Any.strings_TrimRight_one Tryz.lays162 ⟨s.toArray⟩ c (jb h1.1) w (by show(⟨s.toArray⟩:ByteArray).size<=_;omega)).mono λe w' ⟨a,b⟩=>⟨a,jN b⟩
  ·cases hF
def zG3:ZH Tryz.prog (⟨209,⟨[.int .i64, .int .i64],[]⟩,[],⟨[.str],[]⟩,0,Yl⟩:Con VT.I):=
 zIp VT.ipOK Tryz.func209 (by kernel_rfl) (by kernel_rfl) λs t n ι w hR hF=>by
  obtain⟨h1,h2⟩:=Eo hF;cases h2;simp only[Da,i64B]at h1;obtain rfl:t=10:=jb h1.1;refine(Any.strconv_FormatInt_10 Tryz.laysM173 s (jb h1.2.1) (jb h1.2.2) w (A8 hR)).mono λe w' ⟨a,k,os,b⟩=>⟨a,b▸⟨rfl,rfl,rfl,?_,λj hj=> ?_⟩⟩
  ·show w.heap.size<=(w.heap++os).size;simp
  ·show(w.heap++os)[j]? =w.heap[j]?;exact Array.getElem?_append_left hj
end Go.Lv

namespace Go.Proofs
open Go.Lv Go.RowKit
set_option maxRecDepth 100000
set_option maxHeartbeats 4000000
def Ap.idx:IntKind.u64.wrap (bits BinOp.and IntKind.u64 16 (IntKind.u64.wrap (-16))*285870213051353865) / 288230376151711744=15:=by decide+kernel
def Ap.trail(w:World)(hT:w.cell? ⟨3,15,none⟩=some (.int .u8 4)):Calls Tryz.prog 311 #[.int .u64 16] w λe w'=>e= .returned (.int .i64 4)/\w'=w:=by
 have hT':w.cell? ⟨3,(IntKind.u64.wrap (bits BinOp.and IntKind.u64 16 (IntKind.u64.wrap (-16))*285870213051353865) / 288230376151711744).toNat,none⟩=some (.int .u8 4):=by rw[Ap.idx];exact hT
 have hi:=Ap.idx;go_enter Tryz.func311,Tryz.ntmps311
 go_wp2
 ·go_ret;exact⟨rfl,rfl⟩
 all_goals (exfalso;omega)
def Ap.pow(w:World):Calls Tryz.prog 290 #[.int .i64 16] w λe w'=>e= .returned (.bool true)/\w'=w:=by
 go_enter Tryz.func290,Tryz.ntmps290
 go_wp2
 ·go_ret;exact⟨rfl,rfl⟩
def Ap.trail0(w:World)(hT:w.cell? ⟨3,15,none⟩=some (.int .u8 4)):Calls Tryz.prog 291 #[.int .u64 16] w λe w'=>e= .returned (.int .i64 4)/\w'=w:=by
 have H:=Lib.hid (Ap.trail w hT);clear hT;go_enter Tryz.func291,Tryz.ntmps291
 go_wp2_with (go_at_call 311;refine H.out.mono ?_;rintro e w' ⟨rfl,rfl⟩)
 go_ret;exact⟨rfl,rfl⟩
def Ap.old5{w:World}(hT:w.cell? ⟨3,15,none⟩=some (.int .u8 4))(o:Obj):(w.alloc o).cell? ⟨3,15,none⟩=some (.int .u8 4):=by rw[World.cell?_alloc_lt (h:=World.block_lt_of_cell? w _ hT)];exact hT
def Ap.kd59:cI Tryz.prog 65= .sl 5:=by kernel_rfl
abbrev Ap.Out(ι:cL)(w:World)(id nx:Nat)(l:aE):Value->World->Prop:=Done (I:=VT.I) Tryz.prog ι w nx ⟨.v (.c (.own nx)),[(id, .dead),(nx, .sl 5 l)],[],1⟩
def Ap.good {ι:cL}{w:World}{id nx:Nat}{l:aE}(W:Wf ι w)(hf:ι nx= .free)(hid:Qu Tryz.prog ι w id (.sl 5 l:EO VT.I.C)){sv:Value}(hs:cx (I:=VT.I) ι w (.c (.own id)) sv)
  {W1:World} (hB:Below w.heap.size w W1) {b o c:Nat} (hb:w.heap.size<=b) (m:aE) (hl:l.length+m.length<=140737488355328) (hc:m.length<=c) (hbW:m=[]\/b<W1.heap.size) (hcell: ∀(i:Nat) x,m[i]? =some x->W1.cell? ⟨b,o+i,none⟩=some (.int .u8 (x.toNat:Int))):
  ∃v w',(Builtin.append_ #[65,65] 65 #[sv, .slice (some ⟨b,o,none⟩) m.length c]).run Tryz.prog W1= .ok v w'/\Ap.Out ι w id nx (l++m) v w':=by
 have hx:cX (fm ι W1) W1 (.sl (List.map (VT.I.full 5) m)) (.slice (some ⟨b,o,none⟩) m.length c):=by
  refine .sl (List.map (λb:UInt8=>[PV.at (.int .u8 b.toNat)]) m) _ _ _ 1 b o (λi _=> .int .u8 ((m.getD i 0).toNat:Int)) (by simp) hc (λ_=>rfl) (λh=>⟨?_,ve λhx=> ?_,λid' k n e=> ?_⟩) (λrow hr=> ?_) (λi row j x hi hj=> ?_) (λi row j x hi hj=> ?_)
  ·rcases hbW with h'|h'
   ·rw[h']at h;simp at h
   ·exact h'
  ·have:=W.xlt b hx;omega
  ·have:=(W.lt _ _ _ _ e).1;omega
  ·obtain⟨x,_,rfl⟩:=Rb.1 hr;rfl
  all_goals
   obtain⟨y,hy,rfl⟩:=by simpa [Ta,Sa] using hi
   have hj0:j=0:=by have:=(Ua.1 hj).1;simpa using this
   subst hj0;have hd:m.getD i 0=y:=by rw[Lc,hy];rfl
   simp only[List.getElem?_cons_zero,Option.some.injEq]at hj;subst hj;simp only[hd]
   first
    |exact .at _ rfl
    |(rw[Jf,Od];exact hcell i y hy)
 obtain⟨v,w',h1,h2⟩:=Cl.push (ts:=65) (tx:=65) (ty:=65) (nx:=nx) (t:=m) Ap.kd59 (by rw[Ap.kd59];trivial) (zET W hB) hf (hid.step (IA (T:=λ_=>False) W hB) λh=>h) (cx.step (IA (T:=λ_=>False) W hB) hs) (gx.froz VT.ipOK (e:=5) (l:=m) hx) hl;exact⟨v,w',h1,h2.below W hB⟩
def Ap.app {P:Program}{w:World}{C:Array Value}{ct:TypeId}{ops:Array Oper}{rest:List Oper}{o:Oper}{a:Act}{Q:Exit->Act->World->Prop}(hgd:o.guard=none)(s x:Operand)(t u:TypeId)
  (ho:o.op= .call {callee:= .builtin .append,args:= #[s,x],argTypes:= #[t,u]}) {vs vx:Value} (hs:a.eval s=vs) (hx:a.eval x=vx) {cond:Array Value->Prop} {G:Value->World->Prop}
  (hap: ∀C,cond C-> ∃v w',(Builtin.append_ #[t,u] o.type #[vs,vx]).run P (w.alloc (.cells C ct))= .ok v w'/\G v w') (hc:cond C)
  (h: ∀v w',G v w'->wpList P ops Q rest (a.put o.dst v) w'):wpList P ops Q (o::rest) a (w.alloc (.cells C ct)):=by
 obtain⟨v,w',h1,h2⟩:=hap C hc;exact Cl.my hgd s x t u ho hs hx h1 (h v w' h2)
def Ap.DG:ByteArray:={data:= #[48,49,50,51,52,53,54,55,56,57,97,98,99,100,101,102,103,104,105,106,107,108,109,110,111,112,113,114,115,116,117,118,119,120,121,122]}
def Ap.dg: ∀u:Fin 16,Ap.DG[u.1]'(by show u.1<36;omega)=fv u.1:=by decide+kernel
def Ap.bits1 (u:Nat)(hu:u<16)(sv:Value)(w:World)(hT:w.cell? ⟨3,15,none⟩=some (.int .u8 4)){G:Value->World->Prop}
  (hap: ∀C:Array Value,C[64]? =some (.int .u8 ((fv u).toNat:Int))-> ∃v w',(Builtin.append_ #[65,65] 65 #[sv, .slice (some ⟨w.heap.size,64,none⟩) 1 1]).run Tryz.prog (w.alloc (.cells C 290))= .ok v w'/\G v w'):
  Calls Tryz.prog 265 #[sv, .int .u64 u, .int .i64 16, .bool false, .bool true] w λe w'=> ∃v,e= .returned (.tuple #[v, .string ⟨#[]⟩])/\G v w':=by
 have HP:=Lib.hid (λw=>Ap.pow w);have HT:=Lib.hid (Ap.trail0 _ (Ap.old5 hT (.cells Tryz.zeroCells290 290)));have HA:=Lib.hid hap;have h1: ¬((u:Nat):Int)>=16:=by omega
 clear hT hap;go_enter Tryz.func265,Tryz.ntmps265
 go_wp2_with (first|(go_at_call 290;refine(HP.out _).mono ?_;rintro e w' ⟨rfl,rfl⟩)|(go_at_call 291;refine HT.out.mono ?_;rintro e w' ⟨rfl,rfl⟩))
 refine wp_loop_rounds 1 ?_;rw[rounds_succ]
 go_wp2_with (at_builtin;refine Ap.app rfl _ _ _ _ rfl (by rfl) (by rfl) HA.out ?_ ?_)
 ·have hd: ∀h,Ap.DG[u]'h=fv u:=λh=>Ap.dg ⟨u,hu⟩;have hs:Tryz.zeroCells290.size=65:=by kernel_rfl
  show(Tryz.zeroCells290.setIfInBounds 64 _)[64]? =_;rw[Array.getElem?_setIfInBounds_self,La (by omega)];rw[<-hd (by show u<36;omega)];rfl
 ·intro v w' hG
  go_wp2
  go_ret2;exact⟨_,rfl,hG⟩
def Ap.and15: ∀u:Fin 256,bits BinOp.and IntKind.u64 ((u.1:Nat):Int) 15=((u.1%16:Nat):Int):=by decide+kernel
def Ap.bits2 (u:Nat)(hl:16<=u)(hu:u<256)(sv:Value)(w:World)(hT:w.cell? ⟨3,15,none⟩=some (.int .u8 4)){G:Value->World->Prop}
  (hap: ∀C:Array Value,C[63]? =some (.int .u8 ((fv (u / 16)).toNat:Int))/\C[64]? =some (.int .u8 ((fv (u%16)).toNat:Int))-> ∃v w',(Builtin.append_ #[65,65] 65 #[sv, .slice (some ⟨w.heap.size,63,none⟩) 2 2]).run Tryz.prog (w.alloc (.cells C 290))= .ok v w'/\G v w'):
  Calls Tryz.prog 265 #[sv, .int .u64 u, .int .i64 16, .bool false, .bool true] w λe w'=> ∃v,e= .returned (.tuple #[v, .string ⟨#[]⟩])/\G v w':=by
 have HP:=Lib.hid (λw=>Ap.pow w);have HT:=Lib.hid (Ap.trail0 _ (Ap.old5 hT (.cells Tryz.zeroCells290 290)));have HA:=Lib.hid hap;have h1:((u:Nat):Int)>=16:=by omega
 have h2: ¬((u:Nat):Int) / 16>=16:=by omega
 have hb:=Ap.and15 ⟨u,hu⟩;simp only at hb;clear hT hap;go_enter Tryz.func265,Tryz.ntmps265
 go_wp2_with (first|(go_at_call 290;refine(HP.out _).mono ?_;rintro e w' ⟨rfl,rfl⟩)|(go_at_call 291;refine HT.out.mono ?_;rintro e w' ⟨rfl,rfl⟩))
 refine wp_loop_rounds 2 ?_;rw[rounds_succ]
 go_wp2_with fail
 ·rw[rounds_succ]
  go_wp2_with (at_builtin;refine Ap.app rfl _ _ _ _ rfl (by rfl) (by rfl) HA.out ?_ ?_)
  ·have hs:Tryz.zeroCells290.size=65:=by kernel_rfl
   have he: ∀(i:Nat) (h:i<Ap.DG.size),i<16->Ap.DG[i]'h=fv i:=λi h hi=>Ap.dg ⟨i,hi⟩;refine⟨?_,?_⟩
   ·show((Tryz.zeroCells290.setIfInBounds 64 _).setIfInBounds 63 _)[63]? =_;rw[Array.getElem?_setIfInBounds_self,La (by rw[Array.size_setIfInBounds];omega),<-he _ (by show _<36;omega) (by omega)];rfl
   ·show((Tryz.zeroCells290.setIfInBounds 64 _).setIfInBounds 63 _)[64]? =_;rw[Ce (by omega),Array.getElem?_setIfInBounds_self,La (by omega),<-he _ (by show _<36;omega) (by omega)];rfl
  ·intro v w' hG
   go_wp2
   go_ret2;exact⟨_,rfl,hG⟩
open Go.Lv Go.Shelf Go.RowKit Go.Sort Go.Lib
set_option maxHeartbeats 12800000
def Ap.kd9:cI Tryz.prog 9= .str:=by kernel_rfl
def Ap.goodS{ι:cL}{w:World}{id nx:Nat}{l:aE}(W:Wf ι w)(hf:ι nx= .free)(hid:Qu Tryz.prog ι w id (.sl 5 l:EO VT.I.C)){sv:Value}(hs:cx (I:=VT.I) ι w (.c (.own id)) sv)(m:aE)(hl:l.length+m.length<=140737488355328):
  ∃v w',(Builtin.append_ #[65,9] 65 #[sv, .string ⟨m.toArray⟩]).run Tryz.prog w= .ok v w'/\Ap.Out ι w id nx (l++m) v w':=Cl.push Ap.kd59 (by rw[Ap.kd9];trivial) W hf hid hs (Cl.src ι w m) hl
def Ap.u10s(u:Nat)(hu:u<100)(sv:Value)(w:World){G:Value->World->Prop}(hap: ∃v w',(Builtin.append_ #[65,9] 65 #[sv, .string ⟨(Lib.decDigits u).toArray⟩]).run Tryz.prog w= .ok v w'/\G v w'):
  Calls Tryz.prog 247 #[sv, .int .u64 u, .int .i64 10] w λe w'=> ∃v,e= .returned v/\G v w':=by
 obtain⟨v,w',h1,h2⟩:=hap;have HA:=Lib.hid h1;have hlt:((u:Nat):Int)<100:=by omega
 clear h1;go_enter Tryz.func247,Tryz.ntmps247
 go_wp2_with (first
  |(go_at_call 262;refine(Any.internal_strconv_small Tryz.lays283 u hu _).mono ?_;rintro e w' ⟨rfl,rfl⟩)
  |(at_builtin;refine Cl.my rfl _ _ _ _ rfl (by rfl) (by rfl) HA.out ?_))
 go_ret;exact⟨_,rfl,h2⟩
def Ap.u10b (u:Nat)(hu:100<=u)(hu64:u<18446744073709551616)(sv:Value)(w:World)(htab:Lib.TabIs Tryz.prog w "internal/strconv.uint64pow10" .u64 Lib.pow10Tab){G:Value->World->Prop}
  (hap: ∀W:World,Below w.heap.size w W->w.heap.size<W.heap.size->(∀(i:Nat) x,(Lib.decDigits u)[i]? =some x->W.cell? ⟨w.heap.size,0+i,none⟩=some (.int .u8 (x.toNat:Int)))->
   ∃v w',(Builtin.append_ #[65,65] 65 #[sv, .slice (some ⟨w.heap.size,0,none⟩) (Lib.decDigits u).length 24]).run Tryz.prog W= .ok v w'/\G v w'):
  Calls Tryz.prog 247 #[sv, .int .u64 u, .int .i64 10] w λe w'=> ∃v,e= .returned v/\G v w':=by
 have t171:=Tryz.underlying263;have hu1:1<=u:=by omega
 have hnd20:Lib.nDigits u<=20:=by have:=Lib.numDigits_eq u hu1 hu64;split at this<;>omega
 have hal:Tryz.prog.arrayLen 263=24:=by kernel_rfl
 have hsl: ∀W,(Instr.sliceAt 263 (.pointer (some ⟨w.heap.size,0,none⟩)) none (some (.int .i64 (Lib.nDigits u:Int))) none).run Tryz.prog W= .ok (.slice (some ⟨w.heap.size,0,none⟩) (Lib.nDigits u) 24) W:=λW=>by
  rw[run_sliceAt_array_h W 263 ⟨w.heap.size,0,none⟩ (by kernel_rfl) .i64 (Lib.nDigits u:Int) (by omega) (by rw[hal];omega)]
  go_simp
 have hH0:=Lib.holds_zero0 w 263 (Lib.nDigits u) (by omega);have hfmt:=Any.internal_strconv_formatBase10 Tryz.lays285 w.heap.size 0 24 u (Array.replicate (Lib.nDigits u) 0) (w.alloc (.cells Lib.zeros24 263)) hH0 (by rw[uf];exact Lib.lt_pow_nDigits u) hu64 (by rw[uf];omega);rw[uf]at hfmt;have HH0:=Lib.hid hH0;have HAP:=Lib.hid hap;have iu:(100:Int)<=(u:Int):=by omega
 have HN:=Lib.hid (λw' (h:Lib.TabIs Tryz.prog w' "internal/strconv.uint64pow10" .u64 Lib.pow10Tab)=>Any.internal_strconv_numDigits Tryz.laysM284 u hu1 hu64 w' h);have HT:=Lib.hid (Lib.tabIs_alloc htab (.cells Lib.zeros24 263));clear hH0 hal hap htab;go_enter Tryz.func247,Tryz.ntmps247
 go_wp2_with (go_at_call 263;refine(HN.out _ HT.out).mono ?_;rintro e w' ⟨rfl,rfl⟩)
 go_at_call 264
 refine hfmt.mono ?_;rintro e w' ⟨rfl,k,v',dk,rfl,hF⟩;have hcells: ∀(j:Nat) x,(Lib.decDigits u)[j]? =some x->((putRow (λ(b:UInt8)=>Value.int .u8 (b.toNat:Int)) (w.alloc (.cells Lib.zeros24 263)) w.heap.size 0 dk).drewN k).cell? ⟨w.heap.size,0+j,none⟩=some (.int .u8 (x.toNat:Int)):=by intro j x hj;have hjl:j<(Lib.decDigits u).length:=(Ua.1 hj).1;have hx:(Lib.decDigits u)[j]=x:=(Ua.1 hj).2;rw[<-hx,Lib.row_is_numeral hF j hjl,World.cell?_drewN];exact cell?_putRow (λ(b:UInt8)=>Value.int .u8 (b.toNat:Int)) _ w.heap.size 0 _ dk HH0.out (by rw[hF.size,uf]) j (by rw[hF.size];rw[Lib.decDigits_length]at hjl;exact hjl)
 obtain⟨os,eo⟩:=Lib.fin_at w (.cells Lib.zeros24 263) dk k 0;have hnx2:Below w.heap.size w ((putRow (λ(b:UInt8)=>Value.int .u8 (b.toNat:Int)) (w.alloc (.cells Lib.zeros24 263)) w.heap.size 0 dk).drewN k):=by rw[eo];exact Lib.below_grow w.heap.size w (Db _) k os
 have hsz2:w.heap.size<((putRow (λ(b:UInt8)=>Value.int .u8 (b.toNat:Int)) (w.alloc (.cells Lib.zeros24 263)) w.heap.size 0 dk).drewN k).heap.size:=by
  have h0:0<(Lib.decDigits u).length:=by rw[Lib.decDigits_length];exact Lib.nDigits_pos u
  exact World.block_lt_of_cell? _ _ (hcells 0 _ (Na h0))
 obtain⟨v2,w3,hrun,hG⟩:=HAP.out _ hnx2 hsz2 hcells;rw[Lib.decDigits_length]at hrun;generalize (putRow (λ(b:UInt8)=>Value.int .u8 (b.toNat:Int)) (w.alloc (.cells Lib.zeros24 263)) w.heap.size 0 dk).drewN k=W2 at hrun ⊢;clear eo HH0 hfmt hcells hnx2 hsz2 HAP HN HT;have HR:=Lib.hid hrun;clear hrun
 go_wp2_with (at_builtin;refine Cl.my rfl _ _ _ _ rfl (by rfl) (by rfl) HR.out ?_)
 go_ret;exact⟨_,rfl,hG⟩
def Ap.int186(u:Nat)(hu:u<=9223372036854775807)(sv:Value)(w:World){G:Value->World->Prop}(h:Calls Tryz.prog 247 #[sv, .int .u64 u, .int .i64 10] w λe w'=> ∃v,e= .returned v/\G v w'):
  Calls Tryz.prog 282 #[sv, .int .i64 u, .int .i64 10] w λe w'=> ∃v,e= .returned v/\G v w':=by
 have H:=Lib.hid h;have h0: ¬((u:Nat):Int)<0:=by omega
 have hw:IntKind.u64.wrap ((u:Nat):Int)=(u:Int):=by rw[IntKind.wrap_u64];omega
 clear h;go_enter Tryz.func282,Tryz.ntmps282
 go_wp2_with (go_at_call 247;refine H.out.mono ?_;rintro e w2 ⟨v2,rfl,hG⟩)
 go_ret;exact⟨_,rfl,hG⟩
def Ap.int143(u:Nat)(sv:Value)(w:World){G:Value->World->Prop}(h:Calls Tryz.prog 282 #[sv, .int .i64 u, .int .i64 10] w λe w'=> ∃v,e= .returned v/\G v w'):
  Calls Tryz.prog 260 #[sv, .int .i64 u, .int .i64 10] w λe w'=> ∃v,e= .returned v/\G v w':=by
 have H:=Lib.hid h;clear h;go_enter Tryz.func260,Tryz.ntmps260
 go_wp2_with (go_at_call 282;refine H.out.mono ?_;rintro e w2 ⟨v2,rfl,hG⟩)
 go_ret;exact⟨_,rfl,hG⟩
def Ap.uint185(u:Nat)(sv:Value)(w:World){G:Value->World->Prop}(h:Calls Tryz.prog 265 #[sv, .int .u64 u, .int .i64 16, .bool false, .bool true] w λe w'=> ∃v,e= .returned (.tuple #[v, .string ⟨#[]⟩])/\G v w'):
  Calls Tryz.prog 247 #[sv, .int .u64 u, .int .i64 16] w λe w'=> ∃v,e= .returned v/\G v w':=by
 have H:=Lib.hid h;clear h;go_enter Tryz.func247,Tryz.ntmps247
 go_wp2_with (go_at_call 265;refine H.out.mono ?_;rintro e w2 ⟨v2,rfl,hG⟩)
 go_ret;exact⟨_,rfl,hG⟩
def Ap.uint142(u:Nat)(sv:Value)(w:World){G:Value->World->Prop}(h:Calls Tryz.prog 247 #[sv, .int .u64 u, .int .i64 16] w λe w'=> ∃v,e= .returned v/\G v w'):
  Calls Tryz.prog 214 #[sv, .int .u64 u, .int .i64 16] w λe w'=> ∃v,e= .returned v/\G v w':=by
 have H:=Lib.hid h;clear h;go_enter Tryz.func214,Tryz.ntmps214
 go_wp2_with (go_at_call 247;refine H.out.mono ?_;rintro e w2 ⟨v2,rfl,hG⟩)
 go_ret;exact⟨_,rfl,hG⟩
end Go.Proofs
namespace Go.Lv
open Go.Proofs Go.RowKit
set_option maxRecDepth 100000
def zPK{u:Nat}(h:u<18446744073709551616):(Lib.decDigits u).length<=20:=by
 rw[Lib.decDigits_length];by_cases h1:u=0
 ·subst h1;rw[Lib.nDigits_small (by omega)];omega
 ·have:=Lib.numDigits_eq u (by omega) h;split at this<;>omega
def zHz{vs:Array Value}{a b c:Value}(hs:vs.size=3)(h0:vs[0]? =some a)(h1:vs[1]? =some b)(h2:vs[2]? =some c):vs= #[a,b,c]:=by
 apply Array.ext
 ·simp[hs]
 ·intro i hi hi';have:i=0\/i=1\/i=2:=by omega
  rcases this with rfl|rfl|rfl
  ·exact(Sb.1 h0).2
  ·exact(Sb.1 h1).2
  ·exact(Sb.1 h2).2
def zBj {f:FuncId}{fn:Go.Func}{k1:IntKind}(hf:Tryz.prog.funcs[f]? =some fn)(hn:(fn.name== "runtime.NumGoroutine")=false)(hb:fn.body.isSome=true){F:(Int×Int)×aE->Option aE}
  (h: ∀(i b:Int) (l r:aE) (sv:Value) (ι:cL) (w:World),F ((i,b),l)=some r->Wf ι w->ι 1= .free->Qu Tryz.prog ι w 0 (.sl 5 l:EO VT.I.C)->cx (I:=VT.I) ι w (.c (.own 0)) sv->
   Calls Tryz.prog f #[sv, .int k1 i, .int .i64 b] w λe w'=> ∃v,e= .returned v/\Ap.Out ι w 0 1 r v w'):
  ZH Tryz.prog (⟨f,⟨[.own 0, .int k1, .int .i64],[(0, .sl 5)]⟩,[],⟨[.own 1],[(1, .sl 5)]⟩,1,F⟩:Con VT.I):=
 ⟨rfl,λ_ _ _=>⟨fn,hf,hn,hb⟩,λx y hxy ι w vs W hfr hobj hv=>by
  obtain⟨⟨i,b⟩,l⟩:=x;obtain⟨sv,hsv,hrep⟩:=hv.2 0 (.c (.own 0)) rfl;obtain rfl:=zHz hv.1 hsv (Tz (k:=k1) (n:=i) hv rfl) (Tz (k:= .i64) (n:=b) hv rfl);refine(h i b l y sv ι w hxy W (hfr 1 (Db _)) (hobj (0, .sl 5 l) (Ub ..)) hrep).mono ?_;rintro e w' ⟨v,rfl,ι',S,W',hr,hu,hf'⟩;refine⟨v,ι',rfl,S.wk (λi _ h=>(by cases h)),W',hr,λo ho=> ?_,λi hi=>hf' i (hfr i (Jc (by show 1<=1+1;omega) hi)) (.inr hi)⟩;obtain rfl:=jc.1 ho;exact hu _ (Vb _ (Ub ..))⟩
def zDT:ZH Tryz.prog (⟨260,⟨[.own 0, .int .i64, .int .i64],[(0, .sl 5)]⟩,[],⟨[.own 1],[(1, .sl 5)]⟩,1,Nt⟩:Con VT.I):=
 zBj Tryz.func260 (by kernel_rfl) (by kernel_rfl) λi b l r sv ι w hF hR hf hid hs=>by
  obtain⟨h1,h2⟩:=Eo hF;cases h2;simp only[Da,aa,short]at h1;obtain⟨⟨⟨rfl,h3⟩,h4⟩,h5⟩:=h1;obtain⟨u,rfl⟩: ∃u:Nat,i=u:=⟨i.toNat,by omega⟩;simp only[Oa];have h20:=zPK (u:=u) (by omega);refine Ap.int143 u sv w (Ap.int186 u (by omega) sv w ?_);by_cases hu:u<100
  ·exact Ap.u10s u hu sv w (Ap.goodS hR hf hid hs _ (by omega))
  ·exact Ap.u10b u (by omega) (by omega) sv w (A8 hR) λW hB hsz hc=>Ap.good hR hf hid hs hB (Db _) _ (by omega) (by omega) (.inr hsz) hc
def lU{ι:cL}{w:World}(h:Wf ι w):w.cell? ⟨3,15,none⟩=some (.int .u8 4):=by obtain⟨o,h1,t,fr,rfl⟩:=MR h (q:=(3,FC .u8 BA)) (Vb _ (Vb _ (Ub ..)));rw[hU h1];rfl
def zDU:ZH Tryz.prog (⟨214,⟨[.own 0, .int .u64, .int .i64],[(0, .sl 5)]⟩,[],⟨[.own 1],[(1, .sl 5)]⟩,1,vv⟩:Con VT.I):=
 zBj Tryz.func214 (by kernel_rfl) (by kernel_rfl) λi b l r sv ι w hF hR hf hid hs=>by
  obtain⟨h1,h2⟩:=Eo hF;cases h2;simp only[Da,aa,short]at h1;obtain⟨⟨⟨rfl,h3⟩,h4⟩,h5⟩:=h1;obtain⟨u,rfl⟩: ∃u:Nat,i=u:=⟨i.toNat,by omega⟩;simp only[Oa];refine Ap.uint142 u sv w (Ap.uint185 u sv w ?_);by_cases hu:u<16
  ·rw[show j0 u=[fv u] by unfold j0;rw[La hu]];refine Ap.bits1 u hu sv w (lU hR) λC hC=> ?_;refine Ap.good hR hf hid hs (b:=w.heap.size) (o:=64) (c:=1) ((Below.refl _ w).alloc (Db _) _) (Db _) [fv u] (by simp;omega) (by simp) (.inr (by rw[World.size_alloc];omega)) (λi x hx=> ?_)
   match i,hx with
   |0,hx=>
    obtain rfl:fv u=x:=by simpa using hx
    simpa using hC
  ·rw[show j0 u=[fv (u / 16),fv (u%16)] by unfold j0;rw[Ka hu]];refine Ap.bits2 u (by omega) (by omega) sv w (lU hR) λC hC=> ?_;refine Ap.good hR hf hid hs (b:=w.heap.size) (o:=63) (c:=2) ((Below.refl _ w).alloc (Db _) _) (Db _) [fv (u / 16),fv (u%16)] (by simp;omega) (by simp) (.inr (by rw[World.size_alloc];omega)) (λi x hx=> ?_)
   match i,hx with
   |0,hx=>
    obtain rfl:fv (u / 16)=x:=by simpa using hx
    simpa using hC.1
   |1,hx=>
    obtain rfl:fv (u%16)=x:=by simpa using hx
    simpa using hC.2
end Go.Lv
