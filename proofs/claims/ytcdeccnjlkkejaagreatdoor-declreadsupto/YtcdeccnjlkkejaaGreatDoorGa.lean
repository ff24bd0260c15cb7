/- Contracts of library functions, of seat .ZD, in the evaluator's form: pure functions. -/
import Derived.Test.YtcdeccnjlkkejaaGreatDoorLf
import Derived.Test.YtcdeccnjlkkejaaGreatDoorSh
import Derived.Lib.ItoaNum
set_option linter.unusedSimpArgs false
set_option linter.unusedVariables false
namespace Go.Lv
open Go.Proofs Go.RowKit
set_option maxRecDepth 100000
theorem MH{ι:Asg}{w w':World}(g:Below w.heap.size w w'):Stp ι w ι w':=
 ⟨g.os,g.tape,g.output,g.size,fun b s h=>by rw[fD (g.block b (tF h))];exact h,fun b hb=>⟨ib hb.1 g.size,hb.2⟩,fun b hb=>g.block b hb.1,fun _ _=> .inl rfl⟩
theorem dZ{ι:Asg}{get:Get}{w w':World}(h:Rel ι get w)(g:Below w.heap.size w w'):Rel ι get w':=
 ⟨fun id o' ho=>by
  obtain⟨b,e,h2⟩:=h.live id o' ho;refine⟨b,e,h2.step (MH g) (fun b' hb=> ?_)⟩;subst hb;exact g.block _ (h.lt e),h.gone,h.inj,h.glob.step (MH g)⟩
theorem uH{ι:Asg}{w w':World}{get:Get}{nx k:Nat}{val:LV}{v:Value}(hR:Rel ι get w)(g:Below w.heap.size w w')(h:repL ι w' val v):Good ι w get nx k val [] v w':=
 ⟨ι,dZ hR g,h,MH g,fun _ h _=>h⟩
theorem zCc{ι:Asg}{get:Get}{w:World}(h:Rel ι get w){q:Nat×(Obj->Prop)}(hq:q∈tabG): ∃o,w.heap[q.1]? =some o/\q.2 o:=(h.glob q hq).2
theorem aM{ι:Asg}{get:Get}{w:World}(h:Rel ι get w): ∃m,w.cell? ⟨0,0,none⟩=some (.int .i64 m):=by obtain⟨o,h1,cs,t,fr,m,rfl,h2⟩:=zCc h (q:=(0,iE)) (Dc ..);exact⟨m,by rw[cell_of h1];exact h2⟩
theorem Lr{ι:Asg}{w:World}{l:Str}{ts:List TV}{vs:Array Value}{j:Nat}(h:Si ι w ts vs)(hj:ts[j]? =some (.c (.p (.str l)))):vs[j]? =some (.string ⟨l.toArray⟩):=by obtain⟨u,hu,_,hr⟩:=h.2 j _ hj;rw[hu,oH hr]
theorem XF{vs:Array Value}{a b:Value}(hs:vs.size=2)(h0:vs[0]? =some a)(h1:vs[1]? =some b):vs= #[a,b]:=by
 apply Array.ext
 ·simp[hs]
 ·intro i hi hi';have:i=0\/i=1:=by omega
  rcases this with rfl|rfl
  ·exact(Yd.1 h0).2
  ·exact(Yd.1 h1).2
theorem Vv{l:Str}(h:short l=true):(⟨l.toArray⟩:ByteArray).size<4294967281:=by unfold short at h;have:=jb h;rw[size_mk];exact this
theorem EA{R:Type}{b:Bool}{x:Option R}{y:R}(h:need b x=some y):b=true/\x=some y:=by
 cases b with
 |true=>exact⟨rfl,h⟩
 |false=>cases h
theorem Cw{l:Str}(h:yg l=true): ∀(j:Nat) b,l[j]? =some b->b.toNat<128:=fun j b hb=>by unfold yg at h;exact jb (Ua.1 h b (Ra hb))
section
variable {I:Ip} {P:Program}
theorem SN {f:FuncId} {fn:Go.Func} (hf:P.funcs[f]? =some fn) (hn:(fn.name== "runtime.NumGoroutine")=false) (hb:fn.body.isSome=true) {F:Str×Str->Option Int}
  (h: ∀(s t:Str) (n:Int) (ι:Asg) (get:Get) (w:World),Rel ι get w->F (s,t)=some n->Calls P f #[.string ⟨s.toArray⟩, .string ⟨t.toArray⟩] w fun e w'=>e= .returned (.int .i64 n)/\Below w.heap.size w w'):
  zl P (⟨f,⟨[.str, .str],[]⟩,[],⟨[.int .i64],[]⟩,0,F⟩:Con I)where
 wf:=rfl
 ok:=fun x y hxy ρ nx _ _ _=>by obtain⟨l,c⟩:=x;refine⟨⟨fn,hf,hn,hb⟩,fun ι get w N vs hR _ _ ha _=> ?_⟩;obtain rfl:=XF ha.1 (Lr (l:=l) ha rfl) (Lr (l:=c) ha rfl);refine(h l c y ι get w hR hxy).mono ?_;rintro e w' ⟨rfl,hB⟩;exact⟨_,rfl,uH hR hB (by exact⟨rfl, .at _ rfl⟩)⟩
theorem HY {f:FuncId} {fn:Go.Func} (hf:P.funcs[f]? =some fn) (hn:(fn.name== "runtime.NumGoroutine")=false) (hb:fn.body.isSome=true) {F:Str×Str->Option Str}
  (h: ∀(s t r:Str) (ι:Asg) (get:Get) (w:World),Rel ι get w->F (s,t)=some r->Calls P f #[.string ⟨s.toArray⟩, .string ⟨t.toArray⟩] w fun e w'=>e= .returned (.string ⟨r.toArray⟩)/\Below w.heap.size w w'):
  zl P (⟨f,⟨[.str, .str],[]⟩,[],⟨[.str],[]⟩,0,F⟩:Con I)where
 wf:=rfl
 ok:=fun x y hxy ρ nx _ _ _=>by obtain⟨l,c⟩:=x;refine⟨⟨fn,hf,hn,hb⟩,fun ι get w N vs hR _ _ ha _=> ?_⟩;obtain rfl:=XF ha.1 (Lr (l:=l) ha rfl) (Lr (l:=c) ha rfl);refine(h l c y ι get w hR hxy).mono ?_;rintro e w' ⟨rfl,hB⟩;exact⟨_,rfl,uH hR hB (by exact⟨rfl, .str _⟩)⟩
theorem JY {f:FuncId} {fn:Go.Func} (hf:P.funcs[f]? =some fn) (hn:(fn.name== "runtime.NumGoroutine")=false) (hb:fn.body.isSome=true) {F:Str×Str->Option (Str×Str×Bool)}
  (h: ∀(s t:Str) (r:Str×Str×Bool) (ι:Asg) (get:Get) (w:World),Rel ι get w->F (s,t)=some r->Calls P f #[.string ⟨s.toArray⟩, .string ⟨t.toArray⟩] w fun e w'=>e= .returned (.tuple #[.string ⟨r.1.toArray⟩, .string ⟨r.2.1.toArray⟩, .bool r.2.2])/\Below w.heap.size w w'):
  zl P (⟨f,⟨[.str, .str],[]⟩,[],⟨[.str, .str, .bool],[]⟩,0,F⟩:Con I)where
 wf:=rfl
 ok:=fun x y hxy ρ nx _ _ _=>by
  obtain⟨l,c⟩:=x;refine⟨⟨fn,hf,hn,hb⟩,fun ι get w N vs hR _ _ ha _=> ?_⟩;obtain rfl:=XF ha.1 (Lr (l:=l) ha rfl) (Lr (l:=c) ha rfl);refine(h l c y ι get w hR hxy).mono ?_;rintro e w' ⟨rfl,hB⟩;refine⟨_,rfl,uH hR hB ?_⟩;refine⟨_,rfl,rfl,fun j t ht=> ?_⟩;rcases j with _|_|_|j
  ·injection ht with ht;subst ht;exact⟨_,rfl,rfl, .str _⟩
  ·injection ht with ht;subst ht;exact⟨_,rfl,rfl, .str _⟩
  ·injection ht with ht;subst ht;exact⟨_,rfl,rfl, .at _ rfl⟩
  ·cases ht
end
theorem sZ{w w':World}(h:w'=w):Below w.heap.size w w':=h▸Below.refl _ _
theorem below_drewN{w:World}(n:Nat):Below w.heap.size w (w.drewN n):=⟨rfl,rfl,rfl,ma _,fun _ _=>rfl⟩
theorem uZ{I:Ip}:zl Tryz.prog (⟨156,⟨[.str, .int .u8],[]⟩,[],⟨[.int .i64],[]⟩,0,Mv⟩:Con I):=
 IY Tryz.func156 (by kernel_rfl) (by kernel_rfl) fun s c w=>Any.stringslite_IndexByte Tryz.lays217 s c w
theorem RY{I:Ip}:zl Tryz.prog (⟨136,⟨[.str, .str],[]⟩,[],⟨[.int .i64],[]⟩,0,nk⟩:Con I):=
 SN Tryz.func136 (by kernel_rfl) (by kernel_rfl) fun s t n ι get w hR hF=>by obtain⟨h1,h2⟩:=EA hF;cases h2;obtain⟨m,hm⟩:=aM hR;exact(Any.strings_Index Tryz.lays143 ⟨s.toArray⟩ ⟨t.toArray⟩ m w (Vv h1) hm).mono fun e w' ⟨a,b⟩=>⟨a,sZ b⟩
theorem zA6{I:Ip}:zl Tryz.prog (⟨215,⟨[.str, .str],[]⟩,[],⟨[.str, .str, .bool],[]⟩,0,cutF⟩:Con I):=
 JY Tryz.func215 (by kernel_rfl) (by kernel_rfl) fun s t n ι get w hR hF=>by obtain⟨h1,h2⟩:=EA hF;cases h2;obtain⟨m,hm⟩:=aM hR;exact(Any.strings_Cut Tryz.lays145 ⟨s.toArray⟩ ⟨t.toArray⟩ m w (Vv h1) hm).mono fun e w' ⟨a,k,b⟩=>⟨a,b▸below_drewN k⟩
theorem X5{I:Ip}:zl Tryz.prog (⟨214,⟨[.str, .str],[]⟩,[],⟨[.int .i64],[]⟩,0,Jl⟩:Con I):=
 SN Tryz.func214 (by kernel_rfl) (by kernel_rfl) fun s t n ι get w hR hF=>by obtain⟨h1,h2⟩:=EA hF;cases h2;simp only[Fa]at h1;obtain⟨⟨⟨a1,a2⟩,a3⟩,a4⟩:=h1;exact Any.strings_IndexAny_laid Tryz.lays153 (by kernel_rfl) ⟨s.toArray⟩ ⟨t.toArray⟩ w (Vv a1) (Vv a2) (Cw a3) (Cw a4)
theorem OY{I:Ip}:zl Tryz.prog (⟨213,⟨[.str, .str],[]⟩,[],⟨[.str],[]⟩,0,xk⟩:Con I):=
 HY Tryz.func213 (by kernel_rfl) (by kernel_rfl) fun s t n ι get w hR hF=>by obtain⟨h1,h2⟩:=EA hF;cases h2;simp only[Fa]at h1;exact Any.strings_TrimLeft_laid Tryz.lays161 (by kernel_rfl) ⟨s.toArray⟩ ⟨t.toArray⟩ w (Vv h1.1) (Cw h1.2)
end Go.Lv
