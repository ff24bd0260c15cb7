/- Contracts of library functions, of seat .ZD, in the evaluator's form: pure functions. -/
import Derived.Test.YtagibnnojbolnaaGreatDoorLf
import Derived.Test.YtagibnnojbolnaaGreatDoorSh
import Derived.Lib.ItoaNum
import Derived.Test.YtagibnnojbolnaaGreatDoorIp
import Derived.Lib.AtoiErrMem
set_option linter.unusedSimpArgs false
set_option linter.unusedVariables false
namespace Go.Lv
open Go.Proofs Go.RowKit
set_option maxRecDepth 100000
theorem AV{ι:Asg}{w:World}(h:Wf ι w){q:Nat×(Obj->Prop)}(hq:q∈tabG): ∃o,w.heap[q.1]? =some o/\q.2 o:=(h.glob q hq).2
theorem bY{ι:Asg}{w:World}(h:Wf ι w): ∃m,w.cell? ⟨0,0,none⟩=some (.int .i64 m):=by obtain⟨o,h1,cs,t,fr,m,rfl,h2⟩:=AV h (q:=(0,uO)) (Ob ..);exact⟨m,by rw[cell_of h1];exact h2⟩
theorem Po{l:Str}(h:short l=true):(⟨l.toArray⟩:ByteArray).size<4294967281:=by unfold short at h;have:=Ib h;rw[size_mk];exact this
theorem Mt{R:Type}{b:Bool}{x:Option R}{y:R}(h:need b x=some y):b=true/\x=some y:=by
 cases b with
 |true=>exact⟨rfl,h⟩
 |false=>cases h
theorem Iu{l:Str}(h:Kh l=true): ∀(j:Nat) b,l[j]? =some b->b.toNat<128:=fun j b hb=>by unfold Kh at h;exact Ib (Pb.1 h b (ma hb))
section
variable {I:Ip} {P:Program} (hI:IpOK P I)
include hI
theorem YZ {f:FuncId} {fn:Go.Func} (hf:P.funcs[f]? =some fn) (hn:(fn.name== "runtime.NumGoroutine")=false) (hb:fn.body.isSome=true) {F:Str×Str->Option Int}
  (h: ∀(s t:Str) (n:Int) (ι:Asg) (w:World),Wf ι w->F (s,t)=some n->Calls P f #[.string ⟨s.toArray⟩, .string ⟨t.toArray⟩] w fun e w'=>e= .returned (.int .i64 n)/\Below w.heap.size w w'):
  ZL P (⟨f,⟨[.str, .str],[]⟩,[],⟨[.int .i64],[]⟩,0,F⟩:Con I):=
 Yt hI rfl hf hn hb fun(l,c) y hxy ι w vs W hv=>by obtain rfl:=KC hv.1 (Ym (l:=l) hv rfl) (Ym (l:=c) hv rfl);exact(h l c y ι w W hxy).mono fun e w' ⟨he,hB⟩=>⟨_,he,hB,Q7 _ _⟩
theorem XZ {f:FuncId} {fn:Go.Func} (hf:P.funcs[f]? =some fn) (hn:(fn.name== "runtime.NumGoroutine")=false) (hb:fn.body.isSome=true) {F:Str×Str->Option Str}
  (h: ∀(s t r:Str) (ι:Asg) (w:World),Wf ι w->F (s,t)=some r->Calls P f #[.string ⟨s.toArray⟩, .string ⟨t.toArray⟩] w fun e w'=>e= .returned (.string ⟨r.toArray⟩)/\Below w.heap.size w w'):
  ZL P (⟨f,⟨[.str, .str],[]⟩,[],⟨[.str],[]⟩,0,F⟩:Con I):=
 Yt hI rfl hf hn hb fun(l,c) y hxy ι w vs W hv=>by obtain rfl:=KC hv.1 (Ym (l:=l) hv rfl) (Ym (l:=c) hv rfl);exact(h l c y ι w W hxy).mono fun e w' ⟨he,hB⟩=>⟨_,he,hB,Tw _⟩
theorem zFW {f:FuncId} {fn:Go.Func} (hf:P.funcs[f]? =some fn) (hn:(fn.name== "runtime.NumGoroutine")=false) (hb:fn.body.isSome=true) {F:Str×Str->Option (Str×Str×Bool)}
  (h: ∀(s t:Str) (r:Str×Str×Bool) (ι:Asg) (w:World),Wf ι w->F (s,t)=some r->Calls P f #[.string ⟨s.toArray⟩, .string ⟨t.toArray⟩] w fun e w'=>e= .returned (.tuple #[.string ⟨r.1.toArray⟩, .string ⟨r.2.1.toArray⟩, .bool r.2.2])/\Below w.heap.size w w'):
  ZL P (⟨f,⟨[.str, .str],[]⟩,[],⟨[.str, .str, .bool],[]⟩,0,F⟩:Con I):=
 Yt hI rfl hf hn hb fun(l,c) y hxy ι w vs W hv=>by
  obtain rfl:=KC hv.1 (Ym (l:=l) hv rfl) (Ym (l:=c) hv rfl);refine(h l c y ι w W hxy).mono fun e w' ⟨he,hB⟩=>⟨_,he,hB,_,rfl,rfl,fun j t ht=> ?_⟩;rcases j with _|_|_|j
  ·injection ht with ht;subst ht;exact⟨_,rfl,Tw _⟩
  ·injection ht with ht;subst ht;exact⟨_,rfl,Tw _⟩
  ·injection ht with ht;subst ht;exact⟨_,rfl,mi _⟩
  ·cases ht
end
theorem below_drewN{w:World}(n:Nat):Below w.heap.size w (w.drewN n):=⟨rfl,rfl,rfl,Xa _,fun _ _=>rfl⟩
theorem zEN:ZL Tryz.prog (⟨172,⟨[.str, .int .u8],[]⟩,[],⟨[.int .i64],[]⟩,0,xB⟩:Con VT.I):=
 zFZ VT.ipOK Tryz.func172 (by kernel_rfl) (by kernel_rfl) fun s c w=>Any.stringslite_IndexByte Tryz.lays217 s c w
theorem zGy:ZL Tryz.prog (⟨137,⟨[.str, .str],[]⟩,[],⟨[.int .i64],[]⟩,0,Vm⟩:Con VT.I):=
 YZ VT.ipOK Tryz.func137 (by kernel_rfl) (by kernel_rfl) fun s t n ι w hR hF=>by obtain⟨h1,h2⟩:=Mt hF;cases h2;obtain⟨m,hm⟩:=bY hR;exact(Any.strings_Index Tryz.lays143 ⟨s.toArray⟩ ⟨t.toArray⟩ m w (Po h1) hm).mono fun e w' ⟨a,b⟩=>⟨a,XP b⟩
theorem zLX:ZL Tryz.prog (⟨235,⟨[.str, .str],[]⟩,[],⟨[.str, .str, .bool],[]⟩,0,cutF⟩:Con VT.I):=
 zFW VT.ipOK Tryz.func235 (by kernel_rfl) (by kernel_rfl) fun s t n ι w hR hF=>by obtain⟨h1,h2⟩:=Mt hF;cases h2;obtain⟨m,hm⟩:=bY hR;exact(Any.strings_Cut Tryz.lays145 ⟨s.toArray⟩ ⟨t.toArray⟩ m w (Po h1) hm).mono fun e w' ⟨a,k,b⟩=>⟨a,b▸below_drewN k⟩
theorem zAy:ZL Tryz.prog (⟨234,⟨[.str, .str],[]⟩,[],⟨[.int .i64],[]⟩,0,Wo⟩:Con VT.I):=
 YZ VT.ipOK Tryz.func234 (by kernel_rfl) (by kernel_rfl) fun s t n ι w hR hF=>by obtain⟨h1,h2⟩:=Mt hF;cases h2;simp only[Da]at h1;obtain⟨⟨⟨a1,a2⟩,a3⟩,a4⟩:=h1;exact Any.strings_IndexAny_laid Tryz.lays153 (by kernel_rfl) ⟨s.toArray⟩ ⟨t.toArray⟩ w (Po a1) (Po a2) (Iu a3) (Iu a4)
theorem zGA:ZL Tryz.prog (⟨233,⟨[.str, .str],[]⟩,[],⟨[.str],[]⟩,0,Un⟩:Con VT.I):=
 XZ VT.ipOK Tryz.func233 (by kernel_rfl) (by kernel_rfl) fun s t n ι w hR hF=>by obtain⟨h1,h2⟩:=Mt hF;cases h2;simp only[Da]at h1;exact Any.strings_TrimLeft_laid Tryz.lays161 (by kernel_rfl) ⟨s.toArray⟩ ⟨t.toArray⟩ w (Po h1.1) (Iu h1.2)
theorem zFj{vs:Array Value}{a b c:Value}(hs:vs.size=3)(h0:vs[0]? =some a)(h1:vs[1]? =some b)(h2:vs[2]? =some c):vs= #[a,b,c]:=by
 apply Array.ext
 ·simp[hs]
 ·intro i hi hi';have:i=0\/i=1\/i=2:=by omega
  rcases this with rfl|rfl|rfl
  ·exact(Lb.1 h0).2
  ·exact(Lb.1 h1).2
  ·exact(Lb.1 h2).2
theorem zJA{ι:Asg}{w:World}(h:Wf ι w): ∃ev,w.cell? ⟨errG,0,none⟩=some ev/\(ev= .nilIface\/ ∃te pe,ev= .iface te pe):=by obtain⟨o,h1,t,fr,ev,rfl,h2⟩:=AV h (q:=(errG,vO)) (Kb _ (Ob ..));exact⟨ev,by rw[cell_of h1];rfl,h2⟩
theorem zJD:ZL Tryz.prog (⟨354,⟨[.str, .str],[]⟩,[],⟨[.str],[]⟩,0,trimF⟩:Con VT.I):=
 XZ VT.ipOK Tryz.func354 (by kernel_rfl) (by kernel_rfl) fun s t n ι w hR hF=>by obtain⟨h1,h2⟩:=Mt hF;cases h2;simp only[Da]at h1;have:=Po h1.1.1;exact Any.strings_Trim_laid Tryz.lays160 (by kernel_rfl) ⟨s.toArray⟩ ⟨t.toArray⟩ w (by show(⟨s.toArray⟩:ByteArray).size<=_;omega) (Po h1.1.2) (Iu h1.2)
theorem zEO:ZL Tryz.prog (⟨355,⟨[.str, .int .i64, .int .i64],[]⟩,[],⟨[.int .i64, .ifb],[]⟩,0,jw⟩:Con VT.I):=
 Yt VT.ipOK rfl Tryz.func355 (by kernel_rfl) (by kernel_rfl) fun(l,b,c) y hxy ι w vs W hv=>by
  obtain rfl:=zFj hv.1 (Ym (l:=l) hv rfl) (xO (k:= .i64) (n:=b) hv rfl) (xO (k:= .i64) (n:=c) hv rfl);obtain⟨h1,h2⟩:=Mt hxy;simp only[Da,ja]at h1;obtain⟨⟨rfl,rfl⟩,h1⟩:=h1;have hs:=Po h1;have fin: ∀(n:Int) (e:Bool) (v:Value) (w':World),((e=false/\v= .nilIface)\/(e=true/\ ∃u x,v= .iface u x))->RepL (I:=VT.I) ι w' (resE ((((⟨[.int .i64, .ifb],[]⟩:StSh).sl VT.I).enc (n,e)).1)) (.tuple #[.int .i64 n,v]):=fun n e v w' h=>by
   refine⟨_,rfl,rfl,fun j t ht=> ?_⟩;rcases j with _|_|j
   ·injection ht with ht;subst ht;exact⟨_,rfl,Q7 _ _⟩
   ·injection ht with ht;subst ht;refine⟨_,rfl,?_,h⟩;rcases h with⟨_,rfl⟩|⟨_,_,_,rfl⟩<;>rfl
   ·cases ht
  cases hp:Lib.parseIntB 64 l with
  |ok v=>
   simp only[hp]at h2;cases h2;refine(Any.strconv_ParseInt_10_at64_ok Tryz.laysC174 ⟨l.toArray⟩ (by omega) v hp w).mono fun e w' ⟨he,hw⟩=>⟨_,he,?_,fin v false _ w' (.inl ⟨rfl,rfl⟩)⟩;rcases hw with rfl|⟨t,rfl⟩
   ·exact Below.refl _ _
   ·exact Lib.bytesWorld_below _ _ _
  |range=>
   simp only[hp]at h2;cases h2;obtain⟨ev,e1,e2⟩:=zJA W;exact(Any.strconv_ParseInt_10_at64_range Tryz.laysC174 ⟨l.toArray⟩ (by omega) hp ev w e1 e2).mono fun e w' ⟨N,he,_,_,hB⟩=>⟨_,he,hB,fin _ true _ w' (.inr ⟨rfl,_,_,rfl⟩)⟩
  |_=>simp only[hp]at h2;cases h2
end Go.Lv
