/- Contracts of library functions, of seat .ZD, in the evaluator's form: pure functions. -/
import Derived.Test.YtjjdimihokbknaaGreatDoorLf
import Derived.Test.YtjjdimihokbknaaGreatDoorSh
import Derived.Lib.ItoaNum
import Derived.Test.YtjjdimihokbknaaGreatDoorIp
set_option linter.unusedSimpArgs false
set_option linter.unusedVariables false
namespace Go.Lv
open Go.Proofs Go.RowKit
set_option maxRecDepth 100000
theorem zLL{ι:Asg}{w:World}(h:Wf ι w){q:Nat×(Obj->Prop)}(hq:q∈tabG): ∃o,w.heap[q.1]? =some o/\q.2 o:=(h.glob q hq).2
theorem eT{ι:Asg}{w:World}(h:Wf ι w): ∃m,w.cell? ⟨0,0,none⟩=some (.int .i64 m):=by obtain⟨o,h1,cs,t,fr,m,rfl,h2⟩:=zLL h (q:=(0,WJ)) (Lb ..);exact⟨m,by rw[cell_of h1];exact h2⟩
theorem Cs{l:Str}(h:short l=true):(⟨l.toArray⟩:ByteArray).size<4294967281:=by unfold short at h;have:=Jb h;rw[size_mk];exact this
theorem Mw{R:Type}{b:Bool}{x:Option R}{y:R}(h:need b x=some y):b=true/\x=some y:=by
 cases b with
 |true=>exact⟨rfl,h⟩
 |false=>cases h
theorem XE{l:Str}(h:Aw l=true): ∀(j:Nat) b,l[j]? =some b->b.toNat<128:=fun j b hb=>by unfold Aw at h;exact Jb (Ib.1 h b (Oa hb))
section
variable {I:Ip} {P:Program} (hI:IpOK P I)
include hI
theorem jU {f:FuncId} {fn:Go.Func} (hf:P.funcs[f]? =some fn) (hn:(fn.name== "runtime.NumGoroutine")=false) (hb:fn.body.isSome=true) {F:Str×Str->Option Int}
  (h: ∀(s t:Str) (n:Int) (ι:Asg) (w:World),Wf ι w->F (s,t)=some n->Calls P f #[.string ⟨s.toArray⟩, .string ⟨t.toArray⟩] w fun e w'=>e= .returned (.int .i64 n)/\Below w.heap.size w w'):
  zh P (⟨f,⟨[.str, .str],[]⟩,[],⟨[.int .i64],[]⟩,0,F⟩:Con I):=
 jr hI rfl hf hn hb fun(l,c) y hxy ι w vs W hv=>by obtain rfl:=dw hv.1 (Ak (l:=l) hv rfl) (Ak (l:=c) hv rfl);exact(h l c y ι w W hxy).mono fun e w' ⟨he,hB⟩=>⟨_,he,hB,QH _ _⟩
theorem zGs {f:FuncId} {fn:Go.Func} (hf:P.funcs[f]? =some fn) (hn:(fn.name== "runtime.NumGoroutine")=false) (hb:fn.body.isSome=true) {F:Str×Str->Option Str}
  (h: ∀(s t r:Str) (ι:Asg) (w:World),Wf ι w->F (s,t)=some r->Calls P f #[.string ⟨s.toArray⟩, .string ⟨t.toArray⟩] w fun e w'=>e= .returned (.string ⟨r.toArray⟩)/\Below w.heap.size w w'):
  zh P (⟨f,⟨[.str, .str],[]⟩,[],⟨[.str],[]⟩,0,F⟩:Con I):=
 jr hI rfl hf hn hb fun(l,c) y hxy ι w vs W hv=>by obtain rfl:=dw hv.1 (Ak (l:=l) hv rfl) (Ak (l:=c) hv rfl);exact(h l c y ι w W hxy).mono fun e w' ⟨he,hB⟩=>⟨_,he,hB,jq _⟩
theorem zGp {f:FuncId} {fn:Go.Func} (hf:P.funcs[f]? =some fn) (hn:(fn.name== "runtime.NumGoroutine")=false) (hb:fn.body.isSome=true) {F:Str×Str->Option (Str×Str×Bool)}
  (h: ∀(s t:Str) (r:Str×Str×Bool) (ι:Asg) (w:World),Wf ι w->F (s,t)=some r->Calls P f #[.string ⟨s.toArray⟩, .string ⟨t.toArray⟩] w fun e w'=>e= .returned (.tuple #[.string ⟨r.1.toArray⟩, .string ⟨r.2.1.toArray⟩, .bool r.2.2])/\Below w.heap.size w w'):
  zh P (⟨f,⟨[.str, .str],[]⟩,[],⟨[.str, .str, .bool],[]⟩,0,F⟩:Con I):=
 jr hI rfl hf hn hb fun(l,c) y hxy ι w vs W hv=>by
  obtain rfl:=dw hv.1 (Ak (l:=l) hv rfl) (Ak (l:=c) hv rfl);refine(h l c y ι w W hxy).mono fun e w' ⟨he,hB⟩=>⟨_,he,hB,_,rfl,rfl,fun j t ht=> ?_⟩;rcases j with _|_|_|j
  ·injection ht with ht;subst ht;exact⟨_,rfl,jq _⟩
  ·injection ht with ht;subst ht;exact⟨_,rfl,jq _⟩
  ·injection ht with ht;subst ht;exact⟨_,rfl,Dh _⟩
  ·cases ht
end
theorem below_drewN{w:World}(n:Nat):Below w.heap.size w (w.drewN n):=⟨rfl,rfl,rfl,Xa _,fun _ _=>rfl⟩
theorem zFt:zh Tryz.prog (⟨157,⟨[.str, .int .u8],[]⟩,[],⟨[.int .i64],[]⟩,0,Ew⟩:Con VT.I):=
 zGr VT.ipOK Tryz.func157 (by kernel_rfl) (by kernel_rfl) fun s c w=>Any.stringslite_IndexByte Tryz.lays217 s c w
theorem zGQ:zh Tryz.prog (⟨174,⟨[.str, .str],[]⟩,[],⟨[.int .i64],[]⟩,0,om⟩:Con VT.I):=
 jU VT.ipOK Tryz.func174 (by kernel_rfl) (by kernel_rfl) fun s t n ι w hR hF=>by obtain⟨h1,h2⟩:=Mw hF;cases h2;obtain⟨m,hm⟩:=eT hR;exact(Any.strings_Index Tryz.lays143 ⟨s.toArray⟩ ⟨t.toArray⟩ m w (Cs h1) hm).mono fun e w' ⟨a,b⟩=>⟨a,cK b⟩
theorem zKL:zh Tryz.prog (⟨256,⟨[.str, .str],[]⟩,[],⟨[.str, .str, .bool],[]⟩,0,cutF⟩:Con VT.I):=
 zGp VT.ipOK Tryz.func256 (by kernel_rfl) (by kernel_rfl) fun s t n ι w hR hF=>by obtain⟨h1,h2⟩:=Mw hF;cases h2;obtain⟨m,hm⟩:=eT hR;exact(Any.strings_Cut Tryz.lays145 ⟨s.toArray⟩ ⟨t.toArray⟩ m w (Cs h1) hm).mono fun e w' ⟨a,k,b⟩=>⟨a,b▸below_drewN k⟩
theorem zBZ:zh Tryz.prog (⟨255,⟨[.str, .str],[]⟩,[],⟨[.int .i64],[]⟩,0,rE⟩:Con VT.I):=
 jU VT.ipOK Tryz.func255 (by kernel_rfl) (by kernel_rfl) fun s t n ι w hR hF=>by obtain⟨h1,h2⟩:=Mw hF;cases h2;simp only[Fa]at h1;obtain⟨⟨⟨a1,a2⟩,a3⟩,a4⟩:=h1;exact Any.strings_IndexAny_laid Tryz.lays153 (by kernel_rfl) ⟨s.toArray⟩ ⟨t.toArray⟩ w (Cs a1) (Cs a2) (XE a3) (XE a4)
theorem zGS:zh Tryz.prog (⟨254,⟨[.str, .str],[]⟩,[],⟨[.str],[]⟩,0,gD⟩:Con VT.I):=
 zGs VT.ipOK Tryz.func254 (by kernel_rfl) (by kernel_rfl) fun s t n ι w hR hF=>by obtain⟨h1,h2⟩:=Mw hF;cases h2;simp only[Fa]at h1;exact Any.strings_TrimLeft_laid Tryz.lays161 (by kernel_rfl) ⟨s.toArray⟩ ⟨t.toArray⟩ w (Cs h1.1) (XE h1.2)
end Go.Lv
