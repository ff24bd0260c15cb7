/- Contracts of library functions, of seat .ZD, in the evaluator's form: pure functions. -/
import Derived.Test.YthejohdmenffiaaGreatDoorLf
import Derived.Test.YthejohdmenffiaaGreatDoorSh
import Derived.Lib.ItoaNum
import Derived.Test.YthejohdmenffiaaGreatDoorIp
set_option linter.unusedSimpArgs false
set_option linter.unusedVariables false
namespace Go.Lv
open Go.Proofs Go.RowKit
set_option maxRecDepth 100000
theorem kI{ι:Asg}{w:World}(h:Wf ι w){q:Nat×(Obj->Prop)}(hq:q∈tabG): ∃o,w.heap[q.1]? =some o/\q.2 o:=(h.glob q hq).2
theorem JC{ι:Asg}{w:World}(h:Wf ι w): ∃m,w.cell? ⟨0,0,none⟩=some (.int .i64 m):=by obtain⟨o,h1,cs,t,fr,m,rfl,h2⟩:=kI h (q:=(0,Bu)) (jb ..);exact⟨m,by rw[cell_of h1];exact h2⟩
theorem Ak{l:Str}(h:short l=true):(⟨l.toArray⟩:ByteArray).size<4294967281:=by unfold short at h;have:=Eb h;rw[size_mk];exact this
theorem uo{R:Type}{b:Bool}{x:Option R}{y:R}(h:need b x=some y):b=true/\x=some y:=by
 cases b with
 |true=>exact⟨rfl,h⟩
 |false=>cases h
theorem Yu{l:Str}(h:Jj l=true): ∀(j:Nat) b,l[j]? =some b->b.toNat<128:=fun j b hb=>by unfold Jj at h;exact Eb (Xa.1 h b (Ga hb))
section
variable {I:Ip} {P:Program} (hI:IpOK P I)
include hI
theorem BD {f:FuncId} {fn:Go.Func} (hf:P.funcs[f]? =some fn) (hn:(fn.name== "runtime.NumGoroutine")=false) (hb:fn.body.isSome=true) {F:Str×Str->Option Int}
  (h: ∀(s t:Str) (n:Int) (ι:Asg) (w:World),Wf ι w->F (s,t)=some n->Calls P f #[.string ⟨s.toArray⟩, .string ⟨t.toArray⟩] w fun e w'=>e= .returned (.int .i64 n)/\Below w.heap.size w w'):
  zx P (⟨f,⟨[.str, .str],[]⟩,[],⟨[.int .i64],[]⟩,0,F⟩:Con I):=
 Tj hI rfl hf hn hb fun(l,c) y hxy ι w vs W hv=>by obtain rfl:=Ap hv.1 (Dg (l:=l) hv rfl) (Dg (l:=c) hv rfl);exact(h l c y ι w W hxy).mono fun e w' ⟨he,hB⟩=>⟨_,he,hB,yc _ _⟩
theorem ML {f:FuncId} {fn:Go.Func} (hf:P.funcs[f]? =some fn) (hn:(fn.name== "runtime.NumGoroutine")=false) (hb:fn.body.isSome=true) {F:Str×Str->Option Str}
  (h: ∀(s t r:Str) (ι:Asg) (w:World),Wf ι w->F (s,t)=some r->Calls P f #[.string ⟨s.toArray⟩, .string ⟨t.toArray⟩] w fun e w'=>e= .returned (.string ⟨r.toArray⟩)/\Below w.heap.size w w'):
  zx P (⟨f,⟨[.str, .str],[]⟩,[],⟨[.str],[]⟩,0,F⟩:Con I):=
 Tj hI rfl hf hn hb fun(l,c) y hxy ι w vs W hv=>by obtain rfl:=Ap hv.1 (Dg (l:=l) hv rfl) (Dg (l:=c) hv rfl);exact(h l c y ι w W hxy).mono fun e w' ⟨he,hB⟩=>⟨_,he,hB,Sj _⟩
theorem PL {f:FuncId} {fn:Go.Func} (hf:P.funcs[f]? =some fn) (hn:(fn.name== "runtime.NumGoroutine")=false) (hb:fn.body.isSome=true) {F:Str×Str->Option (Str×Str×Bool)}
  (h: ∀(s t:Str) (r:Str×Str×Bool) (ι:Asg) (w:World),Wf ι w->F (s,t)=some r->Calls P f #[.string ⟨s.toArray⟩, .string ⟨t.toArray⟩] w fun e w'=>e= .returned (.tuple #[.string ⟨r.1.toArray⟩, .string ⟨r.2.1.toArray⟩, .bool r.2.2])/\Below w.heap.size w w'):
  zx P (⟨f,⟨[.str, .str],[]⟩,[],⟨[.str, .str, .bool],[]⟩,0,F⟩:Con I):=
 Tj hI rfl hf hn hb fun(l,c) y hxy ι w vs W hv=>by
  obtain rfl:=Ap hv.1 (Dg (l:=l) hv rfl) (Dg (l:=c) hv rfl);refine(h l c y ι w W hxy).mono fun e w' ⟨he,hB⟩=>⟨_,he,hB,_,rfl,rfl,fun j t ht=> ?_⟩;rcases j with _|_|_|j
  ·injection ht with ht;subst ht;exact⟨_,rfl,Sj _⟩
  ·injection ht with ht;subst ht;exact⟨_,rfl,Sj _⟩
  ·injection ht with ht;subst ht;exact⟨_,rfl,De _⟩
  ·cases ht
end
theorem below_drewN{w:World}(n:Nat):Below w.heap.size w (w.drewN n):=⟨rfl,rfl,rfl,Ka _,fun _ _=>rfl⟩
theorem UM:zx Tryz.prog (⟨141,⟨[.str, .int .u8],[]⟩,[],⟨[.int .i64],[]⟩,0,Wj⟩:Con VT.I):=
 NL VT.ipOK Tryz.func141 (by kernel_rfl) (by kernel_rfl) fun s c w=>Any.stringslite_IndexByte Tryz.lays217 s c w
theorem CL:zx Tryz.prog (⟨180,⟨[.str, .str],[]⟩,[],⟨[.int .i64],[]⟩,0,ae⟩:Con VT.I):=
 BD VT.ipOK Tryz.func180 (by kernel_rfl) (by kernel_rfl) fun s t n ι w hR hF=>by obtain⟨h1,h2⟩:=uo hF;cases h2;obtain⟨m,hm⟩:=JC hR;exact(Any.strings_Index Tryz.lays143 ⟨s.toArray⟩ ⟨t.toArray⟩ m w (Ak h1) hm).mono fun e w' ⟨a,b⟩=>⟨a,bD b⟩
theorem jJ:zx Tryz.prog (⟨302,⟨[.str, .str],[]⟩,[],⟨[.str, .str, .bool],[]⟩,0,cutF⟩:Con VT.I):=
 PL VT.ipOK Tryz.func302 (by kernel_rfl) (by kernel_rfl) fun s t n ι w hR hF=>by obtain⟨h1,h2⟩:=uo hF;cases h2;obtain⟨m,hm⟩:=JC hR;exact(Any.strings_Cut Tryz.lays145 ⟨s.toArray⟩ ⟨t.toArray⟩ m w (Ak h1) hm).mono fun e w' ⟨a,k,b⟩=>⟨a,b▸below_drewN k⟩
theorem gN:zx Tryz.prog (⟨301,⟨[.str, .str],[]⟩,[],⟨[.int .i64],[]⟩,0,Jk⟩:Con VT.I):=
 BD VT.ipOK Tryz.func301 (by kernel_rfl) (by kernel_rfl) fun s t n ι w hR hF=>by obtain⟨h1,h2⟩:=uo hF;cases h2;simp only[Ca]at h1;obtain⟨⟨⟨a1,a2⟩,a3⟩,a4⟩:=h1;exact Any.strings_IndexAny_laid Tryz.lays153 (by kernel_rfl) ⟨s.toArray⟩ ⟨t.toArray⟩ w (Ak a1) (Ak a2) (Yu a3) (Yu a4)
theorem vL:zx Tryz.prog (⟨300,⟨[.str, .str],[]⟩,[],⟨[.str],[]⟩,0,Sg⟩:Con VT.I):=
 ML VT.ipOK Tryz.func300 (by kernel_rfl) (by kernel_rfl) fun s t n ι w hR hF=>by obtain⟨h1,h2⟩:=uo hF;cases h2;simp only[Ca]at h1;exact Any.strings_TrimLeft_laid Tryz.lays161 (by kernel_rfl) ⟨s.toArray⟩ ⟨t.toArray⟩ w (Ak h1.1) (Yu h1.2)
end Go.Lv
