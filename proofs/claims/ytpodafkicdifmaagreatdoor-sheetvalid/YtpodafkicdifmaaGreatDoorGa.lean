/- Contracts of library functions, of seat .ZD, in the evaluator's form: pure functions. -/
import Derived.Test.YtpodafkicdifmaaGreatDoorLf
import Derived.Test.YtpodafkicdifmaaGreatDoorSh
import Derived.Lib.ItoaNum
import Derived.Test.YtpodafkicdifmaaGreatDoorIp
import Derived.Lib.AtoiErrMem
set_option linter.unusedSimpArgs false
set_option linter.unusedVariables false
namespace Go.Lv
open Go.Proofs Go.RowKit
set_option maxRecDepth 100000
theorem uV{ι:Asg}{w:World}(h:Wf ι w){q:Nat×(Obj->Prop)}(hq:q∈tabG): ∃o,w.heap[q.1]? =some o/\q.2 o:=(h.glob q hq).2
theorem yY{ι:Asg}{w:World}(h:Wf ι w): ∃m,w.cell? ⟨0,0,none⟩=some (.int .i64 m):=by obtain⟨o,h1,cs,t,fr,m,rfl,h2⟩:=uV h (q:=(0,oN)) (Pb ..);exact⟨m,by rw[cell_of h1];exact h2⟩
theorem ko{l:Str}(h:short l=true):(⟨l.toArray⟩:ByteArray).size<4294967281:=by unfold short at h;have:=Fb h;rw[size_mk];exact this
theorem Gt{R:Type}{b:Bool}{x:Option R}{y:R}(h:need b x=some y):b=true/\x=some y:=by
 cases b with
 |true=>exact⟨rfl,h⟩
 |false=>cases h
theorem Cu{l:Str}(h:Oh l=true): ∀(j:Nat) b,l[j]? =some b->b.toNat<128:=fun j b hb=>by unfold Oh at h;exact Fb (Rb.1 h b (Bb hb))
section
variable {I:Ip} {P:Program} (hI:IpOK P I)
include hI
theorem YP {f:FuncId} {fn:Go.Func} (hf:P.funcs[f]? =some fn) (hn:(fn.name== "runtime.NumGoroutine")=false) (hb:fn.body.isSome=true) {F:Str×Str->Option Int}
  (h: ∀(s t:Str) (n:Int) (ι:Asg) (w:World),Wf ι w->F (s,t)=some n->Calls P f #[.string ⟨s.toArray⟩, .string ⟨t.toArray⟩] w fun e w'=>e= .returned (.int .i64 n)/\Below w.heap.size w w'):
  ZR P (⟨f,⟨[.str, .str],[]⟩,[],⟨[.int .i64],[]⟩,0,F⟩:Con I):=
 Ot hI rfl hf hn hb fun(l,c) y hxy ι w vs W hv=>by obtain rfl:=vB hv.1 (Vm (l:=l) hv rfl) (Vm (l:=c) hv rfl);exact(h l c y ι w W hxy).mono fun e w' ⟨he,hB⟩=>⟨_,he,hB,Q4 _ _⟩
theorem XP {f:FuncId} {fn:Go.Func} (hf:P.funcs[f]? =some fn) (hn:(fn.name== "runtime.NumGoroutine")=false) (hb:fn.body.isSome=true) {F:Str×Str->Option Str}
  (h: ∀(s t r:Str) (ι:Asg) (w:World),Wf ι w->F (s,t)=some r->Calls P f #[.string ⟨s.toArray⟩, .string ⟨t.toArray⟩] w fun e w'=>e= .returned (.string ⟨r.toArray⟩)/\Below w.heap.size w w'):
  ZR P (⟨f,⟨[.str, .str],[]⟩,[],⟨[.str],[]⟩,0,F⟩:Con I):=
 Ot hI rfl hf hn hb fun(l,c) y hxy ι w vs W hv=>by obtain rfl:=vB hv.1 (Vm (l:=l) hv rfl) (Vm (l:=c) hv rfl);exact(h l c y ι w W hxy).mono fun e w' ⟨he,hB⟩=>⟨_,he,hB,fw _⟩
theorem zEq {f:FuncId} {fn:Go.Func} (hf:P.funcs[f]? =some fn) (hn:(fn.name== "runtime.NumGoroutine")=false) (hb:fn.body.isSome=true) {F:Str×Str->Option (Str×Str×Bool)}
  (h: ∀(s t:Str) (r:Str×Str×Bool) (ι:Asg) (w:World),Wf ι w->F (s,t)=some r->Calls P f #[.string ⟨s.toArray⟩, .string ⟨t.toArray⟩] w fun e w'=>e= .returned (.tuple #[.string ⟨r.1.toArray⟩, .string ⟨r.2.1.toArray⟩, .bool r.2.2])/\Below w.heap.size w w'):
  ZR P (⟨f,⟨[.str, .str],[]⟩,[],⟨[.str, .str, .bool],[]⟩,0,F⟩:Con I):=
 Ot hI rfl hf hn hb fun(l,c) y hxy ι w vs W hv=>by
  obtain rfl:=vB hv.1 (Vm (l:=l) hv rfl) (Vm (l:=c) hv rfl);refine(h l c y ι w W hxy).mono fun e w' ⟨he,hB⟩=>⟨_,he,hB,_,rfl,rfl,fun j t ht=> ?_⟩;rcases j with _|_|_|j
  ·injection ht with ht;subst ht;exact⟨_,rfl,fw _⟩
  ·injection ht with ht;subst ht;exact⟨_,rfl,fw _⟩
  ·injection ht with ht;subst ht;exact⟨_,rfl,mi _⟩
  ·cases ht
end
theorem below_drewN{w:World}(n:Nat):Below w.heap.size w (w.drewN n):=⟨rfl,rfl,rfl,Ta _,fun _ _=>rfl⟩
theorem zC0:ZR Tryz.prog (⟨104,⟨[.str, .int .u8],[]⟩,[],⟨[.int .i64],[]⟩,0,IB⟩:Con VT.I):=
 zEr VT.ipOK Tryz.func104 (by kernel_rfl) (by kernel_rfl) fun s c w=>Any.stringslite_IndexByte Tryz.lays217 s c w
theorem zE0:ZR Tryz.prog (⟨132,⟨[.str, .str],[]⟩,[],⟨[.int .i64],[]⟩,0,Km⟩:Con VT.I):=
 YP VT.ipOK Tryz.func132 (by kernel_rfl) (by kernel_rfl) fun s t n ι w hR hF=>by obtain⟨h1,h2⟩:=Gt hF;cases h2;obtain⟨m,hm⟩:=yY hR;exact(Any.strings_Index Tryz.lays143 ⟨s.toArray⟩ ⟨t.toArray⟩ m w (ko h1) hm).mono fun e w' ⟨a,b⟩=>⟨a,WQ b⟩
theorem zKA:ZR Tryz.prog (⟨231,⟨[.str, .str],[]⟩,[],⟨[.str, .str, .bool],[]⟩,0,cutF⟩:Con VT.I):=
 zEq VT.ipOK Tryz.func231 (by kernel_rfl) (by kernel_rfl) fun s t n ι w hR hF=>by obtain⟨h1,h2⟩:=Gt hF;cases h2;obtain⟨m,hm⟩:=yY hR;exact(Any.strings_Cut Tryz.lays145 ⟨s.toArray⟩ ⟨t.toArray⟩ m w (ko h1) hm).mono fun e w' ⟨a,k,b⟩=>⟨a,b▸below_drewN k⟩
theorem R3:ZR Tryz.prog (⟨230,⟨[.str, .str],[]⟩,[],⟨[.int .i64],[]⟩,0,mo⟩:Con VT.I):=
 YP VT.ipOK Tryz.func230 (by kernel_rfl) (by kernel_rfl) fun s t n ι w hR hF=>by obtain⟨h1,h2⟩:=Gt hF;cases h2;simp only[Ea]at h1;obtain⟨⟨⟨a1,a2⟩,a3⟩,a4⟩:=h1;exact Any.strings_IndexAny_laid Tryz.lays153 (by kernel_rfl) ⟨s.toArray⟩ ⟨t.toArray⟩ w (ko a1) (ko a2) (Cu a3) (Cu a4)
theorem zE2:ZR Tryz.prog (⟨229,⟨[.str, .str],[]⟩,[],⟨[.str],[]⟩,0,Ao⟩:Con VT.I):=
 XP VT.ipOK Tryz.func229 (by kernel_rfl) (by kernel_rfl) fun s t n ι w hR hF=>by obtain⟨h1,h2⟩:=Gt hF;cases h2;simp only[Ea]at h1;exact Any.strings_TrimLeft_laid Tryz.lays161 (by kernel_rfl) ⟨s.toArray⟩ ⟨t.toArray⟩ w (ko h1.1) (Cu h1.2)
theorem zDA{vs:Array Value}{a b c:Value}(hs:vs.size=3)(h0:vs[0]? =some a)(h1:vs[1]? =some b)(h2:vs[2]? =some c):vs= #[a,b,c]:=by
 apply Array.ext
 ·simp[hs]
 ·intro i hi hi';have:i=0\/i=1\/i=2:=by omega
  rcases this with rfl|rfl|rfl
  ·exact(Ub.1 h0).2
  ·exact(Ub.1 h1).2
  ·exact(Ub.1 h2).2
theorem zIf{ι:Asg}{w:World}(h:Wf ι w): ∃ev,w.cell? ⟨errG,0,none⟩=some ev/\(ev= .nilIface\/ ∃te pe,ev= .iface te pe):=by obtain⟨o,h1,t,fr,ev,rfl,h2⟩:=uV h (q:=(errG,sN)) (Lb _ (Pb ..));exact⟨ev,by rw[cell_of h1];rfl,h2⟩
theorem zIi:ZR Tryz.prog (⟨327,⟨[.str, .str],[]⟩,[],⟨[.str],[]⟩,0,trimF⟩:Con VT.I):=
 XP VT.ipOK Tryz.func327 (by kernel_rfl) (by kernel_rfl) fun s t n ι w hR hF=>by obtain⟨h1,h2⟩:=Gt hF;cases h2;simp only[Ea]at h1;have:=ko h1.1.1;exact Any.strings_Trim_laid Tryz.lays160 (by kernel_rfl) ⟨s.toArray⟩ ⟨t.toArray⟩ w (by show(⟨s.toArray⟩:ByteArray).size<=_;omega) (ko h1.1.2) (Cu h1.2)
theorem zC1:ZR Tryz.prog (⟨328,⟨[.str, .int .i64, .int .i64],[]⟩,[],⟨[.int .i64, .ifb],[]⟩,0,uw⟩:Con VT.I):=
 Ot VT.ipOK rfl Tryz.func328 (by kernel_rfl) (by kernel_rfl) fun(l,b,c) y hxy ι w vs W hv=>by
  obtain rfl:=zDA hv.1 (Vm (l:=l) hv rfl) (nH (k:= .i64) (n:=b) hv rfl) (nH (k:= .i64) (n:=c) hv rfl);obtain⟨h1,h2⟩:=Gt hxy;simp only[Ea,ja]at h1;obtain⟨⟨rfl,rfl⟩,h1⟩:=h1;have hs:=ko h1;have fin: ∀(n:Int) (e:Bool) (v:Value) (w':World),((e=false/\v= .nilIface)\/(e=true/\ ∃u x,v= .iface u x))->RepL (I:=VT.I) ι w' (resE ((((⟨[.int .i64, .ifb],[]⟩:StSh).sl VT.I).enc (n,e)).1)) (.tuple #[.int .i64 n,v]):=fun n e v w' h=>by
   refine⟨_,rfl,rfl,fun j t ht=> ?_⟩;rcases j with _|_|j
   ·injection ht with ht;subst ht;exact⟨_,rfl,Q4 _ _⟩
   ·injection ht with ht;subst ht;refine⟨_,rfl,?_,h⟩;rcases h with⟨_,rfl⟩|⟨_,_,_,rfl⟩<;>rfl
   ·cases ht
  cases hp:Lib.parseIntB 64 l with
  |ok v=>
   simp only[hp]at h2;cases h2;refine(Any.strconv_ParseInt_10_at64_ok Tryz.laysC174 ⟨l.toArray⟩ (by omega) v hp w).mono fun e w' ⟨he,hw⟩=>⟨_,he,?_,fin v false _ w' (.inl ⟨rfl,rfl⟩)⟩;rcases hw with rfl|⟨t,rfl⟩
   ·exact Below.refl _ _
   ·exact Lib.bytesWorld_below _ _ _
  |range=>
   simp only[hp]at h2;cases h2;obtain⟨ev,e1,e2⟩:=zIf W;exact(Any.strconv_ParseInt_10_at64_range Tryz.laysC174 ⟨l.toArray⟩ (by omega) hp ev w e1 e2).mono fun e w' ⟨N,he,_,_,hB⟩=>⟨_,he,hB,fin _ true _ w' (.inr ⟨rfl,_,_,rfl⟩)⟩
  |_=>simp only[hp]at h2;cases h2
end Go.Lv
