/- Contracts of library functions, of seat .ZD, in the evaluator's form: pure functions. -/
import Derived.Test.YtbgmaekmfjhfoaaGreatDoorLf
import Derived.Test.YtbgmaekmfjhfoaaGreatDoorSh
import Derived.Lib.ItoaNum
import Derived.Test.YtbgmaekmfjhfoaaGreatDoorIp
import Derived.Lib.AtoiErrMem
set_option linter.unusedSimpArgs false
set_option linter.unusedVariables false
namespace Go.Lv
open Go.Proofs Go.RowKit
set_option maxRecDepth 100000
theorem UT{ι:Asg}{w:World}(h:Wf ι w){q:Nat×(Obj->Prop)}(hq:q∈tabG): ∃o,w.heap[q.1]? =some o/\q.2 o:=(h.glob q hq).2
theorem kL{ι:Asg}{w:World}(h:Wf ι w): ∃m,w.cell? ⟨0,0,none⟩=some (.int .i64 m):=by obtain⟨o,h1,cs,t,fr,m,rfl,h2⟩:=UT h (q:=(0,mD)) (Jb ..);exact⟨m,by rw[cell_of h1];exact h2⟩
theorem Pm{l:Str}(h:short l=true):(⟨l.toArray⟩:ByteArray).size<4294967281:=by unfold short at h;have:=Ub h;rw[size_mk];exact this
theorem uq{R:Type}{b:Bool}{x:Option R}{y:R}(h:need b x=some y):b=true/\x=some y:=by
 cases b with
 |true=>exact⟨rfl,h⟩
 |false=>cases h
theorem Kr{l:Str}(h:jg l=true): ∀(j:Nat) b,l[j]? =some b->b.toNat<128:=fun j b hb=>by unfold jg at h;exact Ub (Dc.1 h b (aa hb))
section
variable {I:Ip} {P:Program} (hI:IpOK P I)
include hI
theorem SN {f:FuncId} {fn:Go.Func} (hf:P.funcs[f]? =some fn) (hn:(fn.name== "runtime.NumGoroutine")=false) (hb:fn.body.isSome=true) {F:Str×Str->Option Int}
  (h: ∀(s t:Str) (n:Int) (ι:Asg) (w:World),Wf ι w->F (s,t)=some n->Calls P f #[.string ⟨s.toArray⟩, .string ⟨t.toArray⟩] w fun e w'=>e= .returned (.int .i64 n)/\Below w.heap.size w w'):
  ZP P (⟨f,⟨[.str, .str],[]⟩,[],⟨[.int .i64],[]⟩,0,F⟩:Con I):=
 rq hI rfl hf hn hb fun(l,c) y hxy ι w vs W hv=>by obtain rfl:=Sz hv.1 (Dl (l:=l) hv rfl) (Dl (l:=c) hv rfl);exact(h l c y ι w W hxy).mono fun e w' ⟨he,hB⟩=>⟨_,he,hB,Qq _ _⟩
theorem RN {f:FuncId} {fn:Go.Func} (hf:P.funcs[f]? =some fn) (hn:(fn.name== "runtime.NumGoroutine")=false) (hb:fn.body.isSome=true) {F:Str×Str->Option Str}
  (h: ∀(s t r:Str) (ι:Asg) (w:World),Wf ι w->F (s,t)=some r->Calls P f #[.string ⟨s.toArray⟩, .string ⟨t.toArray⟩] w fun e w'=>e= .returned (.string ⟨r.toArray⟩)/\Below w.heap.size w w'):
  ZP P (⟨f,⟨[.str, .str],[]⟩,[],⟨[.str],[]⟩,0,F⟩:Con I):=
 rq hI rfl hf hn hb fun(l,c) y hxy ι w vs W hv=>by obtain rfl:=Sz hv.1 (Dl (l:=l) hv rfl) (Dl (l:=c) hv rfl);exact(h l c y ι w W hxy).mono fun e w' ⟨he,hB⟩=>⟨_,he,hB,uu _⟩
theorem vU {f:FuncId} {fn:Go.Func} (hf:P.funcs[f]? =some fn) (hn:(fn.name== "runtime.NumGoroutine")=false) (hb:fn.body.isSome=true) {F:Str×Str->Option (Str×Str×Bool)}
  (h: ∀(s t:Str) (r:Str×Str×Bool) (ι:Asg) (w:World),Wf ι w->F (s,t)=some r->Calls P f #[.string ⟨s.toArray⟩, .string ⟨t.toArray⟩] w fun e w'=>e= .returned (.tuple #[.string ⟨r.1.toArray⟩, .string ⟨r.2.1.toArray⟩, .bool r.2.2])/\Below w.heap.size w w'):
  ZP P (⟨f,⟨[.str, .str],[]⟩,[],⟨[.str, .str, .bool],[]⟩,0,F⟩:Con I):=
 rq hI rfl hf hn hb fun(l,c) y hxy ι w vs W hv=>by
  obtain rfl:=Sz hv.1 (Dl (l:=l) hv rfl) (Dl (l:=c) hv rfl);refine(h l c y ι w W hxy).mono fun e w' ⟨he,hB⟩=>⟨_,he,hB,_,rfl,rfl,fun j t ht=> ?_⟩;rcases j with _|_|_|j
  ·injection ht with ht;subst ht;exact⟨_,rfl,uu _⟩
  ·injection ht with ht;subst ht;exact⟨_,rfl,uu _⟩
  ·injection ht with ht;subst ht;exact⟨_,rfl,mh _⟩
  ·cases ht
end
theorem below_drewN{w:World}(n:Nat):Below w.heap.size w (w.drewN n):=⟨rfl,rfl,rfl,Sa _,fun _ _=>rfl⟩
theorem iW:ZP Tryz.prog (⟨97,⟨[.str, .int .u8],[]⟩,[],⟨[.int .i64],[]⟩,0,Ny⟩:Con VT.I):=
 uU VT.ipOK Tryz.func97 (by kernel_rfl) (by kernel_rfl) fun s c w=>Any.stringslite_IndexByte Tryz.lays217 s c w
theorem BV:ZP Tryz.prog (⟨48,⟨[.str, .str],[]⟩,[],⟨[.int .i64],[]⟩,0,ek⟩:Con VT.I):=
 SN VT.ipOK Tryz.func48 (by kernel_rfl) (by kernel_rfl) fun s t n ι w hR hF=>by obtain⟨h1,h2⟩:=uq hF;cases h2;obtain⟨m,hm⟩:=kL hR;exact(Any.strings_Index Tryz.lays143 ⟨s.toArray⟩ ⟨t.toArray⟩ m w (Pm h1) hm).mono fun e w' ⟨a,b⟩=>⟨a,tN b⟩
theorem zEc:ZP Tryz.prog (⟨144,⟨[.str, .str],[]⟩,[],⟨[.str, .str, .bool],[]⟩,0,cutF⟩:Con VT.I):=
 vU VT.ipOK Tryz.func144 (by kernel_rfl) (by kernel_rfl) fun s t n ι w hR hF=>by obtain⟨h1,h2⟩:=uq hF;cases h2;obtain⟨m,hm⟩:=kL hR;exact(Any.strings_Cut Tryz.lays145 ⟨s.toArray⟩ ⟨t.toArray⟩ m w (Pm h1) hm).mono fun e w' ⟨a,k,b⟩=>⟨a,b▸below_drewN k⟩
theorem xY:ZP Tryz.prog (⟨143,⟨[.str, .str],[]⟩,[],⟨[.int .i64],[]⟩,0,Um⟩:Con VT.I):=
 SN VT.ipOK Tryz.func143 (by kernel_rfl) (by kernel_rfl) fun s t n ι w hR hF=>by obtain⟨h1,h2⟩:=uq hF;cases h2;simp only[Ea]at h1;obtain⟨⟨⟨a1,a2⟩,a3⟩,a4⟩:=h1;exact Any.strings_IndexAny_laid Tryz.lays153 (by kernel_rfl) ⟨s.toArray⟩ ⟨t.toArray⟩ w (Pm a1) (Pm a2) (Kr a3) (Kr a4)
theorem yU:ZP Tryz.prog (⟨142,⟨[.str, .str],[]⟩,[],⟨[.str],[]⟩,0,Am⟩:Con VT.I):=
 RN VT.ipOK Tryz.func142 (by kernel_rfl) (by kernel_rfl) fun s t n ι w hR hF=>by obtain⟨h1,h2⟩:=uq hF;cases h2;simp only[Ea]at h1;exact Any.strings_TrimLeft_laid Tryz.lays161 (by kernel_rfl) ⟨s.toArray⟩ ⟨t.toArray⟩ w (Pm h1.1) (Kr h1.2)
theorem aV{vs:Array Value}{a b c:Value}(hs:vs.size=3)(h0:vs[0]? =some a)(h1:vs[1]? =some b)(h2:vs[2]? =some c):vs= #[a,b,c]:=by
 apply Array.ext
 ·simp[hs]
 ·intro i hi hi';have:i=0\/i=1\/i=2:=by omega
  rcases this with rfl|rfl|rfl
  ·exact(Pb.1 h0).2
  ·exact(Pb.1 h1).2
  ·exact(Pb.1 h2).2
theorem zBP{ι:Asg}{w:World}(h:Wf ι w): ∃ev,w.cell? ⟨errG,0,none⟩=some ev/\(ev= .nilIface\/ ∃te pe,ev= .iface te pe):=by obtain⟨o,h1,t,fr,ev,rfl,h2⟩:=UT h (q:=(errG,nD)) (Cb _ (Jb ..));exact⟨ev,by rw[cell_of h1];rfl,h2⟩
theorem zBS:ZP Tryz.prog (⟨249,⟨[.str, .str],[]⟩,[],⟨[.str],[]⟩,0,trimF⟩:Con VT.I):=
 RN VT.ipOK Tryz.func249 (by kernel_rfl) (by kernel_rfl) fun s t n ι w hR hF=>by obtain⟨h1,h2⟩:=uq hF;cases h2;simp only[Ea]at h1;have:=Pm h1.1.1;exact Any.strings_Trim_laid Tryz.lays160 (by kernel_rfl) ⟨s.toArray⟩ ⟨t.toArray⟩ w (by show(⟨s.toArray⟩:ByteArray).size<=_;omega) (Pm h1.1.2) (Kr h1.2)
theorem gW:ZP Tryz.prog (⟨250,⟨[.str, .int .i64, .int .i64],[]⟩,[],⟨[.int .i64, .ifb],[]⟩,0,tu⟩:Con VT.I):=
 rq VT.ipOK rfl Tryz.func250 (by kernel_rfl) (by kernel_rfl) fun(l,b,c) y hxy ι w vs W hv=>by
  obtain rfl:=aV hv.1 (Dl (l:=l) hv rfl) (nE (k:= .i64) (n:=b) hv rfl) (nE (k:= .i64) (n:=c) hv rfl);obtain⟨h1,h2⟩:=uq hxy;simp only[Ea,Ua]at h1;obtain⟨⟨rfl,rfl⟩,h1⟩:=h1;have hs:=Pm h1;have fin: ∀(n:Int) (e:Bool) (v:Value) (w':World),((e=false/\v= .nilIface)\/(e=true/\ ∃u x,v= .iface u x))->RepL (I:=VT.I) ι w' (resE ((((⟨[.int .i64, .ifb],[]⟩:StSh).sl VT.I).enc (n,e)).1)) (.tuple #[.int .i64 n,v]):=fun n e v w' h=>by
   refine⟨_,rfl,rfl,fun j t ht=> ?_⟩;rcases j with _|_|j
   ·injection ht with ht;subst ht;exact⟨_,rfl,Qq _ _⟩
   ·injection ht with ht;subst ht;refine⟨_,rfl,?_,h⟩;rcases h with⟨_,rfl⟩|⟨_,_,_,rfl⟩<;>rfl
   ·cases ht
  cases hp:Lib.parseIntB 64 l with
  |ok v=>
   simp only[hp]at h2;cases h2;refine(Any.strconv_ParseInt_10_at64_ok Tryz.laysC174 ⟨l.toArray⟩ (by omega) v hp w).mono fun e w' ⟨he,hw⟩=>⟨_,he,?_,fin v false _ w' (.inl ⟨rfl,rfl⟩)⟩;rcases hw with rfl|⟨t,rfl⟩
   ·exact Below.refl _ _
   ·exact Lib.bytesWorld_below _ _ _
  |range=>
   simp only[hp]at h2;cases h2;obtain⟨ev,e1,e2⟩:=zBP W;exact(Any.strconv_ParseInt_10_at64_range Tryz.laysC174 ⟨l.toArray⟩ (by omega) hp ev w e1 e2).mono fun e w' ⟨N,he,_,_,hB⟩=>⟨_,he,hB,fin _ true _ w' (.inr ⟨rfl,_,_,rfl⟩)⟩
  |_=>simp only[hp]at h2;cases h2
end Go.Lv
