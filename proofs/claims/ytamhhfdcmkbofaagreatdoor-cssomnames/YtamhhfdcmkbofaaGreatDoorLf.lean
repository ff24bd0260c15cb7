/- The primitives of the plain texts of functions, and their laws. -/
import Derived.Test.YtamhhfdcmkbofaaGreatDoorLa
import Derived.IntWalk
import Derived.Lib.Index
import Derived.Lib.IndexMore
import Derived.Lib.IndexAny
import Derived.Lib.SlTrimSet
import Derived.Lib.TrimByte
import Derived.Lib.ItoaNum
import Derived.Test.YtamhhfdcmkbofaaGreatDoorLe
import Derived.Below
import Derived.Lib.Strings
import Derived.Lib.Bytealg
import GoSem.ClaimChange
import Derived.ChangeSame
import Derived.Carry
import Derived.ProofKit
import Derived.OpenShut
set_option linter.unusedSimpArgs false
set_option linter.unusedVariables false
namespace Go.Lv
abbrev Str:=List UInt8
abbrev w8(n:Int):Int:=IntKind.i8.wrap n
abbrev w32(n:Int):Int:=IntKind.i32.wrap n
abbrev w64(n:Int):Int:=IntKind.i64.wrap n
abbrev wu8(n:Int):Int:=IntKind.u8.wrap n
abbrev wu32(n:Int):Int:=IntKind.u32.wrap n
abbrev wu64(n:Int):Int:=IntKind.u64.wrap n
def Re(k:IntKind)(x y:Int):Int:=k.wrap (BitVec.ofInt k.bits x &&& BitVec.ofInt k.bits y).toNat
def ibOr(k:IntKind)(x y:Int):Int:=k.wrap (BitVec.ofInt k.bits x ||| BitVec.ofInt k.bits y).toNat
def Dx(k:IntKind)(x y:Int):Int:=k.wrap (x*2 ^ (min y.toNat k.bits))
def Pe(k:IntKind)(x y:Int):Int:=x.fdiv (2 ^ (min y.toNat k.bits))
def qK(n:Int):Option UInt8:=cond (decide (0<=n)&&decide (n<=255)) (some (UInt8.ofNat n.toNat)) none
theorem fK{n:Int}{b:UInt8}(h:qK n=some b):n=((b.toNat:Nat):Int):=by
 unfold qK at h;cases a:(decide (0<=n)&&decide (n<=255))with
 |false=>grind
 |true=> rw[a]at h;simp only[Ca,Ya]at a;injection h with h;subst h;rw[UInt8.toNat_ofNat'];omega
@[simp] theorem zyH (b : UInt8) : qK ((b.toNat : Nat) : Int) = some b := by
 unfold qK;have:=UInt8.toNat_lt b;have h:(decide ((0:Int)<=((b.toNat:Nat):Int))&&decide (((b.toNat:Nat):Int)<=255))=true:=by simp only[Ca,Ya];omega
 rw[h];simp
abbrev za{α a:Type}(x:Option α)(f:α->Option a):Option a:=x.bind f
noncomputable def Df{S X R:Type}(step:S->Option (LO S X R))(s:S)(k:X->Option R):Option R:=
 (ae step s).bind fun
 | .out x=>k x
 | .ret r=>some r
def zU{X R:Type}(m:Option (LX X R))(k:X->Option R):Option R:=
 m.bind fun
 | .out x=>k x
 | .ret r=>some r
def QL{X Y:Type}(B:(X->Option Y)->X->Option Y):Nat->X->Option Y
 |0,_=>none
 |n+1,x=>B (QL B n) x
theorem Dt{S X R:Type}{step:S->Option (LO S X R)}: ∀{n m:Nat} {s:S} {x:LX X R},jc step n s=some x->n<=m->jc step m s=some x
 |0,_,_,_,h,_=>by cases h
 |n+1,0,_,_,_,a=>by omega
 |n+1,m+1,s,x,h,a=>by
  simp only[jc]at h ⊢;split at h
  ·cases h
  ·exact Dt h (by omega)
  ·exact h
  ·exact h
theorem uq{S X R:Type}{step:S->Option (LO S X R)}{s:S}{x:LX X R}{n:Nat}(h:jc step n s=some x):ae step s=some x:=by
 have a: ∃n x,jc step n s=some x:=⟨n,x,h⟩;unfold ae;rw[dif_pos a];have b:=a.choose_spec.choose_spec;have c:=Dt h (Nat.le_max_left n a.choose);have d:=Dt b (Nat.le_max_right n a.choose)
 grind
theorem GJ {S X R:Type} {step:S->Option (LO S X R)} (Inv:S->Prop) (a:S->Nat) (r:LX X R)
  (h: ∀s,Inv s->(∃s',step s=some (.again s')/\Inv s'/\a s'<a s)\/(∃x,step s=some (.out x)/\r= .out x)\/(∃y,step s=some (.ret y)/\r= .ret y)) {s:S} (c:Inv s):ae step s=some r:=by
 have b: ∀(m:Nat) (s:S),a s<m->Inv s->jc step m s=some r:=by
  intro m
  induction m with
  |zero=>intro s h;omega
  |succ m d=>
   intro s e c;simp only[jc]
   grind
 exact uq (b (a s+1) s (by omega) c)
theorem vL{S X R:Type}{step:S->Option (LO S X R)}{s s':S}{r:LX X R}(h:step s=some (.again s'))(h': ∃n,jc step n s'=some r): ∃n,jc step n s=some r:=by obtain⟨n,a⟩:=h';exact⟨n+1,by simp only[jc,h];exact a⟩
theorem FJ{S X R:Type}{step:S->Option (LO S X R)}{s:S}{k:X->Option R}{x:X}(h:ae step s=some (.out x)):Df step s k=k x:=by unfold Df;rw[h];rfl
@[simp] theorem zmv {X R : Type} (x : X) (k : X -> Option R) : zU (some (.out x)) k = k x := rfl
@[simp] theorem zyk {X R : Type} (r : R) (k : X -> Option R) : zU (some (.ret r)) k = some r := rfl
@[simp] theorem zgp {R : Type} (x : Option R) : need true x = x := rfl
@[simp] theorem ztW {α : Type} (x : Option α) (d : α) : zH true x d = x := rfl
@[simp] theorem zsj {α : Type} (x : Option α) (d : α) : zH false x d = some d := rfl
def LX.go{X R:Type}(r:LX X R)(k:X->Option R):Option R:=match r with| .out x=>k x| .ret y=>some y
@[simp] theorem zyh {X R : Type} (x : X) (k : X -> Option R) : (LX.out x : LX X R).go k = k x := rfl
@[simp] theorem go_ret {X R : Type} (y : R) (k : X -> Option R) : (LX.ret y : LX X R).go k = some y := rfl
theorem uI{S X R:Type}{step:S->Option (LO S X R)}{s:S}{k:X->Option R}{r:LX X R}(h:ae step s=some r):Df step s k=r.go k:=by unfold Df;rw[h];cases r<;>rfl
def Cf{α A X R:Type}(g:α->A->Option (LO A X R))(fin:A->Option (LX X R)):List α->A->Option (LX X R)
 |[],a=>fin a
 |v::l,a=>match g v a with
  |none=>none
  |some (.again b)=>Cf g fin l b
  |some (.out x)=>some (.out x)
  |some (.ret r)=>some (.ret r)
theorem uG{α:Type}{l:List α}{i:Nat}(h:i<l.length):geti l (i:Int)=some l[i]:=by
 unfold geti
 grind
theorem GK {α A X R S:Type} {step:S->Option (LO S X R)} (l:List α) (st:Nat->A->S) (g:α->A->Option (LO A X R)) (fin:A->Option (LX X R)) (Inv:Nat->A->Prop)
  (u: ∀(i:Nat) (a:A) (h:i<l.length),Inv i a->step (st i a)=((g l[i] a).map fun
   | .again c=> .again (st (i+1) c)
   | .out x=> .out x
   | .ret r=> .ret r)/\ ∀c,g l[i] a=some (.again c)->Inv (i+1) c)
  (t: ∀a,Inv l.length a->step (st l.length a)=(fin a).map fun
   | .out x=> .out x
   | .ret r=> .ret r) {a:A} {r:LX X R} (v:Inv 0 a) (h:Cf g fin l a=some r):ae step (st 0 a)=some r:=by
 have p: ∀(k:Nat) (i:Nat) (a:A),i+k=l.length->Inv i a->Cf g fin (l.drop i) a=some r-> ∃n,jc step n (st i a)=some r:=by
  intro k
  induction k with
  |zero=>
   intro i a q j b;have q:i=l.length:=by omega
   subst q;rw[List.drop_length]at b;refine⟨1,?_⟩;simp only[jc,t a j];simp only[Cf]at b;rw[b];cases r<;>rfl
  |succ k s=>
   intro i a q j b;have d:i<l.length:=by omega
   rw[Db d]at b;simp only[Cf]at b;obtain⟨f,m⟩:=u i a d j;cases e:g l[i] a with
   |none=>grind
   |some o=>
    rw[e]at b f;cases o with
    |again c=>exact vL f (s (i+1) c (by omega) (m c e) b)
    |out x=>cases b;exact⟨1,by simp only[jc];rw[f];rfl⟩
    |ret y=>cases b;exact⟨1,by simp only[jc];rw[f];rfl⟩
 obtain⟨n,w⟩:=p l.length 0 a (by omega) v (by simpa using h);exact uq w
theorem sI {α A X R S:Type} {step:S->Option (LO S X R)} {k:X->Option R} (l:List α) (st:Nat->A->S) (g:α->A->Option (LO A X R)) (fin:A->Option (LX X R)) (Inv:Nat->A->Prop) {s0:S} {a:A} (h0:s0=st 0 a) (hi:Inv 0 a)
  (hg: ∀(i:Nat) (a:A) (h:i<l.length),Inv i a->step (st i a)=((g l[i] a).map fun
   | .again a'=> .again (st (i+1) a')
   | .out x=> .out x
   | .ret r=> .ret r)/\ ∀a',g l[i] a=some (.again a')->Inv (i+1) a')
  (hf: ∀a,Inv l.length a->step (st l.length a)=(fin a).map fun
   | .out x=> .out x
   | .ret r=> .ret r) {r:LX X R} (h:Cf g fin l a=some r):Df step s0 k=r.go k:=by
 subst h0;have:=GK l st g fin Inv hg hf hi h;unfold Df;rw[this];cases r<;>rfl
theorem lJ{n:Int}(a: -9223372036854775808<=n)(h2:n<=9223372036854775807):IntKind.i64.wrap n=n:=IntWalk.i64_in n ⟨a,h2⟩
theorem jl{n m b:Nat}(h:(n+m)*b<=140737488355328):zI n m b=true:=Td h
end Go.Lv

namespace Go.Proofs
def Cl.cleanS:List UInt8->List UInt8
 |[]=>[]
 |13::10::r=>10::Cl.cleanS r
 |c::r=>bif c==0 then 239::191::189::Cl.cleanS r else bif c==12||c==13 then 10::Cl.cleanS r else c::Cl.cleanS r
end Go.Proofs
namespace Go.Lv
def jk(s:Str):Option (Str×Int):=some (if 4000<s.length then([],28)else(Proofs.Cl.cleanS s,0))
def short(l:Str):Bool:=decide (l.length<4294967281)
def Xi(l:Str):Bool:=l.all fun b=>decide (b.toNat<128)
def Ti(x:Str×Str):Option Int:=need (short x.1) (some (Lib.index x.1 x.2))
def cutF(x:Str×Str):Option (Str×Str×Bool):=need (short x.1) (some (Lib.cut x.1 x.2))
def Vk(x:Str×Str):Option Str:=need (short x.2&&Xi x.2) (some (Lib.trimLeftS x.1 x.2))
def Eh(x:Str×Str):Option Str:=match x.2 with
 |[c]=>need (decide (c.toNat<128)&&short x.1) (some (Lib.trimRightB x.1 c))
 |_=>none
def Lr(x:Str×Str):Option Int:=need (short x.1&&short x.2&&Xi x.1&&Xi x.2) (some (Lib.indexAny x.1 x.2))
def i64B(n:Int):Bool:=decide (-9223372036854775808<=n)&&decide (n<=9223372036854775807)
def Ph(x:Int×Int):Option Str:=need (decide (x.2=10)&&i64B x.1) (some (Lib.itoa x.1))
def il(x:(Int×Int)×Str):Option Str:=need (decide (x.1.2=10)&&decide (0<=x.1.1)&&decide (x.1.1<=9223372036854775807)&&short x.2) (some (x.2++Lib.decDigits x.1.1.toNat))
def hexD(n:Nat):UInt8:=UInt8.ofNat (if n<10 then 48+n else 87+n)
def hexS(n:Nat):Str:=if n<16 then [hexD n]else [hexD (n / 16),hexD (n%16)]
def Dr(x:(Int×Int)×Str):Option Str:=need (decide (x.1.2=16)&&decide (0<=x.1.1)&&decide (x.1.1<256)&&short x.2) (some (x.2++hexS x.1.1.toNat))
open Go.RowKit
def Bl(x:Str×Int):Option Int:=some (Lib.indexByte x.1 x.2.toNat.toUInt8)
section
variable {I:Ip} {P:Program} {ι ι':Asg} {w w':World}
theorem JJ{D:Nat->Prop}{u v:Value}(h:RepP D w (.at u) v):v=u:=by cases h;rfl
theorem iA{D:Nat->Prop}{l:List UInt8}{v:Value}(h:RepP D w (.str l) v):v= .string ⟨l.toArray⟩:=by cases h;rfl
theorem Jj{T:Nat->Prop}(W:Wf ι w)(g:Below w.heap.size w w'):Stp T ι w ι w':=
 ⟨⟨fun b s h=>by rw[Cv (g.block b (Jz h))];exact h,fun b hb=>⟨Ab hb.1 g.size,hb.2⟩,fun b hb=>g.block b hb.1⟩,g.os,g.tape,g.output,g.size,fun _ _ _ _ _ e=>g.block _ (W.lt _ _ _ _ e).1,fun _ _=> .inl rfl,fun _ _ _=>rfl,fun _ _=>rfl,fun _ h=>h,fun b hx=>g.block b (W.xlt b (Oh hx))⟩
theorem Oz(W:Wf ι w)(g:Below w.heap.size w w'):Wf ι w':=
 ⟨fun id b k n e=>let⟨h1,h2⟩:=W.lt id b k n e;⟨Ab h1 g.size,h2⟩,W.inj,W.glob.step (Jj (T:=fun _=>False) W g),fun b hx=>Ab (W.xlt b hx) g.size⟩
theorem Xt(h:w'=w):Below w.heap.size w w':=h▸Below.refl _ _
theorem Stp.trans{T:Nat->Prop}{ι1 ι2:Asg}{w1 w2:World}(h:Stp T ι w ι1 w1)(g:Stp T ι1 w1 ι2 w2):Stp T ι w ι2 w2:=by
 refine⟨⟨fun b s e=>g.shape b s (h.shape b s e),fun b hb=>g.dom b (h.dom b hb),fun b hb=>(g.keep b (h.dom b hb)).trans (h.keep b hb)⟩,g.os.trans h.os,g.tape.trans h.tape,g.output.trans h.output,aa h.size g.size,fun id b k n hT e=>(g.own id b k n hT ((h.fix id hT (by rw[e];simp)).trans e)).trans (h.own id b k n hT e),fun id h0=> ?_,fun id hT h0=> ?_,fun b hx=>(g.xs b (by rw[h.xs b hx];exact hx)).trans (h.xs b hx),fun b e=>h.xn b (g.xn b e),fun b hx=>(g.xkeep b (by rw[h.xs b hx];exact hx)).trans (h.xkeep b hx)⟩
 ·rcases h.slots id h0 with e|e|⟨b,k,n,rows,e1,e2,e3⟩
  ·rcases g.slots id (by rw[e];exact h0)with e'|e'|⟨b,k,n,rows,e1,e2,e3⟩
   ·exact .inl (e'.trans e)
   ·exact .inr (.inl e')
   ·exact .inr (.inr ⟨b,k,n,rows,e▸e1,e2,fun v hv=>e3 v (hv.step h.shape)⟩)
  ·rcases g.slots id (by rw[e];simp)with e'|e'|⟨_,_,_,_,e',_⟩
   ·exact .inr (.inl (e'.trans e))
   ·exact .inr (.inl e')
   ·rw[e]at e';cases e'
  ·rcases g.slots id (by rw[e2];simp)with e'|e'|⟨_,_,_,_,e',_⟩
   ·exact .inr (.inr ⟨b,k,n,rows,e1,e'.trans e2,fun v hv=>(e3 v hv).conv g.toConv⟩)
   ·exact .inr (.inl e')
   ·rw[e2]at e';cases e'
 ·rw[g.fix id hT (by rw[h.fix id hT h0];exact h0),h.fix id hT h0]
theorem Stp.wk{T T':Nat->Prop}(hT: ∀i,T i->T' i)(h:Stp T ι w ι' w'):Stp T' ι w ι' w':={h with own:=fun id b k n hn=>h.own id b k n fun ht=>hn (hT id ht),fix:=fun id hn=>h.fix id fun ht=>hn (hT id ht),xs:=fun b hb=>h.xs b (Ej hT hb),xkeep:=fun b hb=>h.xkeep b (Ej hT hb)}
theorem Done.below{w1:World}(W:Wf ι w)(g:Below w.heap.size w w1){nx:Nat}{res:OR I.C}{v:Value}(h:Done P ι w1 nx res v w'):Done P ι w nx res v w':=let⟨ι',S,r⟩:=h;⟨ι',(Jj W g).trans S,r⟩
theorem Tg {f:FuncId} {fn:Go.Func} {ins outs:List Sh} {F:((⟨ins,[]⟩:StSh).sl I).T->Option ((⟨outs,[]⟩:StSh).sl I).T} (hI:IpOK P I) (hwf:Be (⟨f,⟨ins,[]⟩,[],⟨outs,[]⟩,0,F⟩:Con I)=true) (hf:P.funcs[f]? =some fn) (hn:(fn.name== "runtime.NumGoroutine")=false) (hb:fn.body.isSome=true)
  (h: ∀x y,F x=some y-> ∀ι w vs,Wf ι w->Pd ι w (((⟨ins,[]⟩:StSh).sl I).enc x).1 vs->Calls P f vs w fun e w'=> ∃v,e= .returned v/\Below w.heap.size w w'/\RepL ι w' (resE (((⟨outs,[]⟩:StSh).sl I).enc y).1) v):zf P (⟨f,⟨ins,[]⟩,[],⟨outs,[]⟩,0,F⟩:Con I):=
 ⟨hwf,fun _ _ _=>⟨fn,hf,hn,hb⟩,fun x y hxy ι w vs W hfr _ hv=>(h x y hxy ι w vs W hv).mono fun e w' ⟨v,he,g,hr⟩=>⟨v,ι,he,Jj W g,Oz W g,hr,fun o ho=>(by
  have:(((⟨outs,[]⟩:StSh).sl I).enc y).2=[]:=List.map_eq_nil_iff.1 ((rf (P:=P) hI ⟨outs,[]⟩).1 y);rw[this]at ho;cases ho),fun i _=>hfr i (Yb i)⟩⟩
theorem Rf{l:Str}{ts:List (ET I.C)}{vs:Array Value}{j:Nat}(h:Pd ι w ts vs)(hj:ts[j]? =some (.c (.str l))):vs[j]? =some (.string ⟨l.toArray⟩):=by obtain⟨u,hu,_,hr⟩:=h.2 j _ hj;rw[hu,iA (show RepP _ _ (.str l) u from hr)]
theorem si{k:IntKind}{n:Int}{ts:List (ET I.C)}{vs:Array Value}{j:Nat}(h:Pd ι w ts vs)(hj:ts[j]? =some (.c (.int k n))):vs[j]? =some (.int k n):=by obtain⟨u,hu,_,hr⟩:=h.2 j _ hj;rw[hu,JJ (show RepP _ _ (.at (.int k n)) u from hr)]
theorem YH{vs:Array Value}{a:Value}(hs:vs.size=1)(h0:vs[0]? =some a):vs= #[a]:=by
 apply Array.ext
 ·simp[hs]
 ·intro i hi hi';obtain rfl:i=0:=(by omega);exact(Ka.1 h0).2
theorem ah{vs:Array Value}{a b:Value}(hs:vs.size=2)(h0:vs[0]? =some a)(h1:vs[1]? =some b):vs= #[a,b]:=by
 apply Array.ext
 ·simp[hs]
 ·intro i hi hi';have:i=0\/i=1:=by omega
  rcases this with rfl|rfl
  ·exact(Ka.1 h0).2
  ·exact(Ka.1 h1).2
theorem Bg(l:Str):RepT (I:=I) ι w (.c (.str l)) (.string ⟨l.toArray⟩):=⟨rfl, .str l⟩
theorem PK (hI:IpOK P I) {f:FuncId} {fn:Go.Func} (hf:P.funcs[f]? =some fn) (hn:(fn.name== "runtime.NumGoroutine")=false) (hb:fn.body.isSome=true)
  (h: ∀(s:ByteArray) (c:Int) (w:World),Calls P f #[.string s, .int .u8 c] w fun e w'=>e= .returned (.int .i64 (Lib.indexByte s.data.toList c.toNat.toUInt8))/\w'=w):
  zf P (⟨f,⟨[.str, .int .u8],[]⟩,[],⟨[.int .i64],[]⟩,0,Bl⟩:Con I):=
 Tg hI rfl hf hn hb fun(l,c) y hxy ι w vs W hv=>by cases hxy;obtain rfl:=ah hv.1 (Rf (l:=l) hv rfl) (si (k:= .u8) (n:=c) hv rfl);exact(h ⟨l.toArray⟩ c w).mono fun e w' ⟨he,hw⟩=>⟨_,he,Xt hw,qi _ _⟩
end
inductive All2 {α β:Type} (R:α->β->Prop):List α->List β->Prop where
 |nil:All2 R [] []
 |cons {a:α} {b:β} {l:List α} {m:List β} (h:R a b) (t:All2 R l m):All2 R (a::l) (b::m)
section
end
structure zyL (bk:{H:Type}->DataW H->Nat):Prop where
 one: ∀{H:Type} (d:DataW H),1<=bk d
 str: ∀{H:Type} (l:List UInt8),bk (DataW.lit (H:=H) (.string l))=l.length+1
 slice: ∀{H:Type} (a b:List (DataW H)),(a.map bk).sum+1<=bk (.slice a b)
 agg: ∀{H:Type} (a:List (DataW H)),(a.map bk).sum+1<=bk (.agg a)
structure IpRd (P:Program) (I:Ip) (G:Nat->Prop):Prop where
 int: ∀t k,G t->P.underlying t=some (.int k)-> ∀n,k.min<=n->n<=k.max-> ∃x:I.C t,I.full t x=[.at (.int k n)]
 bool: ∀t,G t->P.underlying t=some .bool-> ∀b,∃x:I.C t,I.full t x=[.at (.bool b)]
 str: ∀t,G t->P.underlying t=some .string-> ∀l,∃x:I.C t,I.full t x=[.str l]
 sl: ∀t e,G t->P.underlying t=some (.slice e)->G e/\0<P.cellsOf e/\ ∀l:List (I.C e),∃x:I.C t,I.full t x=[.sl (l.map (I.full e))]
 st: ∀t fs,G t->P.underlying t=some (.struct fs)->(∀f∈fs.toList,G f.type)/\(∀(i:Nat) f,fs.toList[i]? =some f->f.offset=((fs.toList.take i).map fun f=>P.cellsOf f.type).sum)/\P.cellsOf t=(fs.toList.map fun f=>P.cellsOf f.type).sum/\
  ∀pvs:List (List PV),All2 (fun(f:Field) p=> ∃y:I.C f.type,I.full f.type y=p) fs.toList pvs-> ∃x:I.C t,I.full t x=pvs.flatten
 only: ∀t u,G t->P.underlying t=some u->(∃k,u= .int k)\/u= .bool\/u= .string\/(∃e,u= .slice e)\/(∃fs,u= .struct fs)
theorem All2.len{α β:Type}{R:α->β->Prop}{l:List α}{m:List β}(h:All2 R l m):l.length=m.length:=by
 induction h with
 |nil=>rfl
 |cons _ _ ih=>simp[ih]
theorem All2.at{α β:Type}{R:α->β->Prop}{l:List α}{m:List β}(h:All2 R l m): ∀{i:Nat} {a:α},l[i]? =some a-> ∃b,m[i]? =some b/\R a b:=by
 induction h with
 |nil=>intro i a h;cases h
 |cons h t ih=>
  intro i a hi;cases i with
  |zero=>cases hi;exact⟨_,rfl,h⟩
  |succ i=>exact ih hi
def yg(w:World)(cs:List Value)(pvs:List PV):Prop:=cs.length=pvs.length/\ ∀(j:Nat) v pv,cs[j]? =some v->pvs[j]? =some pv->RepP (fun b=>b<w.heap.size) w pv v/\v.oneCell'=true
theorem yg.one{w:World}{v:Value}{pv:PV}(h:RepP (fun b=>b<w.heap.size) w pv v)(ho:v.oneCell'=true):yg w [v] [pv]:=by
 refine⟨rfl,fun j u q hu hq=> ?_⟩;cases j with
 |zero=>cases hu;cases hq;exact⟨h,ho⟩
 |succ j=>cases hu
theorem yg.append{w:World}{a b:List Value}{p q:List PV}(h:yg w a p)(g:yg w b q):yg w (a++b) (p++q):=by
 refine⟨by simp[h.1,g.1],fun j v pv hv hp=> ?_⟩;by_cases hj:j<a.length
 ·rw[jd hj]at hv;rw[jd (by rw[<-h.1];exact hj)]at hp;exact h.2 j v pv hv hp
 ·rw[List.getElem?_append_right (by omega)]at hv;rw[List.getElem?_append_right (by have:=h.1;omega),<-h.1]at hp;exact g.2 _ v pv hv hp
section
end
open Go.RowKit Go.ChangeShapes Go.WideShapes
section
variable {P:Program} {I:Ip}
def noA:Asg:=⟨fun _=> .free,fun _=> .no⟩
theorem XI{W:World}:Pd (I:=I) noA W [] #[]:=⟨rfl,fun j t h=>by cases h⟩
theorem KJ {con:Con I} (hc:zf P con) {x:(con.inS.sl I).T} {y:(con.outS.sl I).T} (hF:con.F x=some y) {b:Bool} (hy:((con.outS.sl I).enc y).1=[.c (.bool b)]) (hin:((con.inS.sl I).enc x).2=[])
  {W:World} {vs:Array Value} (hg:Glob (Dom noA W) W) (hargs:Pd noA W ((con.inS.sl I).enc x).1 vs):
  Calls P con.f vs W fun e W'=>e= .returned (.bool b)/\Below W.heap.size W W':=by
 refine(hc.ok x y hF noA W vs ⟨fun i b k n e=>(by cases e),fun i j b k k' n n' e=>(by cases e),hg,fun b hb=>absurd rfl hb⟩ (fun _ _=>rfl) (fun o h=>by rw[hin]at h;cases h) hargs).mono fun e W' ⟨v,ι',he,S,_,hr,_,_⟩=> ?_;rw[hy]at hr;have hv:RepP (Dom ι' W') W' (.at (.bool b)) v:=hr.2;cases hv;exact⟨he,S.os,S.tape,S.output,S.size,fun k hk=>S.keep k ⟨hk,rfl,fun id k n e=>by cases e⟩⟩
theorem wI {H:Type} {enc:TypeId×Value->H} {f:Func} {s:ChangeSpec} {apart fresh handsOn again:Bool} {W W':World} {args:Array Value} {ds gs:List (DataW H)} {before pa:List MemPlace} {tb:TypeId}
  (hW:DataW.Whole enc P f.params.toList s.vars apart W args.toList ds gs before) (hvars:s.vars=[]) (hrt:f.resultTypes= #[tb]) (htb:P.underlying tb=some .bool)
  (hres:(s.fn H (ds++gs)).results=[.lit (.bool true)]) (hvs:(s.fn H (ds++gs)).vars=[])
  (hargs: ∀sp:Nat->Bool,(∀p∈before,sp p.block=true)->DataW.TrodAll enc P W' 0 sp true f.params.toList args.toList (s.fn H (ds++gs)).args pa)
  (hps:before=pa) (hb:Below W.heap.size W W'):s.post enc P f apart fresh handsOn again W args (.bool true) W':=by
 have hlt: ∀p∈before,p.block<W.heap.size:=fun p hp=>hW.lt p hp;have hold: ∀p∈before,(fun b=>decide (b<W.heap.size)) p.block=true:=fun p hp=>by simpa using hlt p hp
 have hr: ∀(b:Nat) (sp:Nat->Bool) (hd:Bool),DataW.TrodAll enc P W' b sp hd f.resultTypes.toList ((Value.bool true).resultList f.resultTypes.size) (s.fn H (ds++gs)).results []:=by intro b sp hd;rw[hrt,hres];exact trodAll_cons_mk (shut_bool htb _) trodAll_mk0
 have hv: ∀sp:Nat->Bool,DataW.TrodVars enc P W' sp s.vars (s.fn H (ds++gs)).vars []:=by intro sp;rw[hvars,hvs];exact rfl
 refine⟨ds,gs,before,[],pa,[],hW,hr _ _ _,hargs _ hold,hv _,World.keptBut_mono (fun p hp=>⟨hp, .inr (.inl (by rw[<-hps];exact hp))⟩) (hb.frame (· ∈before)),fun _=> ?_⟩;obtain⟨_,_,_,_,_,hz,hn⟩:=hW;refine⟨ok_one hrt rfl (okWide_bool_mk htb _),_,_,([]++pa)++[],⟨[]++pa,[],trodAll_append (hargs _ (fun _ _=>rfl)) (hr _ _ _),hv _,rfl,?_,?_⟩,?_⟩
 ·intro b off hp;have hin:MemPlace.cell b off∈before:=by rw[hps];simpa using hp
  rw[hb.frozen (hlt _ hin)];exact hz b off hin
 ·intro ha;have:=hn ha;rw[hps]at this;simpa using this
 ·intro p hp _;rw[hps];simpa using hp
end
def Le{α:Type}(a b:Option α):Prop:= ∀y,a=some y->b=some y
theorem Le.rfl{α:Type}{a:Option α}:Le a a:=fun _ h=>h
theorem Le.none{α:Type}{b:Option α}:Le none b:=fun _ h=>by cases h
theorem Le.bind{α g:Type}{a c:Option α}{f d:α->Option g}(h:Le a c)(e: ∀x,Le (f x) (d x)):Le (za a f) (za c d):=by
 intro y b;cases a with
 |none=>cases b
 |some x=>rw[h x _root_.rfl];exact e x y b
theorem Le.bif{α:Type}{c:Bool}{a e b d:Option α}(h:Le a e)(h':Le b d):Le (bif c then a else b) (bif c then e else d):=by
 grind
theorem Le.need{α:Type}{c:Bool}{a b:Option α}(h:Le a b):Le (Lv.need c a) (Lv.need c b):=by
 cases c
 ·exact Le.rfl
 ·exact h
theorem Le.cond{α:Type}{c:Bool}{a b:Option α}{d:α}(h:Le a b):Le (zH c a d) (zH c b d):=by
 cases c
 ·exact Le.rfl
 ·exact h
theorem Le.map{α d:Type}{a c:Option α}{f:α->d}(h:Le a c):Le (Option.map f a) (Option.map f c):=by
 intro y b;cases a with
 |none=>cases b
 |some x=>rw[h x _root_.rfl];exact b
theorem Le.join{X R:Type}{a d:Option (LX X R)}{k c:X->Option R}(h:Le a d)(e: ∀x,Le (k x) (c x)):Le (zU a k) (zU d c):=by
 intro y b;cases a with
 |none=>cases b
 |some x=>
  rw[h x _root_.rfl];cases x with
  |out x=>exact e x y b
  |ret r=>exact b
def uw(n:Nat){S X R:Type}(step:S->Option (LO S X R))(s:S)(k:X->Option R):Option R:=
 match jc step n s with
 |some (.out x)=>k x
 |some (.ret r)=>some r
 |none=>none
theorem ny{S X R:Type}{step a:S->Option (LO S X R)}(h: ∀s,Le (step s) (a s)): ∀(n:Nat) (s:S),Le (jc step n s) (jc a n s)
 |0,_=>Le.none
 |n+1,s=>by
  intro y b;simp only[jc]at b ⊢;cases c:step s with
  |none=>grind
  |some o=>
   rw[c]at b;rw[h s o c];cases o with
   |again d=>exact ny h n d y b
   |out x=>exact b
   |ret r=>exact b
theorem Le.loop{n:Nat}{S X R:Type}{step a:S->Option (LO S X R)}{s:S}{k c:X->Option R}(h: ∀s,Le (step s) (a s))(e: ∀x,Le (k x) (c x)):Le (uw n step s k) (Df a s c):=by
 intro y b;unfold uw at b;cases d:jc step n s with
 |none=>grind
 |some x=>
  rw[d]at b;rw[uI (uq (ny h n s x d))];cases x with
  |out x=>exact e x y b
  |ret r=>exact b
def zR(n:Nat){S X R:Type}(step:S->Option (LO S X R))(s:S)(k:X->Option R):Option R:=
 (jc step n s).bind fun
 | .out x=>k x
 | .ret r=>some r
section
variable {I:Ip} {P:Program}
theorem zf.iter {f:Nat} {inS:StSh} {cst:List Nat} {outS:StSh} {k:Nat} (B:((inS.sl I).T->Option (outS.sl I).T)->(inS.sl I).T->Option (outS.sl I).T)
  (hwf:Be (⟨f,inS,cst,outS,k,fun _=>Option.none⟩:Con I)=true) (hB: ∀S,zf P (⟨f,inS,cst,outS,k,S⟩:Con I)->zf P (⟨f,inS,cst,outS,k,B S⟩:Con I)): ∀n,zf P (⟨f,inS,cst,outS,k,QL B n⟩:Con I)
 |0=>⟨hwf,fun _ _ h=>(by cases h),fun _ _ h=>(by cases h)⟩
 |n+1=>hB _ (zf.iter B hwf hB n)
theorem zf.le{f:Nat}{inS:StSh}{cst:List Nat}{outS:StSh}{k:Nat}{F G:(inS.sl I).T->Option (outS.sl I).T}(h:zf P (⟨f,inS,cst,outS,k,F⟩:Con I))(hl: ∀x,Le (G x) (F x)):zf P (⟨f,inS,cst,outS,k,G⟩:Con I):=
 ⟨h.wf,fun x y e=>h.fn x y (hl x y e),fun x y e=>h.ok x y (hl x y e)⟩
end
variable {I:Ip}
theorem uH{s:Shp I}{r:VL I}{n:Nat}(h: ∀x,(r.enc x).length=n): ∀x,((VL.cons s r).enc x).length=n+1:=by obtain⟨T,u,d,e,m⟩:=s;obtain⟨f,a,c,b,g⟩:=r;cases u<;>cases a<;>intro x<;>exact congrArg (· +1) (h _)
theorem Mx: ∀(l:List Sh) (x:(vlOf I l).T),((vlOf I l).enc x).length=l.length
 |[],_=>rfl
 |s::l,x=>uH (s:=s.shp I) (Mx l) x
theorem mG(s:StSh): ∀x:(s.sl I).T,((s.sl I).enc x).1.length=s.vals.length:=by have h:=Mx (I:=I) s.vals;unfold StSh.sl;revert h;generalize vlOf I s.vals=v;generalize olOf I s.objs=o;obtain⟨T,u,d,e,m⟩:=v;obtain⟨f,a,c,b,g⟩:=o;cases u<;>cases a<;>intro h x<;>exact h _
theorem zw{Q:Con I->Prop}: ∀c∈([]:List (Con I)),Q c:=fun c h=>by cases h
theorem memC{Q:Con I->Prop}{a:Con I}{l:List (Con I)}(h:Q a)(g: ∀c∈l,Q c): ∀c∈a::l,Q c:=fun c b=>by
 grind
def chk(con:Con I)(A:Env0 I)(f:Go.Func):Bool:=Be con&&(f.body.isSome&&(!(f.name== "runtime.NumGoroutine")&&(A.p==con.inS.objs.length&&Nat.ble con.inS.vals.length f.ntmps)))
theorem okC0 {P:Program} {T:TT} {b:List (Nat×List Kd)} (a:P.follows .mixedOrders=true) (g:IpOK P I) (n:TOK P T b) {con:Con I} {f:Go.Func} {A:Env0 I} {exS:StSh} {c:Code} {rs:List ResultVar} (q:c=match f.body with|some c=>c|none=> .skip) (i:rs=f.results.toList)
  (e: ∀c∈A.S,zf P c) (l:P.funcs[con.f]? =some f) (h:chk con A f=true) (m: ∀x,evF2 A T b f.ntmps rs c con exS x=con.F x):zf P con:=by
 unfold chk at h;simp only[Ca]at h;obtain⟨d,o,k,j,p⟩:=h;refine FO (exS:=exS) a g e d n l ?_ ?_ (by simpa using k) (beq_iff_eq.1 j) (fun x=>by rw[mG];simp_all) (fun x y h=>(m x).trans h)
 ·grind
 ·rw[i]
section
variable {P:Program} {I:Ip}
theorem OA (hI:IpOK P I) {f t:Nat} {vals:List Sh} {F:((⟨vals,[]⟩:StSh).sl I).T->Option (List (I.C t))} (hwf:Be (⟨f,⟨vals,[]⟩,[],⟨[.sl t],[]⟩,0,F⟩:Con I)=true)
  (h:zf P (⟨f,⟨vals,[]⟩,[],⟨[.own 0],[(0, .sl t)]⟩,1,F⟩:Con I)):zf P (⟨f,⟨vals,[]⟩,[],⟨[.sl t],[]⟩,0,F⟩:Con I):=
 ⟨hwf,h.fn,fun x y hxy ι w vs W hfr hobj hv=>(h.ok x y hxy ι w vs W hfr hobj hv).mono fun e w' ⟨v,ι',he,S,W',hr,ho,_⟩=>by
  obtain⟨ys,hys⟩: ∃ys:List (I.C t),ys=y:=⟨y,rfl⟩;replace hr:RepT (I:=I) ι' w' (.c (.own 0)) v:=by subst hys;exact hr
  replace ho:ZF P ι' w' 0 (.sl t ys):=by subst hys;exact ho _ (Ta ..)
  obtain⟨b,e1,hb⟩:=(zP rfl).1 ho;have dom: ∀b,Dom ι' w' b->Dom ⟨fun _=> .free,ι'.X⟩ w' b:=fun b hb=>⟨hb.1,hb.2.1,fun i k n e=>by cases e⟩;refine⟨v,⟨fun _=> .free,ι'.X⟩,he,⟨⟨S.shape,fun b hb=>dom b (S.dom b hb),S.keep⟩,S.os,S.tape,S.output,S.size,fun i b k n _ e=>(by rw[hfr i (Yb i)]at e;cases e),fun i h0=>absurd (hfr i (Yb i)) h0,fun i _ h0=>absurd (hfr i (Yb i)) h0,S.xs,S.xn,S.xkeep⟩,
   ⟨fun i b k n e=>(by cases e),fun i j b k k' n n' e=>(by cases e),fun q hq=>let⟨h1,h2⟩:=W'.glob q hq;⟨dom _ h1,h2⟩,W'.xlt⟩,?_,fun o ho=> ?_,fun i _=>rfl⟩
  ·obtain⟨h1,h2⟩:=hr;have h2:SlS ι' w' (ι' 0) none v:=h2;rw[e1]at h2;subst hys;exact⟨h1,Dl hI dom hb (fun b' e=>by
    subst e;obtain⟨q1,q2⟩:=W'.lt _ _ _ _ e1;exact⟨q1,q2,fun i k n e=>by cases e⟩) rfl (by simp[zJ]) h2⟩
  ·cases ho⟩
end
end Go.Lv
