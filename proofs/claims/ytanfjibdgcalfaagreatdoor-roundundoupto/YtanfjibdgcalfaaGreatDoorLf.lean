/- The primitives of the plain texts of functions, and their laws. -/
import Derived.Test.YtanfjibdgcalfaaGreatDoorLa
import Derived.IntWalk
import Derived.Lib.Index
import Derived.Lib.IndexMore
import Derived.Lib.IndexAny
import Derived.Lib.SlTrimSet
import Derived.Lib.TrimByte
import Derived.Lib.ItoaNum
import Derived.Test.YtanfjibdgcalfaaGreatDoorLe
import Derived.Below
import Derived.Lib.Strings
import Derived.Lib.Bytealg
import GoSem.ClaimChange
import Derived.ChangeSame
import Derived.Carry
import Derived.ProofKit
import Derived.OpenShut
set_option linter.unusedSimpArgs false
set_option linter.unusedVariables false
namespace Go.Lv
abbrev Str:=List UInt8
abbrev w8(n:Int):Int:=IntKind.i8.wrap n
abbrev w32(n:Int):Int:=IntKind.i32.wrap n
abbrev w64(n:Int):Int:=IntKind.i64.wrap n
abbrev wu8(n:Int):Int:=IntKind.u8.wrap n
abbrev wu32(n:Int):Int:=IntKind.u32.wrap n
abbrev wu64(n:Int):Int:=IntKind.u64.wrap n
def Nh(k:IntKind)(x y:Int):Int:=k.wrap (BitVec.ofInt k.bits x &&& BitVec.ofInt k.bits y).toNat
def ibOr(k:IntKind)(x y:Int):Int:=k.wrap (BitVec.ofInt k.bits x ||| BitVec.ofInt k.bits y).toNat
def NS(k:IntKind)(x y:Int):Int:=k.wrap (x*2 ^ (min y.toNat k.bits))
def Mh(k:IntKind)(x y:Int):Int:=x.fdiv (2 ^ (min y.toNat k.bits))
def qE(n:Int):Option UInt8:=cond (decide (0<=n)&&decide (n<=255)) (some (UInt8.ofNat n.toNat)) none
theorem zHN{n:Int}{b:UInt8}(h:qE n=some b):n=((b.toNat:Nat):Int):=by
 unfold qE at h;cases a:(decide (0<=n)&&decide (n<=255))with
 |false=>grind
 |true=> rw[a]at h;simp only[Fa,Cb]at a;injection h with h;subst h;rw[UInt8.toNat_ofNat'];omega
@[simp] theorem zKk (b : UInt8) : qE ((b.toNat : Nat) : Int) = some b := by
 unfold qE;have:=Ce b;have h:(decide ((0:Int)<=((b.toNat:Nat):Int))&&decide (((b.toNat:Nat):Int)<=255))=true:=by simp only[Fa,Cb];omega
 rw[h];simp
abbrev za{α a:Type}(x:Option α)(f:α->Option a):Option a:=x.bind f
noncomputable def Zc{S X R:Type}(step:S->Option (LO S X R))(s:S)(k:X->Option R):Option R:=
 (xg step s).bind fun
 | .out x=>k x
 | .ret r=>some r
def zO{X R:Type}(m:Option (LX X R))(k:X->Option R):Option R:=
 m.bind fun
 | .out x=>k x
 | .ret r=>some r
def Ue{X Y:Type}(B:(X->Option Y)->X->Option Y):Nat->X->Option Y
 |0,_=>none
 |n+1,x=>B (Ue B n) x
open Classical in
noncomputable def recE{X Y:Type}(B:(X->Option Y)->X->Option Y)(x:X):Option Y:=
 if h: ∃y,∃N,∀n,N<=n->Ue B n x=some y then some h.choose else none
theorem WK{X Y:Type}{B:(X->Option Y)->X->Option Y}{x:X}{y:Y}{N:Nat}(h: ∀n,N<=n->Ue B n x=some y):recE B x=some y:=by
 have a: ∃y,∃N,∀n,N<=n->Ue B n x=some y:=⟨y,N,h⟩;unfold recE;rw[dif_pos a];obtain⟨M,b⟩:=a.choose_spec;have c:=b (max N M) (Nat.le_max_right ..)
 grind
theorem ZH {X Y:Type} {B:(X->Option Y)->X->Option Y} (a:X->Nat) (ok:X->Prop) (f:X->Y)
  (j: ∀(S:X->Option Y) (x:X),ok x->(∀z,ok z->a z<a x->S z=some (f z))->B S x=some (f x)) {x:X} (g:ok x):recE B x=some (f x):=by
 have b: ∀(m:Nat) (n:Nat) (x:X),a x<m->m<=n->ok x->Ue B n x=some (f x):=by
  intro m
  induction m with
  |zero=>grind
  |succ m e=>
   intro n x k d c;cases n with
   |zero=>omega
   |succ n=>exact j _ x c fun z i h=>e n z (by omega) (by omega) i
 exact WK (N:=a x+1) fun n d=>b (a x+1) n x (by omega) d g
theorem zJt{X Y:Type}{B:(X->Option Y)->X->Option Y}{x:X}{y:Y}(h:recE B x=some y): ∃n,Ue B n x=some y:=by
 unfold recE at h;split at h
 ·rename_i a;injection h with h;obtain⟨N,b⟩:=a.choose_spec;exact⟨N,by grind⟩
 ·cases h
theorem jF{S X R:Type}{step:S->Option (LO S X R)}: ∀{n m:Nat} {s:S} {x:LX X R},qz step n s=some x->n<=m->qz step m s=some x
 |0,_,_,_,h,_=>by cases h
 |n+1,0,_,_,_,a=>by omega
 |n+1,m+1,s,x,h,a=>by
  simp only[qz]at h ⊢;split at h
  ·cases h
  ·exact jF h (by omega)
  ·exact h
  ·exact h
theorem Jh{S X R:Type}{step:S->Option (LO S X R)}{s:S}{x:LX X R}{n:Nat}(h:qz step n s=some x):xg step s=some x:=by
 have a: ∃n x,qz step n s=some x:=⟨n,x,h⟩;unfold xg;rw[dif_pos a];have b:=a.choose_spec.choose_spec;have c:=jF h (Nat.le_max_left n a.choose);have d:=jF b (Nat.le_max_right n a.choose)
 grind
theorem RF {S X R:Type} {step:S->Option (LO S X R)} (Inv:S->Prop) (a:S->Nat) (r:LX X R)
  (h: ∀s,Inv s->(∃s',step s=some (.again s')/\Inv s'/\a s'<a s)\/(∃x,step s=some (.out x)/\r= .out x)\/(∃y,step s=some (.ret y)/\r= .ret y)) {s:S} (c:Inv s):xg step s=some r:=by
 have b: ∀(m:Nat) (s:S),a s<m->Inv s->qz step m s=some r:=by
  intro m
  induction m with
  |zero=>intro s h;omega
  |succ m d=>
   intro s e c;simp only[qz]
   grind
 exact Jh (b (a s+1) s (by omega) c)
theorem zFb{S X R:Type}{step:S->Option (LO S X R)}{s s':S}{r:LX X R}(h:step s=some (.again s'))(h': ∃n,qz step n s'=some r): ∃n,qz step n s=some r:=by obtain⟨n,a⟩:=h';exact⟨n+1,by simp only[qz,h];exact a⟩
theorem fV{S X R:Type}{step:S->Option (LO S X R)}{s:S}{k:X->Option R}{x:X}(h:xg step s=some (.out x)):Zc step s k=k x:=by unfold Zc;rw[h];rfl
@[simp] theorem zZ {X R : Type} (x : X) (k : X -> Option R) : zO (some (.out x)) k = k x := rfl
@[simp] theorem zIJ {X R : Type} (r : R) (k : X -> Option R) : zO (some (.ret r)) k = some r := rfl
@[simp] theorem ZU {R : Type} (x : Option R) : need true x = x := rfl
@[simp] theorem Zt {α : Type} (x : Option α) (d : α) : zA true x d = x := rfl
@[simp] theorem qF {α : Type} (x : Option α) (d : α) : zA false x d = some d := rfl
theorem XE{R:Type}{b:Bool}(h:b=true)(x:Option R):need b x=x:=by rw[h];rfl
def LX.go{X R:Type}(r:LX X R)(k:X->Option R):Option R:=match r with| .out x=>k x| .ret y=>some y
@[simp] theorem zIp {X R : Type} (x : X) (k : X -> Option R) : (LX.out x : LX X R).go k = k x := rfl
@[simp] theorem go_ret {X R : Type} (y : R) (k : X -> Option R) : (LX.ret y : LX X R).go k = some y := rfl
theorem Wh{S X R:Type}{step:S->Option (LO S X R)}{s:S}{k:X->Option R}{r:LX X R}(h:xg step s=some r):Zc step s k=r.go k:=by unfold Zc;rw[h];cases r<;>rfl
def Ng{α A X R:Type}(g:α->A->Option (LO A X R))(fin:A->Option (LX X R)):List α->A->Option (LX X R)
 |[],a=>fin a
 |v::l,a=>match g v a with
  |none=>none
  |some (.again b)=>Ng g fin l b
  |some (.out x)=>some (.out x)
  |some (.ret r)=>some (.ret r)
theorem zS{α:Type}{l:List α}{i:Nat}(h:i<l.length):geti l (i:Int)=some l[i]:=by
 unfold geti
 grind
theorem zHb {α A X R S:Type} {step:S->Option (LO S X R)} (l:List α) (st:Nat->A->S) (g:α->A->Option (LO A X R)) (fin:A->Option (LX X R)) (Inv:Nat->A->Prop)
  (u: ∀(i:Nat) (a:A) (h:i<l.length),Inv i a->step (st i a)=((g l[i] a).map fun
   | .again c=> .again (st (i+1) c)
   | .out x=> .out x
   | .ret r=> .ret r)/\ ∀c,g l[i] a=some (.again c)->Inv (i+1) c)
  (t: ∀a,Inv l.length a->step (st l.length a)=(fin a).map fun
   | .out x=> .out x
   | .ret r=> .ret r) {a:A} {r:LX X R} (v:Inv 0 a) (h:Ng g fin l a=some r):xg step (st 0 a)=some r:=by
 have p: ∀(k:Nat) (i:Nat) (a:A),i+k=l.length->Inv i a->Ng g fin (l.drop i) a=some r-> ∃n,qz step n (st i a)=some r:=by
  intro k
  induction k with
  |zero=>
   intro i a q j b;have q:i=l.length:=by omega
   subst q;rw[List.drop_length]at b;refine⟨1,?_⟩;simp only[qz,t a j];simp only[Ng]at b;rw[b];cases r<;>rfl
  |succ k s=>
   intro i a q j b;have d:i<l.length:=by omega
   rw[Xa d]at b;simp only[Ng]at b;obtain⟨f,m⟩:=u i a d j;cases e:g l[i] a with
   |none=>grind
   |some o=>
    rw[e]at b f;cases o with
    |again c=>exact zFb f (s (i+1) c (by omega) (m c e) b)
    |out x=>cases b;exact⟨1,by simp only[qz];rw[f];rfl⟩
    |ret y=>cases b;exact⟨1,by simp only[qz];rw[f];rfl⟩
 obtain⟨n,w⟩:=p l.length 0 a (by omega) v (by simpa using h);exact Jh w
theorem Dp {α A X R S:Type} {step:S->Option (LO S X R)} {k:X->Option R} (l:List α) (st:Nat->A->S) (g:α->A->Option (LO A X R)) (fin:A->Option (LX X R)) (Inv:Nat->A->Prop) {s0:S} {a:A} (h0:s0=st 0 a) (hi:Inv 0 a)
  (hg: ∀(i:Nat) (a:A) (h:i<l.length),Inv i a->step (st i a)=((g l[i] a).map fun
   | .again a'=> .again (st (i+1) a')
   | .out x=> .out x
   | .ret r=> .ret r)/\ ∀a',g l[i] a=some (.again a')->Inv (i+1) a')
  (hf: ∀a,Inv l.length a->step (st l.length a)=(fin a).map fun
   | .out x=> .out x
   | .ret r=> .ret r) {r:LX X R} (h:Ng g fin l a=some r):Zc step s0 k=r.go k:=by
 subst h0;have:=zHb l st g fin Inv hg hf hi h;unfold Zc;rw[this];cases r<;>rfl
theorem Tx {α A X R S:Type} {step:S->Option (LO S X R)} {k:X->Option R} (l:List α) (st:Nat->A->S) (g:α->A->Option (LO A X R)) (fin:A->Option (LX X R)) {s0:S} {a:A} (b:s0=st 0 a)
  (e: ∀(i:Nat) (a:A) (h:i<l.length),step (st i a)=(g l[i] a).map fun
   | .again d=> .again (st (i+1) d)
   | .out x=> .out x
   | .ret r=> .ret r)
  (c: ∀a,step (st l.length a)=(fin a).map fun
   | .out x=> .out x
   | .ret r=> .ret r) {r:LX X R} (h:Ng g fin l a=some r):Zc step s0 k=r.go k:=
 Dp l st g fin (fun _ _=>True) b trivial (fun i a h _=>⟨e i a h,fun _ _=>trivial⟩) (fun a _=>c a) h
theorem ik{α A X R:Type}{g:α->A->Option (LO A X R)}{fin:A->Option (LX X R)}(f:A->α->A)(b: ∀v a,g v a=some (.again (f a v))): ∀(l:List α) (a:A),Ng g fin l a=fin (l.foldl f a)
 |[],a=>rfl
 |v::l,a=>by simp only[Ng,b,Je];exact ik f b l _
theorem Z6{n:Int}(a: -9223372036854775808<=n)(h2:n<=9223372036854775807):IntKind.i64.wrap n=n:=IntWalk.i64_in n ⟨a,h2⟩
theorem Nj{n m b:Nat}(h:(n+m)*b<=140737488355328):Zb n m b=true:=Ha h
end Go.Lv

namespace Go.Proofs
def Cl.cleanS:List UInt8->List UInt8
 |[]=>[]
 |13::10::r=>10::Cl.cleanS r
 |c::r=>bif c==0 then 239::191::189::Cl.cleanS r else bif c==12||c==13 then 10::Cl.cleanS r else c::Cl.cleanS r
end Go.Proofs
namespace Go.Lv
def vD(s:Str):Option (Str×Int):=some (if 4000<s.length then([],28)else(Proofs.Cl.cleanS s,0))
def short(l:Str):Bool:=decide (l.length<4294967281)
def Rw(l:Str):Bool:=l.all fun b=>decide (b.toNat<128)
def Dn(x:Str×Str):Option Int:=need (short x.1) (some (Lib.index x.1 x.2))
def cutF(x:Str×Str):Option (Str×Str×Bool):=need (short x.1) (some (Lib.cut x.1 x.2))
def mD(x:Str×Str):Option Str:=need (short x.2&&Rw x.2) (some (Lib.trimLeftS x.1 x.2))
def Xn(x:Str×Str):Option Str:=match x.2 with
 |[c]=>need (decide (c.toNat<128)&&short x.1) (some (Lib.trimRightB x.1 c))
 |_=>none
def UF(x:Str×Str):Option Int:=need (short x.1&&short x.2&&Rw x.1&&Rw x.2) (some (Lib.indexAny x.1 x.2))
def i64B(n:Int):Bool:=decide (-9223372036854775808<=n)&&decide (n<=9223372036854775807)
def Ko(x:Int×Int):Option Str:=need (decide (x.2=10)&&i64B x.1) (some (Lib.itoa x.1))
def yw(x:(Int×Int)×Str):Option Str:=need (decide (x.1.2=10)&&decide (0<=x.1.1)&&decide (x.1.1<=9223372036854775807)&&short x.2) (some (x.2++Lib.decDigits x.1.1.toNat))
def hexD(n:Nat):UInt8:=UInt8.ofNat (if n<10 then 48+n else 87+n)
def hexS(n:Nat):Str:=if n<16 then [hexD n]else [hexD (n / 16),hexD (n%16)]
def nE(x:(Int×Int)×Str):Option Str:=need (decide (x.1.2=16)&&decide (0<=x.1.1)&&decide (x.1.1<256)&&short x.2) (some (x.2++hexS x.1.1.toNat))
open Go.RowKit
def fE(x:Str×Int):Option Int:=some (Lib.indexByte x.1 x.2.toNat.toUInt8)
section
variable {I:Ip} {P:Program} {ι ι':Asg} {w w':World}
theorem zIP{D:Nat->Prop}{u v:Value}(h:RepP D w (.at u) v):v=u:=by cases h;rfl
theorem jL{D:Nat->Prop}{l:List UInt8}{v:Value}(h:RepP D w (.str l) v):v= .string ⟨l.toArray⟩:=by cases h;rfl
theorem Ot{T:Nat->Prop}(W:Wf ι w)(g:Below w.heap.size w w'):Stp T ι w ι w':=
 ⟨⟨fun b s h=>by rw[LH (g.block b (fU h))];exact h,fun b hb=>⟨ib hb.1 g.size,hb.2⟩,fun b hb=>g.block b hb.1⟩,g.os,g.tape,g.output,g.size,fun _ _ _ _ _ e=>g.block _ (W.lt _ _ _ _ e).1,fun _ _=> .inl rfl,fun _ _ _=>rfl,fun _ _=>rfl,fun _ h=>h,fun b hx=>g.block b (W.xlt b (Jo hx))⟩
theorem KV(W:Wf ι w)(g:Below w.heap.size w w'):Wf ι w':=
 ⟨fun id b k n e=>let⟨h1,h2⟩:=W.lt id b k n e;⟨ib h1 g.size,h2⟩,W.inj,W.glob.step (Ot (T:=fun _=>False) W g),fun b hx=>ib (W.xlt b hx) g.size⟩
theorem GG(h:w'=w):Below w.heap.size w w':=h▸Below.refl _ _
theorem Stp.trans{T:Nat->Prop}{ι1 ι2:Asg}{w1 w2:World}(h:Stp T ι w ι1 w1)(g:Stp T ι1 w1 ι2 w2):Stp T ι w ι2 w2:=by
 refine⟨⟨fun b s e=>g.shape b s (h.shape b s e),fun b hb=>g.dom b (h.dom b hb),fun b hb=>(g.keep b (h.dom b hb)).trans (h.keep b hb)⟩,g.os.trans h.os,g.tape.trans h.tape,g.output.trans h.output,Kb h.size g.size,fun id b k n hT e=>(g.own id b k n hT ((h.fix id hT (by rw[e];simp)).trans e)).trans (h.own id b k n hT e),fun id h0=> ?_,fun id hT h0=> ?_,fun b hx=>(g.xs b (by rw[h.xs b hx];exact hx)).trans (h.xs b hx),fun b e=>h.xn b (g.xn b e),fun b hx=>(g.xkeep b (by rw[h.xs b hx];exact hx)).trans (h.xkeep b hx)⟩
 ·rcases h.slots id h0 with e|e|⟨b,k,n,rows,e1,e2,e3⟩
  ·rcases g.slots id (by rw[e];exact h0)with e'|e'|⟨b,k,n,rows,e1,e2,e3⟩
   ·exact .inl (e'.trans e)
   ·exact .inr (.inl e')
   ·exact .inr (.inr ⟨b,k,n,rows,e▸e1,e2,fun v hv=>e3 v (hv.step h.shape)⟩)
  ·rcases g.slots id (by rw[e];simp)with e'|e'|⟨_,_,_,_,e',_⟩
   ·exact .inr (.inl (e'.trans e))
   ·exact .inr (.inl e')
   ·rw[e]at e';cases e'
  ·rcases g.slots id (by rw[e2];simp)with e'|e'|⟨_,_,_,_,e',_⟩
   ·exact .inr (.inr ⟨b,k,n,rows,e1,e'.trans e2,fun v hv=>(e3 v hv).conv g.toConv⟩)
   ·exact .inr (.inl e')
   ·rw[e2]at e';cases e'
 ·rw[g.fix id hT (by rw[h.fix id hT h0];exact h0),h.fix id hT h0]
theorem Stp.wk{T T':Nat->Prop}(hT: ∀i,T i->T' i)(h:Stp T ι w ι' w'):Stp T' ι w ι' w':={h with own:=fun id b k n hn=>h.own id b k n fun ht=>hn (hT id ht),fix:=fun id hn=>h.fix id fun ht=>hn (hT id ht),xs:=fun b hb=>h.xs b (Pt hT hb),xkeep:=fun b hb=>h.xkeep b (Pt hT hb)}
theorem Done.below{w1:World}(W:Wf ι w)(g:Below w.heap.size w w1){nx:Nat}{res:OR I.C}{v:Value}(h:Done P ι w1 nx res v w'):Done P ι w nx res v w':=let⟨ι',S,r⟩:=h;⟨ι',(Ot W g).trans S,r⟩
theorem Am {f:FuncId} {fn:Go.Func} {ins outs:List Sh} {F:((⟨ins,[]⟩:StSh).sl I).T->Option ((⟨outs,[]⟩:StSh).sl I).T} (hI:IpOK P I) (hwf:Bg (⟨f,⟨ins,[]⟩,[],⟨outs,[]⟩,0,F⟩:Con I)=true) (hf:P.funcs[f]? =some fn) (hn:(fn.name== "runtime.NumGoroutine")=false) (hb:fn.body.isSome=true)
  (h: ∀x y,F x=some y-> ∀ι w vs,Wf ι w->Vf ι w (((⟨ins,[]⟩:StSh).sl I).enc x).1 vs->Calls P f vs w fun e w'=> ∃v,e= .returned v/\Below w.heap.size w w'/\RepL ι w' (resE (((⟨outs,[]⟩:StSh).sl I).enc y).1) v):zf P (⟨f,⟨ins,[]⟩,[],⟨outs,[]⟩,0,F⟩:Con I):=
 ⟨hwf,fun _ _ _=>⟨fn,hf,hn,hb⟩,fun x y hxy ι w vs W hfr _ hv=>(h x y hxy ι w vs W hv).mono fun e w' ⟨v,he,g,hr⟩=>⟨v,ι,he,Ot W g,KV W g,hr,fun o ho=>(by
  have:(((⟨outs,[]⟩:StSh).sl I).enc y).2=[]:=List.map_eq_nil_iff.1 ((Pk (P:=P) hI ⟨outs,[]⟩).1 y);rw[this]at ho;cases ho),fun i _=>hfr i (Rb i)⟩⟩
theorem Gj{l:Str}{ts:List (ET I.C)}{vs:Array Value}{j:Nat}(h:Vf ι w ts vs)(hj:ts[j]? =some (.c (.str l))):vs[j]? =some (.string ⟨l.toArray⟩):=by obtain⟨u,hu,_,hr⟩:=h.2 j _ hj;rw[hu,jL (show RepP _ _ (.str l) u from hr)]
theorem Ns{k:IntKind}{n:Int}{ts:List (ET I.C)}{vs:Array Value}{j:Nat}(h:Vf ι w ts vs)(hj:ts[j]? =some (.c (.int k n))):vs[j]? =some (.int k n):=by obtain⟨u,hu,_,hr⟩:=h.2 j _ hj;rw[hu,zIP (show RepP _ _ (.at (.int k n)) u from hr)]
theorem zM4{vs:Array Value}{a:Value}(hs:vs.size=1)(h0:vs[0]? =some a):vs= #[a]:=by
 apply Array.ext
 ·simp[hs]
 ·intro i hi hi';obtain rfl:i=0:=(by omega);exact(Ya.1 h0).2
theorem wo{vs:Array Value}{a b:Value}(hs:vs.size=2)(h0:vs[0]? =some a)(h1:vs[1]? =some b):vs= #[a,b]:=by
 apply Array.ext
 ·simp[hs]
 ·intro i hi hi';have:i=0\/i=1:=by omega
  rcases this with rfl|rfl
  ·exact(Ya.1 h0).2
  ·exact(Ya.1 h1).2
theorem Rk(l:Str):RepT (I:=I) ι w (.c (.str l)) (.string ⟨l.toArray⟩):=⟨rfl, .str l⟩
theorem zH2 (hI:IpOK P I) {f:FuncId} {fn:Go.Func} (hf:P.funcs[f]? =some fn) (hn:(fn.name== "runtime.NumGoroutine")=false) (hb:fn.body.isSome=true)
  (h: ∀(s:ByteArray) (c:Int) (w:World),Calls P f #[.string s, .int .u8 c] w fun e w'=>e= .returned (.int .i64 (Lib.indexByte s.data.toList c.toNat.toUInt8))/\w'=w):
  zf P (⟨f,⟨[.str, .int .u8],[]⟩,[],⟨[.int .i64],[]⟩,0,fE⟩:Con I):=
 Am hI rfl hf hn hb fun(l,c) y hxy ι w vs W hv=>by cases hxy;obtain rfl:=wo hv.1 (Gj (l:=l) hv rfl) (Ns (k:= .u8) (n:=c) hv rfl);exact(h ⟨l.toArray⟩ c w).mono fun e w' ⟨he,hw⟩=>⟨_,he,GG hw,QT _ _⟩
end
inductive All2 {α β:Type} (R:α->β->Prop):List α->List β->Prop where
 |nil:All2 R [] []
 |cons {a:α} {b:β} {l:List α} {m:List β} (h:R a b) (t:All2 R l m):All2 R (a::l) (b::m)
section
variable {I:Ip} {P:Program}
theorem zII{X Y:Type}(B:(X->Option Y)->X->Option Y)(n:Nat):Ue B n=Nat.rec (motive:=fun _=>X->Option Y) (fun _=>Option.none) (fun _ S=>B S) n:=by
 induction n with
 |zero=>rfl
 |succ n ih=>funext x;show B (Ue B n) x=B _ x;rw[ih]
theorem zf.recE {f:Nat} {inS:StSh} {cst:List Nat} {outS:StSh} {k:Nat} (B:((inS.sl I).T->Option (outS.sl I).T)->(inS.sl I).T->Option (outS.sl I).T)
  (hwf:Bg (⟨f,inS,cst,outS,k,fun _=>Option.none⟩:Con I)=true) (hB: ∀S,zf P (⟨f,inS,cst,outS,k,S⟩:Con I)->zf P (⟨f,inS,cst,outS,k,B S⟩:Con I)):zf P (⟨f,inS,cst,outS,k,Lv.recE B⟩:Con I):=
 zf.recf B hwf hB fun x y h=>by obtain⟨n,hn⟩:=zJt h;exact⟨n,by rw[<-zII];exact hn⟩
end
mutual
/-- How many values and letters there are. -/
def bPV:PV->Nat
 | .at _=>1
 | .str l=>l.length+1
 | .sl rows=>ai rows+1
 | .ptr cells=>zI cells+1
def ai:List (List PV)->Nat
 |[]=>0
 |r::rs=>zI r+ai rs
def zI:List PV->Nat
 |[]=>0
 |c::cs=>bPV c+zI cs
end
mutual
/-- Integers are in their kind's range. -/
def okPV:PV->Prop
 | .at (.int k n)=>k.min<=n/\n<=k.max
 | .at _=>True
 | .str _=>True
 | .sl rows=>kJ rows
 | .ptr cells=>Yg cells
def kJ:List (List PV)->Prop
 |[]=>True
 |r::rs=>Yg r/\kJ rs
def Yg:List PV->Prop
 |[]=>True
 |c::cs=>okPV c/\Yg cs
end
theorem AO: ∀(a b:List PV),zI (a++b)=zI a+zI b
 |[],b=>by simp[zI]
 |x::a,b=>by simp only[Gd,zI,AO a b];omega
theorem vO: ∀(a b:List PV),Yg (a++b)↔Yg a/\Yg b
 |[],b=>by simp[Yg]
 |x::a,b=>by simp only[Gd,Yg,vO a b,and_assoc]
structure zLB (bk:{H:Type}->DataW H->Nat):Prop where
 one: ∀{H:Type} (d:DataW H),1<=bk d
 str: ∀{H:Type} (l:List UInt8),bk (DataW.lit (H:=H) (.string l))=l.length+1
 slice: ∀{H:Type} (a b:List (DataW H)),(a.map bk).sum+1<=bk (.slice a b)
 agg: ∀{H:Type} (a:List (DataW H)),(a.map bk).sum+1<=bk (.agg a)
structure IpRd (P:Program) (I:Ip) (G:Nat->Prop):Prop where
 int: ∀t k,G t->P.underlying t=some (.int k)-> ∀n,k.min<=n->n<=k.max-> ∃x:I.C t,I.full t x=[.at (.int k n)]
 bool: ∀t,G t->P.underlying t=some .bool-> ∀b,∃x:I.C t,I.full t x=[.at (.bool b)]
 str: ∀t,G t->P.underlying t=some .string-> ∀l,∃x:I.C t,I.full t x=[.str l]
 sl: ∀t e,G t->P.underlying t=some (.slice e)->G e/\0<P.cellsOf e/\ ∀l:List (I.C e),∃x:I.C t,I.full t x=[.sl (l.map (I.full e))]
 st: ∀t fs,G t->P.underlying t=some (.struct fs)->(∀f∈fs.toList,G f.type)/\(∀(i:Nat) f,fs.toList[i]? =some f->f.offset=((fs.toList.take i).map fun f=>P.cellsOf f.type).sum)/\P.cellsOf t=(fs.toList.map fun f=>P.cellsOf f.type).sum/\
  ∀pvs:List (List PV),All2 (fun(f:Field) p=> ∃y:I.C f.type,I.full f.type y=p) fs.toList pvs-> ∃x:I.C t,I.full t x=pvs.flatten
 only: ∀t u,G t->P.underlying t=some u->(∃k,u= .int k)\/u= .bool\/u= .string\/(∃e,u= .slice e)\/(∃fs,u= .struct fs)
def offs(P:Program):Nat->List (Nat×Nat)->Bool
 |_,[]=>true
 |off,(t,o)::r=>Nat.beq o off&&offs P (off+P.cellsOf t) r
def Nf(P:Program)(t:Nat):List (Nat×Nat):=match P.underlying t with
 |some (.struct fs)=>fs.toList.map fun f=>(f.type,f.offset)
 |_=>[]
theorem aT{P:Program}: ∀{l:List (Nat×Nat)} {off:Nat},offs P off l=true-> ∀(i:Nat) p,l[i]? =some p->p.2=off+((l.take i).map fun p=>P.cellsOf p.1).sum
 |[],off,_,i,p,h=>by cases h
 |(t,o)::r,off,h,i,p,hi=>by
  simp only[offs,Fa]at h;cases i with
  |zero=>cases hi;simpa using La h.1
  |succ i=> have:=aT h.2 i p (by simpa using hi);rw[this];simp only[Ld,Sb,Ae];omega
theorem zN{α β:Type}{R:α->β->Prop}{a:α}{l:List α}{m:List β}(h:All2 R (a::l) m): ∃b m',m=b::m'/\R a b/\All2 R l m':=by
 cases h with
 |cons h t=>exact⟨_,_,rfl,h,t⟩
theorem qU{α β:Type}{R:α->β->Prop}{m:List β}(h:All2 R [] m):m=[]:=by cases h;rfl
theorem NV{α β γ:Type}{f:α->γ}{R:γ->β->Prop}: ∀{l:List α} {m:List β},All2 (fun a b=>R (f a) b) l m->All2 R (l.map f) m
 |[],_,h=>by cases h;exact .nil
 |a::l,_,h=>by
  cases h with
  |cons h t=>exact .cons h (NV t)
theorem af {P:Program} {I:Ip} {G:Nat->Prop} {t:Nat} {fs:Array Field} (hu:P.underlying t=some (.struct fs)) {ft:List (Nat×Nat)} (hft:Nf P t=ft) (hg: ∀p∈ft,G p.1) (ho:offs P 0 ft=true)
  (hs:P.cellsOf t=(ft.map fun p=>P.cellsOf p.1).sum) (mk: ∀pvs:List (List PV),All2 (fun(p:Nat×Nat) q=> ∃y:I.C p.1,I.full p.1 y=q) ft pvs-> ∃x:I.C t,I.full t x=pvs.flatten):
  (∀f∈fs.toList,G f.type)/\(∀(i:Nat) f,fs.toList[i]? =some f->f.offset=((fs.toList.take i).map fun f=>P.cellsOf f.type).sum)/\P.cellsOf t=(fs.toList.map fun f=>P.cellsOf f.type).sum/\
  ∀pvs:List (List PV),All2 (fun(f:Field) p=> ∃y:I.C f.type,I.full f.type y=p) fs.toList pvs-> ∃x:I.C t,I.full t x=pvs.flatten:=by
 have hft:fs.toList.map (fun f=>(f.type,f.offset))=ft:=by unfold Nf at hft;rw[hu]at hft;exact hft
 refine⟨fun f hf=>hg (f.type,f.offset) (by rw[<-hft];exact ma.2 ⟨f,hf,rfl⟩),fun i f hi=> ?_,?_,fun pvs h=>mk pvs ?_⟩
 ·have:=aT ho i (f.type,f.offset) (by rw[<-hft,Ka,hi];rfl);simp only[Xb]at this;rw[this,<-hft,<-Be,List.map_map];rfl
 ·rw[hs,<-hft,List.map_map];rfl
 ·rw[<-hft];exact NV h
theorem Px{α β:Type}{g:α->Option β}: ∀{l:List α} {r:List β},l.mapM g=some r->All2 (fun a b=>g a=some b) l r
 |[],r,h=>by simp only[List.mapM_nil,Option.pure_def,Option.some.injEq]at h;subst h;exact .nil
 |a::l,r,h=>by rw[List.mapM_cons]at h;obtain⟨b,h1,h2⟩:=Aa.1 h;obtain⟨r',h3,h4⟩:=Aa.1 h2;simp only[Option.pure_def,Option.some.injEq]at h4;subst h4;exact .cons h1 (Px h3)
theorem All2.len{α β:Type}{R:α->β->Prop}{l:List α}{m:List β}(h:All2 R l m):l.length=m.length:=by
 induction h with
 |nil=>rfl
 |cons _ _ ih=>simp[ih]
theorem All2.at{α β:Type}{R:α->β->Prop}{l:List α}{m:List β}(h:All2 R l m): ∀{i:Nat} {a:α},l[i]? =some a-> ∃b,m[i]? =some b/\R a b:=by
 induction h with
 |nil=>intro i a h;cases h
 |cons h t ih=>
  intro i a hi;cases i with
  |zero=>cases hi;exact⟨_,rfl,h⟩
  |succ i=>exact ih hi
def Xf(w:World)(cs:List Value)(pvs:List PV):Prop:=cs.length=pvs.length/\ ∀(j:Nat) v pv,cs[j]? =some v->pvs[j]? =some pv->RepP (fun b=>b<w.heap.size) w pv v/\v.oneCell'=true
theorem Xf.one{w:World}{v:Value}{pv:PV}(h:RepP (fun b=>b<w.heap.size) w pv v)(ho:v.oneCell'=true):Xf w [v] [pv]:=by
 refine⟨rfl,fun j u q hu hq=> ?_⟩;cases j with
 |zero=>cases hu;cases hq;exact⟨h,ho⟩
 |succ j=>cases hu
theorem Xf.append{w:World}{a b:List Value}{p q:List PV}(h:Xf w a p)(g:Xf w b q):Xf w (a++b) (p++q):=by
 refine⟨by simp[h.1,g.1],fun j v pv hv hp=> ?_⟩;by_cases hj:j<a.length
 ·rw[Sg hj]at hv;rw[Sg (by rw[<-h.1];exact hj)]at hp;exact h.2 j v pv hv hp
 ·rw[List.getElem?_append_right (by omega)]at hv;rw[List.getElem?_append_right (by have:=h.1;omega),<-h.1]at hp;exact g.2 _ v pv hv hp
section
variable {P:Program} {I:Ip} {G:Nat->Prop} {bk:{H:Type}->DataW H->Nat}
theorem dM {H:Type} {D:Nat->List Value->Option (DataW H×List MemPlace)} {w:World}
  (hD: ∀t cs d ps,G t->D t cs=some (d,ps)-> ∃x:I.C t,Xf w cs (I.full t x)/\zI (I.full t x)<=bk d/\Yg (I.full t x)) (cs:List Value):
  ∀(fs:List Field) (off:Nat) (xs:List (DataW H×List MemPlace)),(∀f∈fs,G f.type)->(∀(i:Nat) f,fs[i]? =some f->f.offset=off+((fs.take i).map fun f=>P.cellsOf f.type).sum)->
   All2 (fun(f:Field) x=>D f.type ((cs.drop f.offset).take (P.cellsOf f.type))=some x) fs xs->
   ∃pvs:List (List PV),All2 (fun(f:Field) p=> ∃y:I.C f.type,I.full f.type y=p) fs pvs/\Xf w ((cs.drop off).take ((fs.map fun f=>P.cellsOf f.type).sum)) pvs.flatten/\zI pvs.flatten<=((xs.map (·.1)).map bk).sum/\Yg pvs.flatten
 |[],off,xs,_,_,h=>by
  cases h;refine⟨[], .nil,⟨by simp,fun j v pv hv=>by simp at hv⟩,by simp[zI],trivial⟩
 |f::fs,off,xs,hG,ho,h=>by
  cases h with
  | @cons _ x _ xs' h1 h2=>
   obtain⟨d,ps⟩:=x;have h0:f.offset=off:=by have:=ho 0 f rfl;simpa using this
   obtain⟨y,y1,y2,y3⟩:=hD f.type _ d ps (hG f (ja ..)) h1;obtain⟨pvs,q1,q2,q3,q4⟩:=dM hD cs fs (off+P.cellsOf f.type) xs' (fun g hg=>hG g (Eb _ hg)) (fun i g hi=>by
    have:=ho (i+1) g (by simpa using hi);rw[this];simp only[Ld,Sb,Ae];omega) h2
   refine⟨I.full f.type y::pvs, .cons ⟨y,rfl⟩ q1,?_,?_,?_⟩
   ·rw[h0]at y1;have e:(cs.drop off).take (((f::fs).map fun f=>P.cellsOf f.type).sum)=(cs.drop off).take (P.cellsOf f.type)++(cs.drop (off+P.cellsOf f.type)).take ((fs.map fun f=>P.cellsOf f.type).sum):=by rw[Sb,Ae,List.take_add,List.drop_drop]
    rw[e,Me];exact y1.append q2
   ·rw[Me,AO];simp only[Sb,Ae];omega
   ·rw[Me];exact(vO _ _).2 ⟨y3,q4⟩
theorem YW{w:World}{a:Addr}{v:Value}(h:w.cell? a=some v):a.spot=none/\a.block<w.heap.size:=by
 unfold World.cell? at h;split at h
 ·rename_i c t fr hb;refine⟨?_,(Ya.1 hb).1⟩;cases hs:a.spot with
  |none=>rfl
  |some s=>rw[hs]at h;cases h
 ·cases h
theorem XW{w:World}{a:Addr}{n:Nat}{cs:List Value}(h:w.cells? 0 a n=some cs):cs.length=n/\ ∀(i:Nat) v,cs[i]? =some v->w.cell? (a.add i)=some v:=by
 unfold World.cells? at h;rw[aa (Rb _)]at h;have h:=Px h;have hl:=h.len;rw[List.length_range]at hl;refine⟨hl.symm,fun i v hv=> ?_⟩;have hi:i<n:=by rw[hl];exact(Ja.1 hv).1
 obtain⟨b,h1,h2⟩:=h.at (i:=i) (a:=i) (by rw[List.getElem?_range hi]);rw[hv]at h1;cases h1;exact h2
theorem zHy{a:Addr}(n m:Nat)(h:(a.add n).spot=none):(a.add n).add m=⟨a.block,a.off+n+m,none⟩/\a.block=(a.add n).block:=by
 obtain⟨b,o,s⟩:=a;by_cases hn:n=0
 ·subst hn;have e:(⟨b,o,s⟩:Addr).add 0=⟨b,o,s⟩:=aa rfl;rw[e]at h ⊢;have h:s=none:=h;subst h;refine⟨?_,rfl⟩;unfold Addr.add;by_cases hm:m=0
  ·subst hm;rw[aa rfl];rfl
  ·rw[Ab hm];rfl
 ·have e:(⟨b,o,s⟩:Addr).add n=⟨b,o+n,none⟩:=Ab hn;rw[e];refine⟨?_,rfl⟩;unfold Addr.add;by_cases hm:m=0
  ·subst hm;rw[aa rfl];rfl
  ·rw[Ab hm]
theorem tT {w:World} {e k:Nat} {a:Addr} {H:Type} {D:List Value->Option (DataW H×List MemPlace)} (hk:0<k)
  (hD: ∀cs d ps,D cs=some (d,ps)-> ∃x:I.C e,Xf w cs (I.full e x)/\zI (I.full e x)<=bk d/\Yg (I.full e x)) (hI: ∀x:I.C e,(I.full e x).length=k):
  ∀(n s:Nat) (r:List (DataW H×List MemPlace)),All2 (fun i x=>(w.cells? 0 (a.add (i*k)) k).bind D=some x) (List.range' s n) r->
   ∃l:List (I.C e),l.length=n/\ai (l.map (I.full e))<=((r.map (·.1)).map bk).sum/\kJ (l.map (I.full e))/\
    ∀(i:Nat) x (j:Nat) pv,l[i]? =some x->(I.full e x)[j]? =some pv-> ∃v,w.cell? ⟨a.block,a.off+(s+i)*k+j,none⟩=some v/\RepP (fun b=>b<w.heap.size) w pv v/\v.oneCell'=true
 |0,s,r,h=>by
  cases h;exact⟨[],rfl,by simp[ai],trivial,fun i x j pv h=>by cases h⟩
 |n+1,s,r,h=>by
  rw[List.range'_succ]at h;cases h with
  | @cons _ x _ r' h1 h2=>
   obtain⟨cs,g1,g2⟩:=Aa.1 h1;obtain⟨d,ps⟩:=x;obtain⟨y,y1,y2,y3⟩:=hD cs d ps g2;obtain⟨l,l1,l2,l3,l4⟩:=tT hk hD hI n (s+1) r' h2;obtain⟨c1,c2⟩:=XW g1;refine⟨y::l,by simp[l1],?_,⟨y3,l3⟩,fun i z j pv hz hp=> ?_⟩
   ·simp only[Sb,ai,Ae];omega
   ·cases i with
    |zero=>
     cases hz;have hj:j<cs.length:=by rw[y1.1];exact(Ja.1 hp).1
     have hv:cs[j]? =some cs[j]:=Ma hj;obtain⟨r1,r2⟩:=y1.2 j _ _ hv hp;have hc:=c2 j _ hv;have h0:=c2 0 cs[0] (Ma (by omega));have hs0:=(YW h0).1;have hsp:(a.add (s*k)).spot=none:=by have e0:(a.add (s*k)).add 0=a.add (s*k):=aa rfl;rw[e0]at hs0;exact hs0
     refine⟨_,?_,r1,r2⟩;rw[Lc,<-(zHy (s*k) j hsp).1];exact hc
    |succ i=> obtain⟨v,v1,v2,v3⟩:=l4 i z j pv hz hp;refine⟨v,?_,v2,v3⟩;rw[show s+(i+1)=s+1+i by omega];exact v1
theorem WS{n:Int}(h1:IntKind.u8.min<=n)(h2:n<=IntKind.u8.max):[PV.at (.int .u8 (((UInt8.ofNat n.toNat).toNat:Nat):Int))]=[PV.at (.int .u8 n)]:=by
 have h1:(0:Int)<=n:=h1;have h2:n<=255:=h2;rw[UInt8.toNat_ofNat'];have:((n.toNat%2 ^ 8:Nat):Int)=n:=by omega
 rw[this]
theorem reads(hI:IpOK P I)(hG:IpRd P I G)(hb:zLB bk){H:Type}(enc:TypeId×Value->H)(w:World):
  ∀(fuel:Nat) (t:Nat) (cs:List Value) (d:DataW H) (ps:List MemPlace),G t->DataW.trod enc P w 0 (fun _=>true) true fuel t cs=some (d,ps)-> ∃x:I.C t,Xf w cs (I.full t x)/\zI (I.full t x)<=bk d/\Yg (I.full t x):=by
 intro fuel
 induction fuel with
 |zero=>intro t cs d ps _ h;cases h
 |succ fuel ih=>
  intro t cs d ps hg h;simp only[DataW.trod]at h;cases hu:P.underlying t with
  |none=>rw[hu]at h;simp at h
  |some u=>
   rw[hu]at h;rcases hG.only t u hg hu with⟨k,rfl⟩|rfl|rfl|⟨e,rfl⟩|⟨fs,rfl⟩
   ·split at h<;>(try (rename_i hh;cases hh;done))<;>(try (rename_i hh _;cases hh;done))<;>(try (cases h;done));rename_i k0 k' n hh;cases hh;split at h
    ·rename_i hc;cases h;obtain⟨rfl,hwf⟩:=hc;have hwf':=hwf;simp only[Lit.wf,Fa,Cb]at hwf';obtain⟨x,hx⟩:=hG.int t _ hg hu n hwf'.1 hwf'.2;refine⟨x,?_,?_,?_⟩
     ·rw[hx];exact Xf.one (.at _ rfl) rfl
     ·rw[hx];simp only[zI,bPV];exact hb.one _
     ·rw[hx];simp only[Lit.wf,Fa,Cb]at hwf;exact⟨hwf,trivial⟩
    ·cases h
   ·split at h<;>(try (rename_i hh;cases hh;done))<;>(try (rename_i hh _;cases hh;done))<;>(try (cases h;done));cases h;rename_i b _;obtain⟨x,hx⟩:=hG.bool t hg hu b;refine⟨x,by rw[hx];exact Xf.one (.at _ rfl) rfl,by rw[hx];simp only[zI,bPV];exact hb.one _,by rw[hx];exact⟨trivial,trivial⟩⟩
   ·split at h<;>(try (rename_i hh;cases hh;done))<;>(try (rename_i hh _;cases hh;done))<;>(try (cases h;done));rename_i s _;split at h
    ·cases h;obtain⟨x,hx⟩:=hG.str t hg hu s.data.toList;refine⟨x,?_,?_,by rw[hx];exact⟨trivial,trivial⟩⟩
     ·rw[hx];have:Value.string s= .string ⟨s.data.toList.toArray⟩:=by cases s;simp
      rw[this];exact Xf.one (.str _) rfl
     ·rw[hx];simp only[zI,bPV,hb.str];omega
    ·cases h
   ·obtain⟨ge,hk,hmk⟩:=hG.sl t e hg hu;split at h<;>(try (rename_i hh;cases hh;done))<;>(try (rename_i hh _;cases hh;done))<;>(try (cases h;done))
    ·cases h;obtain⟨x,hx⟩:=hmk [];refine⟨x,?_,?_,by rw[hx];exact⟨trivial,trivial⟩⟩
     ·rw[hx];exact Xf.one (.sl [] none 0 0 0 0 0 (fun _ _=>undef) rfl (Sa _) (fun h=>by omega) (fun h=>by omega) (fun r hr=>by cases hr) (fun i row j x h=>by cases h) (fun i row j x h=>by cases h)) rfl
     ·rw[hx];simp only[List.map_nil,zI,bPV,ai];exact hb.one _
    ·rename_i e' a len cap hh;cases hh;split at h
     ·rename_i hc;obtain⟨elems,h1,h2⟩:=Aa.1 h;obtain⟨rest,h3,h4⟩:=Ia.1 h2;cases h4;have h1:=Px h1;rw[List.range_eq_range']at h1;obtain⟨l,l1,l2,l3,l4⟩:=tT (I:=I) (bk:=bk) (w:=w) (e:=e) (a:=a) hk (fun cs d ps hd=>ih e cs d ps ge hd) (fun x=>hI.len e x) len 0 elems h1;obtain⟨x,hx⟩:=hmk l;refine⟨x,?_,?_,?_⟩
      ·rw[hx];have hall: ∀i x j pv,l[i]? =some x->(I.full e x)[j]? =some pv-> ∃v,w.cell? ⟨a.block,a.off+i*P.cellsOf e+j,none⟩=some v/\RepP (fun b=>b<w.heap.size) w pv v:=fun i x j pv h1 h2=>by obtain⟨v,v1,v2,_⟩:=l4 i x j pv h1 h2;exact⟨v,by simpa using v1,v2⟩
       have hne:0<len-> ∃v,w.cell? (a.add (0*P.cellsOf e))=some v:=by intro hl;have h0:=h1.at (i:=0) (a:=0) (by rw[<-List.range_eq_range',List.getElem?_range hl]);obtain⟨b,_,hb2⟩:=h0;obtain⟨cs,g1,_⟩:=Aa.1 hb2;obtain⟨c1,c2⟩:=XW g1;have h0:=c2 0 (cs[0]'(by omega)) (Ma (by omega));have e0:(a.add (0*P.cellsOf e)).add 0=a.add (0*P.cellsOf e):=aa rfl;rw[e0]at h0;exact⟨_,h0⟩
       have ha:0<len->a=⟨a.block,a.off,none⟩/\a.block<w.heap.size:=by intro hl;obtain⟨v,hv⟩:=hne hl;rw[Xd]at hv;have e0:a.add 0=a:=aa rfl;rw[e0]at hv;obtain⟨q1,q2⟩:=YW hv;refine⟨?_,q2⟩;cases a;simp only at q1;subst q1;rfl
       refine Xf.one (.sl _ (some a) len cap (P.cellsOf e) a.block a.off (fun i j=>(w.cell? ⟨a.block,a.off+i*P.cellsOf e+j,none⟩).getD undef) (by simp[l1]) hc.2.1 (fun hl=>congrArg some (ha hl).1) (fun hl=>(ha hl).2) (fun row hr=> ?_) (fun i row j x hi hj=> ?_) (fun i row j x hi hj=> ?_)) rfl
       ·obtain⟨z,_,rfl⟩:=ma.1 hr;exact hI.len e z
       ·rw[Ka]at hi;cases hz:l[i]? with
        |none=>rw[hz]at hi;cases hi
        |some z=> rw[hz]at hi;cases hi;obtain⟨v,v1,_⟩:=hall i z j x hz hj;rw[v1];rfl
       ·rw[Ka]at hi;cases hz:l[i]? with
        |none=>rw[hz]at hi;cases hi
        |some z=> rw[hz]at hi;cases hi;obtain⟨v,v1,v2⟩:=hall i z j x hz hj;rw[v1];exact v2
      ·rw[hx];simp only[zI,bPV];have:=hb.slice (elems.map (·.1)) (rest.map (·.1));omega
      ·rw[hx];exact⟨l3,trivial⟩
     ·cases h
   ·obtain⟨gf,ho,hsz,hmk⟩:=hG.st t fs hg hu;have h:(if cs.length=P.cellsOf t then(fs.toList.mapM fun f=>DataW.trod enc P w 0 (fun _=>true) true fuel f.type ((cs.drop f.offset).take (P.cellsOf f.type))).map fun xs=>(DataW.agg (xs.map (·.1)),xs.flatMap (·.2))else none)=some (d,ps):=by
     revert h;cases cs with
     |nil=>exact id
     |cons c cs=>
      cases cs with
      |nil=>cases c<;>exact id
      |cons c' cs=>exact id
    split at h
    ·rename_i hl;obtain⟨xs,h1,h2⟩:=Ia.1 h;cases h2;obtain⟨pvs,q1,q2,q3,q4⟩:=dM (P:=P) (I:=I) (G:=G) (bk:=bk) (D:=DataW.trod enc P w 0 (fun _=>true) true fuel) (w:=w) (fun t cs d ps=>ih t cs d ps) cs fs.toList 0 xs gf (fun i f hi=>by rw[ho i f hi];omega) (Px h1);obtain⟨x,hx⟩:=hmk pvs q1;refine⟨x,?_,?_,by rw[hx];exact q4⟩
     ·rw[hx];rw[List.drop_zero,<-hsz,<-hl,Lf]at q2;exact q2
     ·rw[hx];have:=hb.agg (xs.map (·.1));omega
    ·cases h
end
open Go.RowKit Go.ChangeShapes Go.WideShapes
section
variable {P:Program} {I:Ip}
def noA:Asg:=⟨fun _=> .free,fun _=> .no⟩
theorem uT{W:World}{pv:PV}{v:Value}(h:RepP (fun b=>b<W.heap.size) W pv v):RepP (Dom noA W) W pv v:=
 h.mono (fun b hb=>⟨hb,rfl,fun id k n e=>by cases e⟩) (fun b _=>rfl)
theorem zOd{W:World}{r:Reach}{base:Nat}{t:TypeId}{v:Value}{u:TypeDesc}{x:EV I.C}(hx:jh x=true)(hu:P.underlying t=some u)(hs: ∀fs,u≠ .struct fs)(ha: ∀n e,u≠ .array n e)(hok:Value.okWide P W r base t v)(hr:Xf W v.cells.toList [pvE I x]):RepT noA W (.c x) v:=by
 have hok:Cell.okWide P W r base t v:=by unfold Value.okWide at hok;rw[hu]at hok;cases u<;>first|exact hok|exact absurd rfl (hs _)|exact absurd rfl (ha _ _)
 have hv:v.cells= #[v]:=by
  cases v<;>first|rfl|skip
  exfalso;unfold Cell.okWide at hok;rw[hu]at hok;cases u<;>simp only[Cell.ok,hu]at hok
 rw[hv]at hr;obtain⟨h1,h2⟩:=hr.2 0 v _ rfl rfl;exact⟨h2,(QP hx).2 (uT h1)⟩
theorem wR{W:World}{r:Reach}{base:Nat}{t:TypeId}{v:Value}{fs:Array Field}{xs:List (EV I.C)}(hx:(xs.all jh)=true)(hu:P.underlying t=some (.struct fs))(hok:Value.okWide P W r base t v)(hr:Xf W v.cells.toList (xs.map (pvE I))):RepT noA W (.agg xs) v:=by
 unfold Value.okWide at hok;rw[hu]at hok;obtain⟨cs,rfl,_,_⟩:=hok;have hr:Xf W cs.toList (xs.map (pvE I)):=hr;refine⟨cs,rfl,by have:=hr.1;simpa using this,fun j x hj=> ?_⟩;have hl:j<cs.toList.length:=by rw[hr.1,Ta];exact(Ja.1 hj).1
 have hv:cs.toList[j]? =some cs.toList[j]:=Ma hl;obtain⟨h1,h2⟩:=hr.2 j _ (pvE I x) hv (by rw[Ka,hj];rfl);exact⟨_,by rw[<-Jc];exact hv,h2,(QP (Nb.1 hx x (Na hj))).2 (uT h1)⟩
theorem zKe{W:World}:Vf (I:=I) noA W [] #[]:=⟨rfl,fun j t h=>by cases h⟩
theorem YF{W:World}{t:ET I.C}{ts:List (ET I.C)}{v:Value}{vs:List Value}(h:RepT noA W t v)(g:Vf noA W ts vs.toArray):Vf noA W (t::ts) (v::vs).toArray:=by
 refine⟨by have:=g.1;simpa using this,fun j x hx=> ?_⟩;cases j with
 |zero=>cases hx;exact⟨v,by simp,h⟩
 |succ j=> obtain⟨u,h1,h2⟩:=g.2 j x (by simpa using hx);exact⟨u,by simpa using h1,h2⟩
theorem zIN {con:Con I} (hc:zf P con) {x:(con.inS.sl I).T} {y:(con.outS.sl I).T} (hF:con.F x=some y) {b:Bool} (hy:((con.outS.sl I).enc y).1=[.c (.bool b)]) (hin:((con.inS.sl I).enc x).2=[])
  {W:World} {vs:Array Value} (hg:Glob (Dom noA W) W) (hargs:Vf noA W ((con.inS.sl I).enc x).1 vs):
  Calls P con.f vs W fun e W'=>e= .returned (.bool b)/\Below W.heap.size W W':=by
 refine(hc.ok x y hF noA W vs ⟨fun i b k n e=>(by cases e),fun i j b k k' n n' e=>(by cases e),hg,fun b hb=>absurd rfl hb⟩ (fun _ _=>rfl) (fun o h=>by rw[hin]at h;cases h) hargs).mono fun e W' ⟨v,ι',he,S,_,hr,_,_⟩=> ?_;rw[hy]at hr;have hv:RepP (Dom ι' W') W' (.at (.bool b)) v:=hr.2;cases hv;exact⟨he,S.os,S.tape,S.output,S.size,fun k hk=>S.keep k ⟨hk,rfl,fun id k n e=>by cases e⟩⟩
theorem zK1 {H:Type} {enc:TypeId×Value->H} {f:Func} {s:ChangeSpec} {apart fresh handsOn again:Bool} {W W':World} {args:Array Value} {ds gs:List (DataW H)} {before pa:List MemPlace} {tb:TypeId}
  (hW:DataW.Whole enc P f.params.toList s.vars apart W args.toList ds gs before) (hvars:s.vars=[]) (hrt:f.resultTypes= #[tb]) (htb:P.underlying tb=some .bool)
  (hres:(s.fn H (ds++gs)).results=[.lit (.bool true)]) (hvs:(s.fn H (ds++gs)).vars=[])
  (hargs: ∀sp:Nat->Bool,(∀p∈before,sp p.block=true)->DataW.TrodAll enc P W' 0 sp true f.params.toList args.toList (s.fn H (ds++gs)).args pa)
  (hps:before=pa) (hb:Below W.heap.size W W'):s.post enc P f apart fresh handsOn again W args (.bool true) W':=by
 have hlt: ∀p∈before,p.block<W.heap.size:=fun p hp=>hW.lt p hp;have hold: ∀p∈before,(fun b=>decide (b<W.heap.size)) p.block=true:=fun p hp=>by simpa using hlt p hp
 have hr: ∀(b:Nat) (sp:Nat->Bool) (hd:Bool),DataW.TrodAll enc P W' b sp hd f.resultTypes.toList ((Value.bool true).resultList f.resultTypes.size) (s.fn H (ds++gs)).results []:=by intro b sp hd;rw[hrt,hres];exact trodAll_cons_mk (shut_bool htb _) trodAll_mk0
 have hv: ∀sp:Nat->Bool,DataW.TrodVars enc P W' sp s.vars (s.fn H (ds++gs)).vars []:=by intro sp;rw[hvars,hvs];exact rfl
 refine⟨ds,gs,before,[],pa,[],hW,hr _ _ _,hargs _ hold,hv _,World.keptBut_mono (fun p hp=>⟨hp, .inr (.inl (by rw[<-hps];exact hp))⟩) (hb.frame (· ∈before)),fun _=> ?_⟩;obtain⟨_,_,_,_,_,hz,hn⟩:=hW;refine⟨ok_one hrt rfl (okWide_bool_mk htb _),_,_,([]++pa)++[],⟨[]++pa,[],trodAll_append (hargs _ (fun _ _=>rfl)) (hr _ _ _),hv _,rfl,?_,?_⟩,?_⟩
 ·intro b off hp;have hin:MemPlace.cell b off∈before:=by rw[hps];simpa using hp
  rw[hb.frozen (hlt _ hin)];exact hz b off hin
 ·intro ha;have:=hn ha;rw[hps]at this;simpa using this
 ·intro p hp _;rw[hps];simpa using hp
theorem sN{H:Type}{enc:TypeId×Value->H}(hl:laidOutB P=true){W W':World}(hb:Below W.heap.size W W')(sp:Nat->Bool): ∀(ts:List TypeId) (vs:List Value) (ds:List (DataW H)) (ps:List MemPlace),(∀t∈ts,P.readableRec t=true/\t<P.types.size)->
  DataW.TrodAll enc P W 0 (fun _=>true) true ts vs ds ps->(∀x∈ps,x.block<W.heap.size)->(∀x∈ps,sp x.block=true)->DataW.TrodAll enc P W' 0 sp true ts vs ds ps
 |[],vs,ds,ps,_,h,_,_=>by
  cases vs<;>cases ds<;>first|exact h|(cases h;done)
 |t::ts,vs,ds,ps,ht,h,hlt,hsp=>by obtain⟨v,vs',d,ds',p,q,rfl,rfl,rfl,h1,h2⟩:=trodAll_cons h;have h3:=sN hl hb sp ts vs' ds' q (fun t ht'=>ht t (Eb _ ht')) h2 (fun x hx=>hlt x (List.mem_append_right _ hx)) (fun x hx=>hsp x (List.mem_append_right _ hx));obtain⟨r1,r2⟩:=ht t (ja ..);exact⟨p,q,WideElems.Trod_stays hl r1 r2 h1 (fun x hx=>hb.same (hlt x (Tc _ hx))) (fun x hx=>hsp x (Tc _ hx)),h3,rfl⟩
end
def Le{α:Type}(a b:Option α):Prop:= ∀y,a=some y->b=some y
theorem Le.rfl{α:Type}{a:Option α}:Le a a:=fun _ h=>h
theorem Le.none{α:Type}{b:Option α}:Le none b:=fun _ h=>by cases h
theorem Le.bind{α g:Type}{a c:Option α}{f d:α->Option g}(h:Le a c)(e: ∀x,Le (f x) (d x)):Le (za a f) (za c d):=by
 intro y b;cases a with
 |none=>cases b
 |some x=>rw[h x _root_.rfl];exact e x y b
theorem Le.bif{α:Type}{c:Bool}{a e b d:Option α}(h:Le a e)(h':Le b d):Le (bif c then a else b) (bif c then e else d):=by
 grind
theorem Le.need{α:Type}{c:Bool}{a b:Option α}(h:Le a b):Le (Lv.need c a) (Lv.need c b):=by
 cases c
 ·exact Le.rfl
 ·exact h
theorem Le.cond{α:Type}{c:Bool}{a b:Option α}{d:α}(h:Le a b):Le (zA c a d) (zA c b d):=by
 cases c
 ·exact Le.rfl
 ·exact h
theorem Le.map{α d:Type}{a c:Option α}{f:α->d}(h:Le a c):Le (Option.map f a) (Option.map f c):=by
 intro y b;cases a with
 |none=>cases b
 |some x=>rw[h x _root_.rfl];exact b
theorem Le.join{X R:Type}{a d:Option (LX X R)}{k c:X->Option R}(h:Le a d)(e: ∀x,Le (k x) (c x)):Le (zO a k) (zO d c):=by
 intro y b;cases a with
 |none=>cases b
 |some x=>
  rw[h x _root_.rfl];cases x with
  |out x=>exact e x y b
  |ret r=>exact b
def Vg(n:Nat){S X R:Type}(step:S->Option (LO S X R))(s:S)(k:X->Option R):Option R:=
 match qz step n s with
 |some (.out x)=>k x
 |some (.ret r)=>some r
 |none=>none
theorem gL{S X R:Type}{step a:S->Option (LO S X R)}(h: ∀s,Le (step s) (a s)): ∀(n:Nat) (s:S),Le (qz step n s) (qz a n s)
 |0,_=>Le.none
 |n+1,s=>by
  intro y b;simp only[qz]at b ⊢;cases c:step s with
  |none=>grind
  |some o=>
   rw[c]at b;rw[h s o c];cases o with
   |again d=>exact gL h n d y b
   |out x=>exact b
   |ret r=>exact b
theorem Le.loop{n:Nat}{S X R:Type}{step a:S->Option (LO S X R)}{s:S}{k c:X->Option R}(h: ∀s,Le (step s) (a s))(e: ∀x,Le (k x) (c x)):Le (Vg n step s k) (Zc a s c):=by
 intro y b;unfold Vg at b;cases d:qz step n s with
 |none=>grind
 |some x=>
  rw[d]at b;rw[Wh (Jh (gL h n s x d))];cases x with
  |out x=>exact e x y b
  |ret r=>exact b
theorem Le.rec{X Y:Type}{B a:(X->Option Y)->X->Option Y}(h: ∀(S c:X->Option Y),(∀x,Le (S x) (c x))-> ∀x,Le (B S x) (a c x))(n:Nat)(x:X):Le (Ue B n x) (recE a x):=by
 have b: ∀(n k:Nat),n<=k-> ∀x,Le (Ue B n x) (Ue a k x):=by
  intro n
  induction n with
  |zero=>intro k _ x;exact Le.none
  |succ n e=>
   intro k d x;cases k with
   |zero=>omega
   |succ k=>exact h _ _ (e k (by omega)) x
 intro y f;exact WK (N:=n) fun k d=>b n k d x y f
def ZG(n:Nat){S X R:Type}(step:S->Option (LO S X R))(s:S)(k:X->Option R):Option R:=
 (qz step n s).bind fun
 | .out x=>k x
 | .ret r=>some r
section
variable {I:Ip} {P:Program}
theorem zf.iter {f:Nat} {inS:StSh} {cst:List Nat} {outS:StSh} {k:Nat} (B:((inS.sl I).T->Option (outS.sl I).T)->(inS.sl I).T->Option (outS.sl I).T)
  (hwf:Bg (⟨f,inS,cst,outS,k,fun _=>Option.none⟩:Con I)=true) (hB: ∀S,zf P (⟨f,inS,cst,outS,k,S⟩:Con I)->zf P (⟨f,inS,cst,outS,k,B S⟩:Con I)): ∀n,zf P (⟨f,inS,cst,outS,k,Ue B n⟩:Con I)
 |0=>⟨hwf,fun _ _ h=>(by cases h),fun _ _ h=>(by cases h)⟩
 |n+1=>hB _ (zf.iter B hwf hB n)
theorem zf.le{f:Nat}{inS:StSh}{cst:List Nat}{outS:StSh}{k:Nat}{F G:(inS.sl I).T->Option (outS.sl I).T}(h:zf P (⟨f,inS,cst,outS,k,F⟩:Con I))(hl: ∀x,Le (G x) (F x)):zf P (⟨f,inS,cst,outS,k,G⟩:Con I):=
 ⟨h.wf,fun x y e=>h.fn x y (hl x y e),fun x y e=>h.ok x y (hl x y e)⟩
end
variable {I:Ip}
theorem zNk{s:Shp I}{r:VL I}{n:Nat}(h: ∀x,(r.enc x).length=n): ∀x,((VL.cons s r).enc x).length=n+1:=by obtain⟨T,u,d,e,m⟩:=s;obtain⟨f,a,c,b,g⟩:=r;cases u<;>cases a<;>intro x<;>exact congrArg (· +1) (h _)
theorem VS: ∀(l:List Sh) (x:(vlOf I l).T),((vlOf I l).enc x).length=l.length
 |[],_=>rfl
 |s::l,x=>zNk (s:=s.shp I) (VS l) x
theorem zN8(s:StSh): ∀x:(s.sl I).T,((s.sl I).enc x).1.length=s.vals.length:=by have h:=VS (I:=I) s.vals;unfold StSh.sl;revert h;generalize vlOf I s.vals=v;generalize olOf I s.objs=o;obtain⟨T,u,d,e,m⟩:=v;obtain⟨f,a,c,b,g⟩:=o;cases u<;>cases a<;>intro h x<;>exact h _
theorem zu{Q:Con I->Prop}: ∀c∈([]:List (Con I)),Q c:=fun c h=>by cases h
theorem memC{Q:Con I->Prop}{a:Con I}{l:List (Con I)}(h:Q a)(g: ∀c∈l,Q c): ∀c∈a::l,Q c:=fun c b=>by
 grind
def chk(con:Con I)(A:Env0 I)(f:Go.Func):Bool:=Bg con&&(f.body.isSome&&(!(f.name== "runtime.NumGoroutine")&&(A.p==con.inS.objs.length&&Nat.ble con.inS.vals.length f.ntmps)))
theorem okC0 {P:Program} {T:TT} {b:List (Nat×List Kd)} (a:P.follows .mixedOrders=true) (g:IpOK P I) (n:TOK P T b) {con:Con I} {f:Go.Func} {A:Env0 I} {exS:StSh} {c:Code} {rs:List ResultVar} (q:c=match f.body with|some c=>c|none=> .skip) (i:rs=f.results.toList)
  (e: ∀c∈A.S,zf P c) (l:P.funcs[con.f]? =some f) (h:chk con A f=true) (m: ∀x,evF2 A T b f.ntmps rs c con exS x=con.F x):zf P con:=by
 unfold chk at h;simp only[Fa]at h;obtain⟨d,o,k,j,p⟩:=h;refine zAd (exS:=exS) a g e d n l ?_ ?_ (by simpa using k) (Bc.1 j) (fun x=>by rw[zN8];simp_all) (fun x y h=>(m x).trans h)
 ·grind
 ·rw[i]
section
variable {P:Program} {I:Ip}
theorem zH1 (hI:IpOK P I) {f t:Nat} {vals:List Sh} {F:((⟨vals,[]⟩:StSh).sl I).T->Option (List (I.C t))} (hwf:Bg (⟨f,⟨vals,[]⟩,[],⟨[.sl t],[]⟩,0,F⟩:Con I)=true)
  (h:zf P (⟨f,⟨vals,[]⟩,[],⟨[.own 0],[(0, .sl t)]⟩,1,F⟩:Con I)):zf P (⟨f,⟨vals,[]⟩,[],⟨[.sl t],[]⟩,0,F⟩:Con I):=
 ⟨hwf,h.fn,fun x y hxy ι w vs W hfr hobj hv=>(h.ok x y hxy ι w vs W hfr hobj hv).mono fun e w' ⟨v,ι',he,S,W',hr,ho,_⟩=>by
  obtain⟨ys,hys⟩: ∃ys:List (I.C t),ys=y:=⟨y,rfl⟩;replace hr:RepT (I:=I) ι' w' (.c (.own 0)) v:=by subst hys;exact hr
  replace ho:qD P ι' w' 0 (.sl t ys):=by subst hys;exact ho _ (ja ..)
  obtain⟨b,e1,hb⟩:=(Zk rfl).1 ho;have dom: ∀b,Dom ι' w' b->Dom ⟨fun _=> .free,ι'.X⟩ w' b:=fun b hb=>⟨hb.1,hb.2.1,fun i k n e=>by cases e⟩;refine⟨v,⟨fun _=> .free,ι'.X⟩,he,⟨⟨S.shape,fun b hb=>dom b (S.dom b hb),S.keep⟩,S.os,S.tape,S.output,S.size,fun i b k n _ e=>(by rw[hfr i (Rb i)]at e;cases e),fun i h0=>absurd (hfr i (Rb i)) h0,fun i _ h0=>absurd (hfr i (Rb i)) h0,S.xs,S.xn,S.xkeep⟩,
   ⟨fun i b k n e=>(by cases e),fun i j b k k' n n' e=>(by cases e),fun q hq=>let⟨h1,h2⟩:=W'.glob q hq;⟨dom _ h1,h2⟩,W'.xlt⟩,?_,fun o ho=> ?_,fun i _=>rfl⟩
  ·obtain⟨h1,h2⟩:=hr;have h2:SlS ι' w' (ι' 0) none v:=h2;rw[e1]at h2;subst hys;exact⟨h1,iE hI dom hb (fun b' e=>by
    subst e;obtain⟨q1,q2⟩:=W'.lt _ _ _ _ e1;exact⟨q1,q2,fun i k n e=>by cases e⟩) rfl (by simp[z8]) h2⟩
  ·cases ho⟩
end
end Go.Lv
