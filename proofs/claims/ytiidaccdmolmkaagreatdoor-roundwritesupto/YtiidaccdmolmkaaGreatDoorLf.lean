import Derived.Test.YtiidaccdmolmkaaGreatDoorLe
import Derived.IntWalk
import Derived.Lib.Index
import Derived.Lib.IndexMore
import Derived.Lib.IndexAny
import Derived.Lib.SlTrimSet
import Derived.Lib.TrimByte
import Derived.Lib.ItoaNum
import Derived.Below
import Derived.Lib.Bytealg
import GoSem.ClaimChange
import Derived.ChangeSame
import Derived.Carry
import Derived.ProofKit
import Derived.OpenShut
set_option linter.all false
namespace Go.Lv
abbrev aE:=List UInt8
abbrev w8(n:Int):Int:=IntKind.i8.wrap n
abbrev w32(n:Int):Int:=IntKind.i32.wrap n
abbrev cj(n:Int):Int:=IntKind.i64.wrap n
abbrev cN(n:Int):Int:=IntKind.u8.wrap n
abbrev ii(n:Int):Int:=IntKind.u32.wrap n
abbrev wu64(n:Int):Int:=IntKind.u64.wrap n
def Ij(k:IntKind)(x y:Int):Int:=k.wrap (BitVec.ofInt k.bits x &&& BitVec.ofInt k.bits y).toNat
def db(k:IntKind)(x y:Int):Int:=k.wrap (BitVec.ofInt k.bits x ||| BitVec.ofInt k.bits y).toNat
def VC(k:IntKind)(x y:Int):Int:=k.wrap (x*2 ^ (min y.toNat k.bits))
def Mi(k:IntKind)(x y:Int):Int:=x.fdiv (2 ^ (min y.toNat k.bits))
def qj(n:Int):Option UInt8:=cond (decide (0<=n)&&decide (n<=255)) (some (UInt8.ofNat n.toNat)) none
def zH5{n:Int}{b:UInt8}(h:qj n=some b):n=((b.toNat:Nat):Int):=by
 unfold qj at h;cases hc:(decide (0<=n)&&decide (n<=255))with
 |false=>rw[hc]at h;cases h
 |true=> rw[hc]at h;simp only[Da,aa]at hc;injection h with h;subst h;rw[UInt8.toNat_ofNat'];omega
@[simp] theorem zL1 (b : UInt8) : qj ((b.toNat : Nat) : Int) = some b := by
 unfold qj;have:=Kb b;have h:(decide ((0:Int)<=((b.toNat:Nat):Int))&&decide (((b.toNat:Nat):Int)<=255))=true:=by simp only[Da,aa];omega
 rw[h];simp
abbrev za{α β:Type}(x:Option α)(f:α->Option β):Option β:=x.bind f
class Fu where
 n:Option Nat
instance (priority:=low) pl:Fu:=⟨none⟩
abbrev fuK:Fu:=⟨some 1000⟩
noncomputable def zM[Fu]{S X R:Type}(step:S->Option (LO S X R))(s:S)(k:X->Option R):Option R:=
 (uP Fu.n step s).bind fun
 | .out x=>k x
 | .ret r=>some r
def zK{X R:Type}(m:Option (LX X R))(k:X->Option R):Option R:=
 m.bind fun
 | .out x=>k x
 | .ret r=>some r
def yh{X Y:Type}(B:(X->Option Y)->X->Option Y):Nat->X->Option Y
 |0,_=>none
 |n+1,x=>B (yh B n) x
open Classical in
noncomputable def recP{X Y:Type}(B:(X->Option Y)->X->Option Y)(x:X):Option Y:=
 if h: ∃y,∃N,∀n,N<=n->yh B n x=some y then some h.choose else none
noncomputable def recG{X Y:Type}(f:Option Nat)(B:(X->Option Y)->X->Option Y)(x:X):Option Y:=match f with
 |none=>recP B x
 |some n=>yh B n x
noncomputable def recE[Fu]{X Y:Type}(B:(X->Option Y)->X->Option Y)(x:X):Option Y:=recG Fu.n B x
def jR{X Y:Type}{B:(X->Option Y)->X->Option Y}{x:X}{y:Y}{N:Nat}(h: ∀n,N<=n->yh B n x=some y):recE B x=some y:=by have a: ∃y,∃N,∀n,N<=n->yh B n x=some y:=⟨y,N,h⟩;show recP B x=some y;unfold recP;rw[dif_pos a];obtain⟨M,b⟩:=a.choose_spec;have h1:=b (max N M) (Nat.le_max_right ..);rw[h _ (Nat.le_max_left ..)]at h1;exact h1.symm
def ZB {X Y:Type}{B:(X->Option Y)->X->Option Y}(a:X->Nat)(ok:X->Prop)(f:X->Y)
  (hB: ∀(S:X->Option Y) (x:X),ok x->(∀z,ok z->a z<a x->S z=some (f z))->B S x=some (f x)) {x:X} (d:ok x):recE B x=some (f x):=by
 have b: ∀(m:Nat) (n:Nat) (x:X),a x<m->m<=n->ok x->yh B n x=some (f x):=by
  intro m
  induction m with
  |zero=>intro n x h;omega
  |succ m e=>
   intro n x hm hn c;cases n with
   |zero=>omega
   |succ n=>exact hB _ x c λz i j=>e n z (by omega) (by omega) i
 exact jR (N:=a x+1) λn hn=>b (a x+1) n x (by omega) hn d
def zKO{X Y:Type}{B:(X->Option Y)->X->Option Y}{x:X}{y:Y}(h:recE B x=some y): ∃n,yh B n x=some y:=by
 replace h:recP B x=some y:=h;unfold recP at h;split at h
 ·rename_i a;injection h with h;obtain⟨N,hN⟩:=a.choose_spec;exact⟨N,by rw[hN N (Db _),h]⟩
 ·cases h
def yN{S X R:Type}{step:S->Option (LO S X R)}: ∀{n m:Nat} {s:S} {x:LX X R},ZP step n s=some x->n<=m->ZP step m s=some x
 |0,_,_,_,h,_=>by cases h
 |n+1,0,_,_,_,hm=>by omega
 |n+1,m+1,s,x,h,hm=>by
  simp only[ZP]at h ⊢;split at h
  ·cases h
  ·exact yN h (by omega)
  ·exact h
  ·exact h
def qM{S X R:Type}{step:S->Option (LO S X R)}{s:S}{x:LX X R}{n:Nat}(h:ZP step n s=some x):Dg step s=some x:=by have a: ∃n x,ZP step n s=some x:=⟨n,x,h⟩;unfold Dg;rw[dif_pos a];have h1:=a.choose_spec.choose_spec;have h2:=yN h (Nat.le_max_left n a.choose);have h3:=yN h1 (Nat.le_max_right n a.choose);rw[h2]at h3;exact h3.symm
def qh {S X R:Type}{step:S->Option (LO S X R)}(Inv:S->Prop)(b:S->Nat)(r:LX X R)
  (h: ∀s,Inv s->(∃a,step s=some (.again a)/\Inv a/\b a<b s)\/(∃x,step s=some (.out x)/\r= .out x)\/(∃y,step s=some (.ret y)/\r= .ret y)) {s:S} (hs:Inv s):Dg step s=some r:=by
 have c: ∀(m:Nat) (s:S),b s<m->Inv s->ZP step m s=some r:=by
  intro m
  induction m with
  |zero=>intro s h;omega
  |succ m d=>
   intro s hm hs;simp only[ZP];rcases h s hs with⟨a,h1,h2,h3⟩|⟨x,h1,h2⟩|⟨y,h1,h2⟩
   ·rw[h1];exact d a (by omega) h2
   ·rw[h1,h2]
   ·rw[h1,h2]
 exact qM (c (b s+1) s (by omega) hs)
def OH{S X R:Type}{step:S->Option (LO S X R)}{s a:S}{r:LX X R}(h:step s=some (.again a))(h': ∃n,ZP step n a=some r): ∃n,ZP step n s=some r:=by obtain⟨n,hn⟩:=h';exact⟨n+1,by simp only[ZP,h];exact hn⟩
def Zt{S X R:Type}{step:S->Option (LO S X R)}{s:S}{k:X->Option R}{x:X}(h:Dg step s=some (.out x)):zM step s k=k x:=by show(Dg step s).bind _=_;rw[h];rfl
def TN{S X R:Type}{step:S->Option (LO S X R)}{s:S}{k:X->Option R}{r:R}(h:Dg step s=some (.ret r)):zM step s k=some r:=by show(Dg step s).bind _=_;rw[h];rfl
@[simp] theorem zf {X R : Type} (x : X) (k : X -> Option R) : zK (some (.out x)) k = k x := rfl
@[simp] theorem zBL {X R : Type} (r : R) (k : X -> Option R) : zK (some (.ret r)) k = some r := rfl
@[simp] theorem Zd {R : Type} (x : Option R) : ck true x = x := rfl
@[simp] theorem zQ {α : Type} (x : Option α) (d : α) : zA true x d = x := rfl
@[simp] theorem ZF {α : Type} (x : Option α) (d : α) : zA false x d = some d := rfl
def zn{R:Type}{b:Bool}(h:b=true)(x:Option R):ck b x=x:=by rw[h];rfl
def LX.go{X R:Type}(r:LX X R)(k:X->Option R):Option R:=match r with| .out x=>k x| .ret y=>some y
@[simp] theorem zOD {X R : Type} (x : X) (k : X -> Option R) : (LX.out x : LX X R).go k = k x := rfl
@[simp] theorem go_ret {X R : Type} (y : R) (k : X -> Option R) : (LX.ret y : LX X R).go k = some y := rfl
def Di{S X R:Type}{step:S->Option (LO S X R)}{s:S}{k:X->Option R}{r:LX X R}(h:Dg step s=some r):zM step s k=r.go k:=by show(Dg step s).bind _=_;rw[h];cases r<;>rfl
def Vj{α A X R:Type}(g:α->A->Option (LO A X R))(b:A->Option (LX X R)):List α->A->Option (LX X R)
 |[],a=>b a
 |v::l,a=>match g v a with
  |none=>none
  |some (.again c)=>Vj g b l c
  |some (.out x)=>some (.out x)
  |some (.ret r)=>some (.ret r)
def zF{α:Type}{l:List α}{i:Nat}(h:i<l.length):cl l (i:Int)=some l[i]:=by
 unfold cl;have h0:decide ((0:Int)<=(i:Int))=true:=by simp
 rw[h0];simp[h]
def zHb {α A X R S:Type}{step:S->Option (LO S X R)}(l:List α)(st:Nat->A->S)(g:α->A->Option (LO A X R))(b:A->Option (LX X R))(Inv:Nat->A->Prop)
  (m: ∀(i:Nat) (a:A) (h:i<l.length),Inv i a->step (st i a)=((g l[i] a).map fun
   | .again c=> .again (st (i+1) c)
   | .out x=> .out x
   | .ret r=> .ret r)/\ ∀c,g l[i] a=some (.again c)->Inv (i+1) c)
  (hf: ∀a,Inv l.length a->step (st l.length a)=(b a).map fun
   | .out x=> .out x
   | .ret r=> .ret r) {a:A} {r:LX X R} (h0:Inv 0 a) (h:Vj g b l a=some r):Dg step (st 0 a)=some r:=by
 have f: ∀(k:Nat) (i:Nat) (a:A),i+k=l.length->Inv i a->Vj g b (l.drop i) a=some r-> ∃n,ZP step n (st i a)=some r:=by
  intro k
  induction k with
  |zero=>
   intro i a hi hI ho;have hi:i=l.length:=by omega
   subst hi;rw[List.drop_length]at ho;refine⟨1,?_⟩;simp only[ZP,hf a hI];simp only[Vj]at ho;rw[ho];cases r<;>rfl
  |succ k p=>
   intro i a hi hI ho;have e:i<l.length:=by omega
   rw[Eb e]at ho;simp only[Vj]at ho;obtain⟨hs,j⟩:=m i a e hI;cases d:g l[i] a with
   |none=>rw[d]at ho;cases ho
   |some o=>
    rw[d]at ho hs;cases o with
    |again c=>exact OH hs (p (i+1) c (by omega) (j c d) ho)
    |out x=>cases ho;exact⟨1,by simp only[ZP];rw[hs];rfl⟩
    |ret y=>cases ho;exact⟨1,by simp only[ZP];rw[hs];rfl⟩
 obtain⟨n,hn⟩:=f l.length 0 a (by omega) h0 (by simpa using h);exact qM hn
def Xz {α A X R S:Type}{step:S->Option (LO S X R)}{k:X->Option R}(l:List α)(st:Nat->A->S)(g:α->A->Option (LO A X R))(b:A->Option (LX X R))(Inv:Nat->A->Prop){s0:S}{a:A}(h0:s0=st 0 a)(hi:Inv 0 a)
  (d: ∀(i:Nat) (a:A) (h:i<l.length),Inv i a->step (st i a)=((g l[i] a).map fun
   | .again c=> .again (st (i+1) c)
   | .out x=> .out x
   | .ret r=> .ret r)/\ ∀c,g l[i] a=some (.again c)->Inv (i+1) c)
  (hf: ∀a,Inv l.length a->step (st l.length a)=(b a).map fun
   | .out x=> .out x
   | .ret r=> .ret r) {r:LX X R} (h:Vj g b l a=some r):zM step s0 k=r.go k:=by
 subst h0;have:=zHb l st g b Inv d hf hi h;exact Di this
def Y8 {α A X R S:Type}{step:S->Option (LO S X R)}{k:X->Option R}(l:List α)(st:Nat->A->S)(g:α->A->Option (LO A X R))(b:A->Option (LX X R)){s0:S}{a:A}(h0:s0=st 0 a)
  (c: ∀(i:Nat) (a:A) (h:i<l.length),step (st i a)=(g l[i] a).map fun
   | .again d=> .again (st (i+1) d)
   | .out x=> .out x
   | .ret r=> .ret r)
  (hf: ∀a,step (st l.length a)=(b a).map fun
   | .out x=> .out x
   | .ret r=> .ret r) {r:LX X R} (h:Vj g b l a=some r):zM step s0 k=r.go k:=
 Xz l st g b (λ_ _=>True) h0 trivial (λi a h _=>⟨c i a h,λ_ _=>trivial⟩) (λa _=>hf a) h
def lw{α A X R:Type}{g:α->A->Option (LO A X R)}{b:A->Option (LX X R)}(f:A->α->A)(c: ∀v a,g v a=some (.again (f a v))): ∀(l:List α) (a:A),Vj g b l a=b (l.foldl f a)
 |[],a=>rfl
 |v::l,a=>by simp only[Vj,c,Xf];exact lw f c l _
def ZX{n:Int}(h1: -9223372036854775808<=n)(h2:n<=9223372036854775807):IntKind.i64.wrap n=n:=IntWalk.i64_in n ⟨h1,h2⟩
def Aw{n m b:Nat}(h:(n+m)*b<=140737488355328):Zm n m b=true:=Ga h
end Go.Lv

namespace Go.Proofs
def Cl.ds:List UInt8->List UInt8
 |[]=>[]
 |13::10::r=>10::Cl.ds r
 |c::r=>bif c==0 then 239::191::189::Cl.ds r else bif c==12||c==13 then 10::Cl.ds r else c::Cl.ds r
end Go.Proofs
namespace Go.Lv
def Bq(s:aE):Option (aE×Int):=some (if 4000<s.length then([],28)else(Proofs.Cl.ds s,0))
def short(l:aE):Bool:=decide (l.length<4294967281)
def Bi(l:aE):Bool:=l.all λb=>decide (b.toNat<128)
def mr(x:aE×aE):Option Int:=ck (short x.1) (some (Lib.index x.1 x.2))
def cutF(x:aE×aE):Option (aE×aE×Bool):=ck (short x.1) (some (Lib.cut x.1 x.2))
def Tm(x:aE×aE):Option aE:=ck (short x.2&&Bi x.2) (some (Lib.trimLeftS x.1 x.2))
def Dq(x:aE×aE):Option aE:=match x.2 with
 |[c]=>ck (decide (c.toNat<128)&&short x.1) (some (Lib.trimRightB x.1 c))
 |_=>none
def lm(x:aE×aE):Option Int:=ck (short x.1&&short x.2&&Bi x.1&&Bi x.2) (some (Lib.indexAny x.1 x.2))
def i64B(n:Int):Bool:=decide (-9223372036854775808<=n)&&decide (n<=9223372036854775807)
def Yl(x:Int×Int):Option aE:=ck (decide (x.2=10)&&i64B x.1) (some (Lib.itoa x.1))
def Nt(x:(Int×Int)×aE):Option aE:=ck (decide (x.1.2=10)&&decide (0<=x.1.1)&&decide (x.1.1<=9223372036854775807)&&short x.2) (some (x.2++Lib.decDigits x.1.1.toNat))
def fv(n:Nat):UInt8:=UInt8.ofNat (if n<10 then 48+n else 87+n)
def j0(n:Nat):aE:=if n<16 then [fv n]else [fv (n / 16),fv (n%16)]
def vv(x:(Int×Int)×aE):Option aE:=ck (decide (x.1.2=16)&&decide (0<=x.1.1)&&decide (x.1.1<256)&&short x.2) (some (x.2++j0 x.1.1.toNat))
open Go.RowKit
def FE(x:aE×Int):Option Int:=some (Lib.indexByte x.1 x.2.toNat.toUInt8)
section
variable {I:Ip} {P:Program} {ι ι':cL} {w w':World}
def zJF{D:Nat->Prop}{u v:Value}(h:cX D w (.at u) v):v=u:=by cases h;rfl
def WU{D:Nat->Prop}{l:List UInt8}{v:Value}(h:cX D w (.str l) v):v= .string ⟨l.toArray⟩:=by cases h;rfl
def IA{T:Nat->Prop}(W:Wf ι w)(g:Below w.heap.size w w'):fW T ι w ι w':=
 ⟨⟨λb s h=>by rw[rO (g.block b (J8 h))];exact h,λb hb=>⟨Mc hb.1 g.size,hb.2⟩,λb hb=>g.block b hb.1⟩,g.os,g.tape,g.output,g.size,λ_ _ _ _ _ e=>g.block _ (W.lt _ _ _ _ e).1,λ_ _=> .inl rfl,λ_ _ _=>rfl,λ_ _=>rfl,λ_ h=>h,λb a=>g.block b (W.xlt b (Cv a))⟩
def zET(W:Wf ι w)(g:Below w.heap.size w w'):Wf ι w':=
 ⟨λid b k n e=>let⟨h1,h2⟩:=W.lt id b k n e;⟨Mc h1 g.size,h2⟩,W.inj,W.glob.step (IA (T:=λ_=>False) W g),λb a=>Mc (W.xlt b a) g.size⟩
def jN(h:w'=w):Below w.heap.size w w':=h▸Below.refl _ _
def fW.trans{T:Nat->Prop}{f ι2:cL}{i j:World}(h:fW T ι w f i)(g:fW T f i ι2 j):fW T ι w ι2 j:=by
 refine⟨⟨λb s e=>g.shape b s (h.shape b s e),λb hb=>g.dom b (h.dom b hb),λb hb=>(g.keep b (h.dom b hb)).trans (h.keep b hb)⟩,g.os.trans h.os,g.tape.trans h.tape,g.output.trans h.output,Jc h.size g.size,λid b k n c e=>(g.own id b k n c ((h.fix id c (by rw[e];simp)).trans e)).trans (h.own id b k n c e),λid h0=> ?_,λid c h0=> ?_,λb d=>(g.xs b (by rw[h.xs b d];exact d)).trans (h.xs b d),λb e=>h.xn b (g.xn b e),λb d=>(g.xkeep b (by rw[h.xs b d];exact d)).trans (h.xkeep b d)⟩
 ·rcases h.slots id h0 with e|e|⟨b,k,n,rows,e1,e2,e3⟩
  ·rcases g.slots id (by rw[e];exact h0)with a|a|⟨b,k,n,rows,e1,e2,e3⟩
   ·exact .inl (a.trans e)
   ·exact .inr (.inl a)
   ·exact .inr (.inr ⟨b,k,n,rows,e▸e1,e2,λv hv=>e3 v (hv.step h.shape)⟩)
  ·rcases g.slots id (by rw[e];simp)with a|a|⟨_,_,_,_,a,_⟩
   ·exact .inr (.inl (a.trans e))
   ·exact .inr (.inl a)
   ·rw[e]at a;cases a
  ·rcases g.slots id (by rw[e2];simp)with a|a|⟨_,_,_,_,a,_⟩
   ·exact .inr (.inr ⟨b,k,n,rows,e1,a.trans e2,λv hv=>(e3 v hv).conv g.toConv⟩)
   ·exact .inr (.inl a)
   ·rw[e2]at a;cases a
 ·rw[g.fix id c (by rw[h.fix id c h0];exact h0),h.fix id c h0]
def fW.wk{T c:Nat->Prop}(a: ∀i,T i->c i)(h:fW T ι w ι' w'):fW c ι w ι' w':={h with own:=λid b k n hn=>h.own id b k n λht=>hn (a id ht),fix:=λid hn=>h.fix id λht=>hn (a id ht),xs:=λb hb=>h.xs b (FN a hb),xkeep:=λb hb=>h.xkeep b (FN a hb)}
def Done.below{a:World}(W:Wf ι w)(g:Below w.heap.size w a){nx:Nat}{res:OR I.C}{v:Value}(h:Done P ι a nx res v w'):Done P ι w nx res v w':=let⟨ι',S,r⟩:=h;⟨ι',(IA W g).trans S,r⟩
def Ps {f:FuncId}{fn:Go.Func}{b a:List Sh}{F:((⟨b,[]⟩:du).sl I).T->Option ((⟨a,[]⟩:du).sl I).T}(hI:cU P I)(c:Ii (⟨f,⟨b,[]⟩,[],⟨a,[]⟩,0,F⟩:Con I)=true)(hf:P.funcs[f]? =some fn)(hn:(fn.name== "runtime.NumGoroutine")=false)(hb:fn.body.isSome=true)
  (h: ∀x y,F x=some y-> ∀ι w vs,Wf ι w->Jh ι w (((⟨b,[]⟩:du).sl I).enc x).1 vs->Calls P f vs w λe w'=> ∃v,e= .returned v/\Below w.heap.size w w'/\de ι w' (resE (((⟨a,[]⟩:du).sl I).enc y).1) v):ZH P (⟨f,⟨b,[]⟩,[],⟨a,[]⟩,0,F⟩:Con I):=
 ⟨c,λ_ _ _=>⟨fn,hf,hn,hb⟩,λx y d ι w vs W j _ hv=>(h x y d ι w vs W hv).mono λe w' ⟨v,k,g,hr⟩=>⟨v,ι,k,IA W g,zET W g,hr,λo ho=>(by
  have:(((⟨a,[]⟩:du).sl I).enc y).2=[]:=List.map_eq_nil_iff.1 ((Gq (P:=P) hI ⟨a,[]⟩).1 y);rw[this]at ho;cases ho),λi _=>j i (Yb i)⟩⟩
def Io{l:aE}{ts:List (ET I.C)}{vs:Array Value}{j:Nat}(h:Jh ι w ts vs)(a:ts[j]? =some (.c (.str l))):vs[j]? =some (.string ⟨l.toArray⟩):=by obtain⟨u,hu,_,hr⟩:=h.2 j _ a;rw[hu,WU (show cX _ _ (.str l) u from hr)]
def Tz{k:IntKind}{n:Int}{ts:List (ET I.C)}{vs:Array Value}{j:Nat}(h:Jh ι w ts vs)(a:ts[j]? =some (.c (.int k n))):vs[j]? =some (.int k n):=by obtain⟨u,hu,_,hr⟩:=h.2 j _ a;rw[hu,zJF (show cX _ _ (.at (.int k n)) u from hr)]
def zQN{vs:Array Value}{a:Value}(hs:vs.size=1)(h0:vs[0]? =some a):vs= #[a]:=by
 apply Array.ext
 ·simp[hs]
 ·intro i hi b;obtain rfl:i=0:=(by omega);exact(Sb.1 h0).2
def Dw{vs:Array Value}{a b:Value}(hs:vs.size=2)(h0:vs[0]? =some a)(h1:vs[1]? =some b):vs= #[a,b]:=by
 apply Array.ext
 ·simp[hs]
 ·intro i hi c;have:i=0\/i=1:=by omega
  rcases this with rfl|rfl
  ·exact(Sb.1 h0).2
  ·exact(Sb.1 h1).2
def Rq(l:aE):cx (I:=I) ι w (.c (.str l)) (.string ⟨l.toArray⟩):=⟨rfl, .str l⟩
def zIo (hI:cU P I){f:FuncId}{fn:Go.Func}(hf:P.funcs[f]? =some fn)(hn:(fn.name== "runtime.NumGoroutine")=false)(hb:fn.body.isSome=true)
  (h: ∀(s:ByteArray) (c:Int) (w:World),Calls P f #[.string s, .int .u8 c] w λe w'=>e= .returned (.int .i64 (Lib.indexByte s.data.toList c.toNat.toUInt8))/\w'=w):
  ZH P (⟨f,⟨[.str, .int .u8],[]⟩,[],⟨[.int .i64],[]⟩,0,FE⟩:Con I):=
 Ps hI rfl hf hn hb λ(l,c) y a ι w vs W hv=>by cases a;obtain rfl:=Dw hv.1 (Io (l:=l) hv rfl) (Tz (k:= .u8) (n:=c) hv rfl);exact(h ⟨l.toArray⟩ c w).mono λe w' ⟨b,d⟩=>⟨_,b,jN d,Ci _ _⟩
end
inductive gl {α β:Type} (R:α->β->Prop):List α->List β->Prop where
 |nil:gl R [] []
 |cons {a:α} {b:β} {l:List α} {m:List β} (h:R a b) (t:gl R l m):gl R (a::l) (b::m)
section
variable {I:Ip} {P:Program}
def zJm{X Y:Type}(B:(X->Option Y)->X->Option Y)(n:Nat):yh B n=Nat.rec (motive:=λ_=>X->Option Y) (λ_=>Option.none) (λ_ S=>B S) n:=by
 induction n with
 |zero=>rfl
 |succ n a=>funext x;show B (yh B n) x=B _ x;rw[a]
def ZH.iter {f:Nat}{inS:du}{cst:List Nat}{outS:du}{k:Nat}(B:((inS.sl I).T->Option (outS.sl I).T)->(inS.sl I).T->Option (outS.sl I).T)
  (a:Ii (⟨f,inS,cst,outS,k,λ_=>Option.none⟩:Con I)=true) (hB: ∀S,ZH P (⟨f,inS,cst,outS,k,S⟩:Con I)->ZH P (⟨f,inS,cst,outS,k,B S⟩:Con I)): ∀n,ZH P (⟨f,inS,cst,outS,k,yh B n⟩:Con I)
 |0=>⟨a,λ_ _ h=>(by cases h),λ_ _ h=>(by cases h)⟩
 |n+1=>hB _ (ZH.iter B a hB n)
def ZH.recE [u:Fu]{f:Nat}{inS:du}{cst:List Nat}{outS:du}{k:Nat}(B:((inS.sl I).T->Option (outS.sl I).T)->(inS.sl I).T->Option (outS.sl I).T)
  (a:Ii (⟨f,inS,cst,outS,k,λ_=>Option.none⟩:Con I)=true) (hB: ∀S,ZH P (⟨f,inS,cst,outS,k,S⟩:Con I)->ZH P (⟨f,inS,cst,outS,k,B S⟩:Con I)):ZH P (⟨f,inS,cst,outS,k,Lv.recE B⟩:Con I):=by
 obtain⟨n⟩:=u;cases n with
 |some n=>exact ZH.iter B a hB n
 |none=>
  exact ZH.recf B a hB λx y h=>by obtain⟨n,hn⟩:=zKO h;exact⟨n,by rw[<-zJm];exact hn⟩
def ZH.le{f:Nat}{inS:du}{cst:List Nat}{outS:du}{k:Nat}{F G:(inS.sl I).T->Option (outS.sl I).T}(h:ZH P (⟨f,inS,cst,outS,k,F⟩:Con I))(hl: ∀x y,G x=some y->F x=some y):ZH P (⟨f,inS,cst,outS,k,G⟩:Con I):=
 ⟨h.wf,λx y e=>h.fn x y (hl x y e),λx y e=>h.ok x y (hl x y e)⟩
end
section
variable {C:Nat->Type}
def d7:IntKind->EV C->Option Int
 | .i8, .int .i8 n=>some n
 | .i16, .int .i16 n=>some n
 | .i32, .int .i32 n=>some n
 | .i64, .int .i64 n=>some n
 | .u8, .int .u8 n=>some n
 | .u16, .int .u16 n=>some n
 | .u32, .int .u32 n=>some n
 | .u64, .int .u64 n=>some n
 |_,_=>none
def WY(a:EV C):Option UInt8:=(d7 .u8 a).bind qj
def Ni:EV C->Option Bool
 | .bool b=>some b
 |_=>none
def dt:EV C->Option aE
 | .str l=>some l
 |_=>none
def j8(u:Nat):EV C->Option (List (C u))
 | .nil=>some []
 | .sl t l=>match Nat.decEq t u with
  | .isTrue h=>some (h▸l)
  | .isFalse _=>none
 |_=>none
def mE{X:Type}(x:X):List (EV C)->Option X
 |[]=>some x
 |_=>none
def mF{A X:Type}(d:EV C->Option A)(k:A->List (EV C)->Option X):List (EV C)->Option X
 |a::r=>(d a).bind λx=>k x r
 |[]=>none
def mB:List (EV C)->Option UInt8
 |[a]=>WY a
 |_=>none
def zSt{X:Type}{x y:X}{cs:List (EV C)}(h:mE x cs=some y):cs=[]/\x=y:=by
 cases cs with
 |nil=>exact⟨rfl,Option.some.inj h⟩
 |cons a r=>cases h
def zSu{A X:Type}{d:EV C->Option A}{k:A->List (EV C)->Option X}{cs:List (EV C)}{y:X}(h:mF d k cs=some y): ∃a r x,cs=a::r/\d a=some x/\k x r=some y:=by
 cases cs with
 |nil=>cases h
 |cons a r=> obtain⟨x,h1,h2⟩:=Ra.1 h;exact⟨a,r,x,rfl,h1,h2⟩
end
section
variable {I:Ip}
structure Dec (I:Ip) (a:EV I.C) (p:PV):Prop where
 u:Nn (I:=I) a=true
 w:WkP (pvE I a) p
def decs{cs:List (EV I.C)}{ps:List PV}(h:gl (Dec I) cs ps):(∀v∈cs,Nn (I:=I) v=true)/\cs.length=ps.length/\ ∀(j:Nat) (a b:PV),(cs.map (pvE I))[j]? =some a->ps[j]? =some b->WkP a b:=by
 induction h with
 |nil=>exact⟨λv hv=>(by cases hv),rfl,λj a b ha=>(by cases ha)⟩
 |cons h1 _ c=>
  refine⟨λv hv=> ?_,congrArg Nat.succ c.2.1,λj a b ha hb=> ?_⟩
  ·rcases ib.1 hv with rfl|hv
   ·exact h1.1
   ·exact c.1 v hv
  ·cases j with
   |zero=>injection ha with ha;injection hb with hb;rw[<-ha,<-hb];exact h1.2
   |succ j=>exact c.2.2 j a b ha hb
def H6{k:IntKind}{a:EV I.C}{x:Int}(h:d7 k a=some x):Dec I a (.at (.int k x)):=by unfold d7 at h;split at h<;>cases h<;>exact⟨rfl, .refl _⟩
def zMo{a:EV I.C}{x:UInt8}(h:WY a=some x):Dec I a (.at (.int .u8 x.toNat)):=by obtain⟨y,h1,h2⟩:=Ra.1 h;have:=zH5 h2;subst this;exact H6 h1
def zTu{cs:List (EV I.C)}{x:UInt8}(h:mB cs=some x):gl (Dec I) cs [.at (.int .u8 x.toNat)]:=by
 unfold mB at h;split at h
 ·exact .cons (zMo h) .nil
 ·cases h
def zMn{a:EV I.C}{x:Bool}(h:Ni a=some x):Dec I a (.at (.bool x)):=by unfold Ni at h;split at h<;>cases h;exact⟨rfl, .refl _⟩
def zPJ{a:EV I.C}{x:aE}(h:dt a=some x):Dec I a (.str x):=by unfold dt at h;split at h<;>cases h;exact⟨rfl, .refl _⟩
def zR1{u:Nat}{a:EV I.C}{x:List (I.C u)}(h:j8 u a=some x):Dec I a (.sl (x.map (I.full u))):=by
 unfold j8 at h;split at h
 ·cases h;exact⟨rfl, .nil⟩
 ·split at h
  ·rename_i e _;subst e;cases h;exact⟨rfl, .refl _⟩
  ·cases h
 ·cases h
end
mutual
/-- How many values and letters there are. -/
def bPV:PV->Nat
 | .at _=>1
 | .str l=>l.length+1
 | .sl rows=>Vn rows+1
 | .ptr cells=>zx cells+1
def Vn:List (List PV)->Nat
 |[]=>0
 |r::rs=>zx r+Vn rs
def zx:List PV->Nat
 |[]=>0
 |c::cs=>bPV c+zx cs
end
mutual
/-- Integers are in their kind's range. -/
def okPV:PV->Prop
 | .at (.int k n)=>k.min<=n/\n<=k.max
 | .at _=>True
 | .str _=>True
 | .sl rows=>ED rows
 | .ptr cells=>qH cells
def ED:List (List PV)->Prop
 |[]=>True
 |r::rs=>qH r/\ED rs
def qH:List PV->Prop
 |[]=>True
 |c::cs=>okPV c/\qH cs
end
def kV: ∀(a b:List PV),zx (a++b)=zx a+zx b
 |[],b=>by simp[zx]
 |x::a,b=>by simp only[Bb,zx,kV a b];omega
def wV: ∀(a b:List PV),qH (a++b)↔qH a/\qH b
 |[],b=>by simp[qH]
 |x::a,b=>by simp only[Bb,qH,wV a b,and_assoc]
structure zOm (bk:{H:Type}->DataW H->Nat):Prop where
 one: ∀{H:Type} (d:DataW H),1<=bk d
 str: ∀{H:Type} (l:List UInt8),bk (DataW.lit (H:=H) (.string l))=l.length+1
 slice: ∀{H:Type} (a b:List (DataW H)),(a.map bk).sum+1<=bk (.slice a b)
 agg: ∀{H:Type} (a:List (DataW H)),(a.map bk).sum+1<=bk (.agg a)
structure IpRd (P:Program) (I:Ip) (G:Nat->Prop):Prop where
 int: ∀t k,G t->P.underlying t=some (.int k)-> ∀n,k.min<=n->n<=k.max-> ∃x:I.C t,I.full t x=[.at (.int k n)]
 bool: ∀t,G t->P.underlying t=some .bool-> ∀b,∃x:I.C t,I.full t x=[.at (.bool b)]
 str: ∀t,G t->P.underlying t=some .string-> ∀l,∃x:I.C t,I.full t x=[.str l]
 sl: ∀t e,G t->P.underlying t=some (.slice e)->G e/\0<P.cellsOf e/\ ∀l:List (I.C e),∃x:I.C t,I.full t x=[.sl (l.map (I.full e))]
 st: ∀t fs,G t->P.underlying t=some (.struct fs)->(∀f∈fs.toList,G f.type)/\(∀(i:Nat) f,fs.toList[i]? =some f->f.offset=((fs.toList.take i).map λf=>P.cellsOf f.type).sum)/\P.cellsOf t=(fs.toList.map λf=>P.cellsOf f.type).sum/\
  ∀pvs:List (List PV),gl (λ(f:Field) p=> ∃y:I.C f.type,I.full f.type y=p) fs.toList pvs-> ∃x:I.C t,I.full t x=pvs.flatten
 only: ∀t u,G t->P.underlying t=some u->(∃k,u= .int k)\/u= .bool\/u= .string\/(∃e,u= .slice e)\/(∃fs,u= .struct fs)
def offs(P:Program):Nat->List (Nat×Nat)->Bool
 |_,[]=>true
 |off,(t,o)::r=>Nat.beq o off&&offs P (off+P.cellsOf t) r
def ek(P:Program)(t:Nat):List (Nat×Nat):=match P.underlying t with
 |some (.struct fs)=>fs.toList.map λf=>(f.type,f.offset)
 |_=>[]
def memI(p:Nat×IntKind):List (Nat×IntKind)->Bool
 |[]=>false
 |q::r=>(Nat.beq p.1 q.1&&decide (p.2=q.2))||memI p r
def memP(p:Nat×Nat):List (Nat×Nat)->Bool
 |[]=>false
 |q::r=>(Nat.beq p.1 q.1&&Nat.beq p.2 q.2)||memP p r
def memT(t:Nat):List Nat->Bool
 |[]=>false
 |q::r=>Nat.beq t q||memT t r
def O5{p:Nat×IntKind}: ∀{l:List (Nat×IntKind)},memI p l=true->p∈l
 |q::r,h=>by
  simp only[memI,Pb,Da,aa]at h;rcases h with⟨h,g⟩|h
  ·rw[show p=q from Prod.ext (ma h) g];exact .head _
  ·exact .tail _ (O5 h)
def M5{p:Nat×Nat}: ∀{l:List (Nat×Nat)},memP p l=true->p∈l
 |q::r,h=>by
  simp only[memP,Pb,Da]at h;rcases h with⟨h,g⟩|h
  ·rw[show p=q from Prod.ext (ma h) (ma g)];exact .head _
  ·exact .tail _ (M5 h)
def NT{p:Nat}: ∀{l:List Nat},memT p l=true->p∈l
 |q::r,h=>by
  simp only[memT,Pb]at h;rcases h with h|h
  ·rw[ma h];exact .head _
  ·exact .tail _ (NT h)
def U1{P:Program}: ∀{l:List (Nat×Nat)} {off:Nat},offs P off l=true-> ∀(i:Nat) p,l[i]? =some p->p.2=off+((l.take i).map λp=>P.cellsOf p.1).sum
 |[],off,_,i,p,h=>by cases h
 |(t,o)::r,off,h,i,p,hi=>by
  simp only[offs,Da]at h;cases i with
  |zero=>cases hi;simpa using ma h.1
  |succ i=> have:=U1 h.2 i p (by simpa using hi);rw[this];simp only[Ld,Xb,xc];omega
def Zp{α β:Type}{R:α->β->Prop}{a:α}{l:List α}{m:List β}(h:gl R (a::l) m): ∃b c,m=b::c/\R a b/\gl R l c:=by
 cases h with
 |cons h t=>exact⟨_,_,rfl,h,t⟩
def Xm{α β:Type}{R:α->β->Prop}{m:List β}(h:gl R [] m):m=[]:=by cases h;rfl
def zEP{α β c:Type}{f:α->c}{R:c->β->Prop}: ∀{l:List α} {m:List β},gl (λa b=>R (f a) b) l m->gl R (l.map f) m
 |[],_,h=>by cases h;exact .nil
 |a::l,_,h=>by
  cases h with
  |cons h t=>exact .cons h (zEP t)
def Lm {P:Program}{I:Ip}{G:Nat->Prop}{t:Nat}{fs:Array Field}(hu:P.underlying t=some (.struct fs)){ft:List (Nat×Nat)}(a:ek P t=ft)(b: ∀p∈ft,G p.1)(ho:offs P 0 ft=true)
  (hs:P.cellsOf t=(ft.map λp=>P.cellsOf p.1).sum) (mk: ∀pvs:List (List PV),gl (λ(p:Nat×Nat) q=> ∃y:I.C p.1,I.full p.1 y=q) ft pvs-> ∃x:I.C t,I.full t x=pvs.flatten):
  (∀f∈fs.toList,G f.type)/\(∀(i:Nat) f,fs.toList[i]? =some f->f.offset=((fs.toList.take i).map λf=>P.cellsOf f.type).sum)/\P.cellsOf t=(fs.toList.map λf=>P.cellsOf f.type).sum/\
  ∀pvs:List (List PV),gl (λ(f:Field) p=> ∃y:I.C f.type,I.full f.type y=p) fs.toList pvs-> ∃x:I.C t,I.full t x=pvs.flatten:=by
 have a:fs.toList.map (λf=>(f.type,f.offset))=ft:=by unfold ek at a;rw[hu]at a;exact a
 refine⟨λf hf=>b (f.type,f.offset) (by rw[<-a];exact Rb.2 ⟨f,hf,rfl⟩),λi f hi=> ?_,?_,λpvs h=>mk pvs ?_⟩
 ·have:=U1 ho i (f.type,f.offset) (by rw[<-a,Ta,hi];rfl);simp only[Gd]at this;rw[this,<-a,<-Pf,Ag];rfl
 ·rw[hs,<-a,Ag];rfl
 ·rw[<-a];exact zEP h
def YF{α β:Type}{g:α->Option β}: ∀{l:List α} {r:List β},l.mapM g=some r->gl (λa b=>g a=some b) l r
 |[],r,h=>by simp only[List.mapM_nil,Option.pure_def,Option.some.injEq]at h;subst h;exact .nil
 |a::l,r,h=>by rw[List.mapM_cons]at h;obtain⟨b,h1,h2⟩:=Ra.1 h;obtain⟨c,h3,h4⟩:=Ra.1 h2;simp only[Option.pure_def,Option.some.injEq]at h4;subst h4;exact .cons h1 (YF h3)
def gl.len{α β:Type}{R:α->β->Prop}{l:List α}{m:List β}(h:gl R l m):l.length=m.length:=by
 induction h with
 |nil=>rfl
 |cons _ _ a=>simp[a]
def gl.at{α β:Type}{R:α->β->Prop}{l:List α}{m:List β}(h:gl R l m): ∀{i:Nat} {a:α},l[i]? =some a-> ∃b,m[i]? =some b/\R a b:=by
 induction h with
 |nil=>intro i a h;cases h
 |cons h t c=>
  intro i a hi;cases i with
  |zero=>cases hi;exact⟨_,rfl,h⟩
  |succ i=>exact c hi
def oh(w:World)(cs:List Value)(pvs:List PV):Prop:=cs.length=pvs.length/\ ∀(j:Nat) v a,cs[j]? =some v->pvs[j]? =some a->cX (λb=>b<w.heap.size) w a v/\v.oneCell'=true
def oh.one{w:World}{v:Value}{a:PV}(h:cX (λb=>b<w.heap.size) w a v)(ho:v.oneCell'=true):oh w [v] [a]:=by
 refine⟨rfl,λj u q hu c=> ?_⟩;cases j with
 |zero=>cases hu;cases c;exact⟨h,ho⟩
 |succ j=>cases hu
def oh.append{w:World}{a b:List Value}{p q:List PV}(h:oh w a p)(g:oh w b q):oh w (a++b) (p++q):=by
 refine⟨by simp[h.1,g.1],λj v c hv hp=> ?_⟩;by_cases d:j<a.length
 ·rw[List.getElem?_append_left d]at hv;rw[List.getElem?_append_left (by rw[<-h.1];exact d)]at hp;exact h.2 j v c hv hp
 ·rw[Ei (by omega)]at hv;rw[Ei (by have:=h.1;omega),<-h.1]at hp;exact g.2 _ v c hv hp
section
variable {P:Program} {I:Ip} {G:Nat->Prop} {bk:{H:Type}->DataW H->Nat}
def bU {H:Type}{D:Nat->List Value->Option (DataW H×List MemPlace)}{w:World}
  (hD: ∀t cs d ps,G t->D t cs=some (d,ps)-> ∃x:I.C t,oh w cs (I.full t x)/\zx (I.full t x)<=bk d/\qH (I.full t x)) (cs:List Value):
  ∀(fs:List Field) (off:Nat) (xs:List (DataW H×List MemPlace)),(∀f∈fs,G f.type)->(∀(i:Nat) f,fs[i]? =some f->f.offset=off+((fs.take i).map λf=>P.cellsOf f.type).sum)->
   gl (λ(f:Field) x=>D f.type ((cs.drop f.offset).take (P.cellsOf f.type))=some x) fs xs->
   ∃pvs:List (List PV),gl (λ(f:Field) p=> ∃y:I.C f.type,I.full f.type y=p) fs pvs/\oh w ((cs.drop off).take ((fs.map λf=>P.cellsOf f.type).sum)) pvs.flatten/\zx pvs.flatten<=((xs.map (·.1)).map bk).sum/\qH pvs.flatten
 |[],off,xs,_,_,h=>by
  cases h;refine⟨[], .nil,⟨by simp,λj v r hv=>by simp at hv⟩,by simp[zx],trivial⟩
 |f::fs,off,xs,b,ho,h=>by
  cases h with
  | @cons _ x _ a h1 h2=>
   obtain⟨d,ps⟩:=x;have h0:f.offset=off:=by have:=ho 0 f rfl;simpa using this
   obtain⟨y,c,s,k⟩:=hD f.type _ d ps (b f (Ub ..)) h1;obtain⟨pvs,l,m,u,n⟩:=bU hD cs fs (off+P.cellsOf f.type) a (λg o=>b g (Vb _ o)) (λi g hi=>by
    have:=ho (i+1) g (by simpa using hi);rw[this];simp only[Ld,Xb,xc];omega) h2
   refine⟨I.full f.type y::pvs, .cons ⟨y,rfl⟩ l,?_,?_,?_⟩
   ·rw[h0]at c;have e:(cs.drop off).take (((f::fs).map λf=>P.cellsOf f.type).sum)=(cs.drop off).take (P.cellsOf f.type)++(cs.drop (off+P.cellsOf f.type)).take ((fs.map λf=>P.cellsOf f.type).sum):=by rw[Xb,xc,List.take_add,ae]
    rw[e,Og];exact c.append m
   ·rw[Og,kV];simp only[Xb,xc];omega
   ·rw[Og];exact(wV _ _).2 ⟨k,n⟩
def zBb{w:World}{a:Addr}{v:Value}(h:w.cell? a=some v):a.spot=none/\a.block<w.heap.size:=by
 unfold World.cell? at h;split at h
 ·rename_i c t fr hb;refine⟨?_,(Sb.1 hb).1⟩;cases hs:a.spot with
  |none=>rfl
  |some s=>rw[hs]at h;cases h
 ·cases h
def zBc{w:World}{a:Addr}{n:Nat}{cs:List Value}(h:w.cells? 0 a n=some cs):cs.length=n/\ ∀(i:Nat) v,cs[i]? =some v->w.cell? (a.add i)=some v:=by
 unfold World.cells? at h;rw[La (Yb _)]at h;have h:=YF h;have hl:=h.len;rw[List.length_range]at hl;refine⟨hl.symm,λi v hv=> ?_⟩;have hi:i<n:=by rw[hl];exact(Ua.1 hv).1
 obtain⟨b,h1,h2⟩:=h.at (i:=i) (a:=i) (by rw[List.getElem?_range hi]);rw[hv]at h1;cases h1;exact h2
def zHI{a:Addr}(n m:Nat)(h:(a.add n).spot=none):(a.add n).add m=⟨a.block,a.off+n+m,none⟩/\a.block=(a.add n).block:=by
 obtain⟨b,o,s⟩:=a;by_cases hn:n=0
 ·subst hn;have e:(⟨b,o,s⟩:Addr).add 0=⟨b,o,s⟩:=La rfl;rw[e]at h ⊢;have h:s=none:=h;subst h;refine⟨?_,rfl⟩;unfold Addr.add;by_cases hm:m=0
  ·subst hm;rw[La rfl];rfl
  ·rw[Ka hm];rfl
 ·have e:(⟨b,o,s⟩:Addr).add n=⟨b,o+n,none⟩:=Ka hn;rw[e];refine⟨?_,rfl⟩;unfold Addr.add;by_cases hm:m=0
  ·subst hm;rw[La rfl];rfl
  ·rw[Ka hm]
def J3 {w:World}{e k:Nat}{a:Addr}{H:Type}{D:List Value->Option (DataW H×List MemPlace)}(hk:0<k)
  (hD: ∀cs d ps,D cs=some (d,ps)-> ∃x:I.C e,oh w cs (I.full e x)/\zx (I.full e x)<=bk d/\qH (I.full e x)) (hI: ∀x:I.C e,(I.full e x).length=k):
  ∀(n s:Nat) (r:List (DataW H×List MemPlace)),gl (λi x=>(w.cells? 0 (a.add (i*k)) k).bind D=some x) (List.range' s n) r->
   ∃l:List (I.C e),l.length=n/\Vn (l.map (I.full e))<=((r.map (·.1)).map bk).sum/\ED (l.map (I.full e))/\
    ∀(i:Nat) x (j:Nat) c,l[i]? =some x->(I.full e x)[j]? =some c-> ∃v,w.cell? ⟨a.block,a.off+(s+i)*k+j,none⟩=some v/\cX (λb=>b<w.heap.size) w c v/\v.oneCell'=true
 |0,s,r,h=>by
  cases h;exact⟨[],rfl,by simp[Vn],trivial,λi x j c h=>by cases h⟩
 |n+1,s,r,h=>by
  rw[List.range'_succ]at h;cases h with
  | @cons _ x _ t h1 h2=>
   obtain⟨cs,u,A⟩:=Ra.1 h1;obtain⟨d,ps⟩:=x;obtain⟨y,o,W,E⟩:=hD cs d ps A;obtain⟨l,l1,l2,F,J⟩:=J3 hk hD hI n (s+1) t h2;obtain⟨c1,c2⟩:=zBc u;refine⟨y::l,by simp[l1],?_,⟨E,F⟩,λi z j c p hp=> ?_⟩
   ·simp only[Xb,Vn,xc];omega
   ·cases i with
    |zero=>
     cases p;have L:j<cs.length:=by rw[o.1];exact(Ua.1 hp).1
     have hv:cs[j]? =some cs[j]:=Na L;obtain⟨M,O⟩:=o.2 j _ _ hv hp;have hc:=c2 j _ hv;have h0:=c2 0 cs[0] (Na (by omega));have f:=(zBb h0).1;have m:(a.add (s*k)).spot=none:=by have e0:(a.add (s*k)).add 0=a.add (s*k):=La rfl;rw[e0]at f;exact f
     refine⟨_,?_,M,O⟩;rw[Od,<-(zHI (s*k) j m).1];exact hc
    |succ i=> obtain⟨v,Q,U,V⟩:=J i z j c p hp;refine⟨v,?_,U,V⟩;rw[show s+(i+1)=s+1+i by omega];exact Q
def zTk{n:Int}(h1:IntKind.u8.min<=n)(h2:n<=IntKind.u8.max):[PV.at (.int .u8 (((UInt8.ofNat n.toNat).toNat:Nat):Int))]=[PV.at (.int .u8 n)]:=by
 have h1:(0:Int)<=n:=h1;have h2:n<=255:=h2;rw[UInt8.toNat_ofNat'];have:((n.toNat%2 ^ 8:Nat):Int)=n:=by omega
 rw[this]
def reads(hI:cU P I)(M:IpRd P I G)(hb:zOm bk){H:Type}(enc:TypeId×Value->H)(w:World):
  ∀(o:Nat) (t:Nat) (cs:List Value) (d:DataW H) (ps:List MemPlace),G t->DataW.trod enc P w 0 (λ_=>true) true o t cs=some (d,ps)-> ∃x:I.C t,oh w cs (I.full t x)/\zx (I.full t x)<=bk d/\qH (I.full t x):=by
 intro o
 induction o with
 |zero=>intro t cs d ps _ h;cases h
 |succ o ih=>
  intro t cs d ps O h;simp only[DataW.trod]at h;cases hu:P.underlying t with
  |none=>rw[hu]at h;simp at h
  |some u=>
   rw[hu]at h;rcases M.only t u O hu with⟨k,rfl⟩|rfl|rfl|⟨e,rfl⟩|⟨fs,rfl⟩
   ·split at h<;>(try (rename_i p;cases p;done))<;>(try (rename_i p _;cases p;done))<;>(try (cases h;done));rename_i k0 k' n p;cases p;split at h
    ·rename_i hc;cases h;obtain⟨rfl,J⟩:=hc;have y:=J;simp only[Lit.wf,Da,aa]at y;obtain⟨x,m⟩:=M.int t _ O hu n y.1 y.2;refine⟨x,?_,?_,?_⟩
     ·rw[m];exact oh.one (.at _ rfl) rfl
     ·rw[m];simp only[zx,bPV];exact hb.one _
     ·rw[m];simp only[Lit.wf,Da,aa]at J;exact⟨J,trivial⟩
    ·cases h
   ·split at h<;>(try (rename_i p;cases p;done))<;>(try (rename_i p _;cases p;done))<;>(try (cases h;done));cases h;rename_i b _;obtain⟨x,m⟩:=M.bool t O hu b;refine⟨x,by rw[m];exact oh.one (.at _ rfl) rfl,by rw[m];simp only[zx,bPV];exact hb.one _,by rw[m];exact⟨trivial,trivial⟩⟩
   ·split at h<;>(try (rename_i p;cases p;done))<;>(try (rename_i p _;cases p;done))<;>(try (cases h;done));rename_i s _;split at h
    ·cases h;obtain⟨x,m⟩:=M.str t O hu s.data.toList;refine⟨x,?_,?_,by rw[m];exact⟨trivial,trivial⟩⟩
     ·rw[m];have:Value.string s= .string ⟨s.data.toList.toArray⟩:=by cases s;simp
      rw[this];exact oh.one (.str _) rfl
     ·rw[m];simp only[zx,bPV,hb.str];omega
    ·cases h
   ·obtain⟨ge,hk,E⟩:=M.sl t e O hu;split at h<;>(try (rename_i p;cases p;done))<;>(try (rename_i p _;cases p;done))<;>(try (cases h;done))
    ·cases h;obtain⟨x,m⟩:=E [];refine⟨x,?_,?_,by rw[m];exact⟨trivial,trivial⟩⟩
     ·rw[m];exact oh.one (.sl [] none 0 0 0 0 0 (λ_ _=>undef) rfl (Db _) (λh=>by omega) (λh=>by omega) (λr hr=>by cases hr) (λi row j x h=>by cases h) (λi row j x h=>by cases h)) rfl
     ·rw[m];simp only[Ye,zx,bPV,Vn];exact hb.one _
    ·rename_i e' a len cap p;cases p;split at h
     ·rename_i hc;obtain⟨A,h1,h2⟩:=Ra.1 h;obtain⟨rest,h3,h4⟩:=Sa.1 h2;cases h4;have h1:=YF h1;rw[List.range_eq_range']at h1;obtain⟨l,l1,l2,l3,l4⟩:=J3 (I:=I) (bk:=bk) (w:=w) (e:=e) (a:=a) hk (λcs d ps hd=>ih e cs d ps ge hd) (λx=>hI.len e x) len 0 A h1;obtain⟨x,m⟩:=E l;refine⟨x,?_,?_,?_⟩
      ·rw[m];have F: ∀i x j U,l[i]? =some x->(I.full e x)[j]? =some U-> ∃v,w.cell? ⟨a.block,a.off+i*P.cellsOf e+j,none⟩=some v/\cX (λb=>b<w.heap.size) w U v:=λi x j U h1 h2=>by obtain⟨v,Q,Y,_⟩:=l4 i x j U h1 h2;exact⟨v,by simpa using Q,Y⟩
       have Z:0<len-> ∃v,w.cell? (a.add (0*P.cellsOf e))=some v:=by intro hl;have h0:=h1.at (i:=0) (a:=0) (by rw[<-List.range_eq_range',List.getElem?_range hl]);obtain⟨b,_,a3⟩:=h0;obtain⟨cs,g1,_⟩:=Ra.1 a3;obtain⟨c1,c2⟩:=zBc g1;have h0:=c2 0 (cs[0]'(by omega)) (Na (by omega));have e0:(a.add (0*P.cellsOf e)).add 0=a.add (0*P.cellsOf e):=La rfl;rw[e0]at h0;exact⟨_,h0⟩
       have ha:0<len->a=⟨a.block,a.off,none⟩/\a.block<w.heap.size:=by intro hl;obtain⟨v,hv⟩:=Z hl;rw[Uf]at hv;have e0:a.add 0=a:=La rfl;rw[e0]at hv;obtain⟨V,W⟩:=zBb hv;refine⟨?_,W⟩;cases a;simp only at V;subst V;rfl
       refine oh.one (.sl _ (some a) len cap (P.cellsOf e) a.block a.off (λi j=>(w.cell? ⟨a.block,a.off+i*P.cellsOf e+j,none⟩).getD undef) (by simp[l1]) hc.2.1 (λhl=>congrArg some (ha hl).1) (λhl=>(ha hl).2) (λrow hr=> ?_) (λi row j x hi hj=> ?_) (λi row j x hi hj=> ?_)) rfl
       ·obtain⟨z,_,rfl⟩:=Rb.1 hr;exact hI.len e z
       ·rw[Ta]at hi;cases L:l[i]? with
        |none=>rw[L]at hi;cases hi
        |some z=> rw[L]at hi;cases hi;obtain⟨v,Q,_⟩:=F i z j x L hj;rw[Q];rfl
       ·rw[Ta]at hi;cases L:l[i]? with
        |none=>rw[L]at hi;cases hi
        |some z=> rw[L]at hi;cases hi;obtain⟨v,Q,Y⟩:=F i z j x L hj;rw[Q];exact Y
      ·rw[m];simp only[zx,bPV];have:=hb.slice (A.map (·.1)) (rest.map (·.1));omega
      ·rw[m];exact⟨l3,trivial⟩
     ·cases h
   ·obtain⟨gf,ho,a6,E⟩:=M.st t fs O hu;have h:(if cs.length=P.cellsOf t then(fs.toList.mapM λf=>DataW.trod enc P w 0 (λ_=>true) true o f.type ((cs.drop f.offset).take (P.cellsOf f.type))).map λxs=>(DataW.agg (xs.map (·.1)),xs.flatMap (·.2))else none)=some (d,ps):=by
     revert h;cases cs with
     |nil=>exact id
     |cons c cs=>
      cases cs with
      |nil=>cases c<;>exact id
      |cons c' cs=>exact id
    split at h
    ·rename_i hl;obtain⟨xs,h1,h2⟩:=Sa.1 h;cases h2;obtain⟨pvs,V,W,q3,q4⟩:=bU (P:=P) (I:=I) (G:=G) (bk:=bk) (D:=DataW.trod enc P w 0 (λ_=>true) true o) (w:=w) (λt cs d ps=>ih t cs d ps) cs fs.toList 0 xs gf (λi f hi=>by rw[ho i f hi];omega) (YF h1);obtain⟨x,m⟩:=E pvs V;refine⟨x,?_,?_,by rw[m];exact q4⟩
     ·rw[m];rw[Gi,<-a6,<-hl,Xc]at W;exact W
     ·rw[m];have:=hb.agg (xs.map (·.1));omega
    ·cases h
end
open Go.RowKit Go.ChangeShapes Go.WideShapes
section
variable {P:Program} {I:Ip}
def noA:cL:=⟨λ_=> .free,λ_=> .no⟩
def zRa{W:World}{a:PV}{v:Value}(h:cX (λb=>b<W.heap.size) W a v):cX (fm noA W) W a v:=
 h.mono (λb hb=>⟨hb,rfl,λid k n e=>by cases e⟩) (λb _=>rfl)
def SY{W:World}{r:Reach}{base:Nat}{t:TypeId}{v:Value}{fs:Array Field}{xs:List (EV I.C)}(c:(xs.all Nn)=true)(hu:P.underlying t=some (.struct fs))(a:Value.okWide P W r base t v)(hr:oh W v.cells.toList (xs.map (pvE I))):cx noA W (.agg xs) v:=by
 unfold Value.okWide at a;rw[hu]at a;obtain⟨cs,rfl,_,_⟩:=a;have hr:oh W cs.toList (xs.map (pvE I)):=hr;refine⟨cs,rfl,by have:=hr.1;simpa using this,λj x b=> ?_⟩;have hl:j<cs.toList.length:=by rw[hr.1,Xa];exact(Ua.1 b).1
 have hv:cs.toList[j]? =some cs.toList[j]:=Na hl;obtain⟨h1,h2⟩:=hr.2 j _ (pvE I x) hv (by rw[Ta,b];rfl);exact⟨_,by rw[<-Re];exact hv,h2,(Cj (Ya.1 c x (Ob b))).2 (zRa h1)⟩
def zLS{W:World}:Jh (I:=I) noA W [] #[]:=⟨rfl,λj t h=>by cases h⟩
def zAC{W:World}{t:ET I.C}{ts:List (ET I.C)}{v:Value}{vs:List Value}(h:cx noA W t v)(g:Jh noA W ts vs.toArray):Jh noA W (t::ts) (v::vs).toArray:=by
 refine⟨by have:=g.1;simpa using this,λj x a=> ?_⟩;cases j with
 |zero=>cases a;exact⟨v,by simp,h⟩
 |succ j=> obtain⟨u,h1,h2⟩:=g.2 j x (by simpa using a);exact⟨u,by simpa using h1,h2⟩
def zJA {con:Con I}(hc:ZH P con){x:(con.inS.sl I).T}{y:(con.outS.sl I).T}(m:con.F x=some y){b:Bool}(p:((con.outS.sl I).enc y).1=[.c (.bool b)])(l:((con.inS.sl I).enc x).2=[])
  {W:World} {vs:Array Value} (r:Glob (fm noA W) W) (a:Jh noA W ((con.inS.sl I).enc x).1 vs):
  Calls P con.f vs W λe d=>e= .returned (.bool b)/\Below W.heap.size W d:=by
 refine(hc.ok x y m noA W vs ⟨λi b k n e=>(by cases e),λi j b k k' n n' e=>(by cases e),r,λb hb=>absurd rfl hb⟩ (λ_ _=>rfl) (λo h=>by rw[l]at h;cases h) a).mono λe d ⟨v,ι',s,S,_,hr,_,_⟩=> ?_;rw[p]at hr;have hv:cX (fm ι' d) d (.at (.bool b)) v:=hr.2;cases hv;exact⟨s,S.os,S.tape,S.output,S.size,λk hk=>S.keep k ⟨hk,rfl,λid k n e=>by cases e⟩⟩
def zM1 {H:Type}{enc:TypeId×Value->H}{f:Func}{s:ChangeSpec}{c fresh d again:Bool}{W m:World}{args:Array Value}{j k:List (DataW H)}{a pa:List MemPlace}{tb:TypeId}
  (x:DataW.Whole enc P f.params.toList s.vars c W args.toList j k a) (l:s.vars=[]) (n:f.resultTypes= #[tb]) (o:P.underlying tb=some .bool)
  (r:(s.fn H (j++k)).results=[.lit (.bool true)]) (y:(s.fn H (j++k)).vars=[])
  (e: ∀sp:Nat->Bool,(∀p∈a,sp p.block=true)->DataW.TrodAll enc P m 0 sp true f.params.toList args.toList (s.fn H (j++k)).args pa)
  (i:a=pa) (hb:Below W.heap.size W m):s.post enc P f c fresh d again W args (.bool true) m:=by
 have t: ∀p∈a,p.block<W.heap.size:=λp hp=>x.lt p hp;have u: ∀p∈a,(λb=>decide (b<W.heap.size)) p.block=true:=λp hp=>by simpa using t p hp
 have hr: ∀(b:Nat) (sp:Nat->Bool) (A:Bool),DataW.TrodAll enc P m b sp A f.resultTypes.toList ((Value.bool true).resultList f.resultTypes.size) (s.fn H (j++k)).results []:=by intro b sp A;rw[n,r];exact trodAll_cons_mk (shut_bool o _) trodAll_mk0
 have hv: ∀sp:Nat->Bool,DataW.TrodVars enc P m sp s.vars (s.fn H (j++k)).vars []:=by intro sp;rw[l,y];exact rfl
 refine⟨j,k,a,[],pa,[],x,hr _ _ _,e _ u,hv _,World.keptBut_mono (λp hp=>⟨hp, .inr (.inl (by rw[<-i];exact hp))⟩) (hb.frame (· ∈a)),λ_=> ?_⟩;obtain⟨_,_,_,_,_,E,hn⟩:=x;refine⟨ok_one n rfl (okWide_bool_mk o _),_,_,([]++pa)++[],⟨[]++pa,[],trodAll_append (e _ (λ_ _=>rfl)) (hr _ _ _),hv _,rfl,?_,?_⟩,?_⟩
 ·intro b off hp;have v:MemPlace.cell b off∈a:=by rw[i];simpa using hp
  rw[hb.frozen (t _ v)];exact E b off v
 ·intro ha;have:=hn ha;rw[i]at this;simpa using this
 ·intro p hp _;rw[i];simpa using hp
def SV{H:Type}{enc:TypeId×Value->H}(hl:laidOutB P=true){W k:World}(hb:Below W.heap.size W k)(sp:Nat->Bool): ∀(ts:List TypeId) (vs:List Value) (b:List (DataW H)) (ps:List MemPlace),(∀t∈ts,P.readableRec t=true/\t<P.types.size)->
  DataW.TrodAll enc P W 0 (λ_=>true) true ts vs b ps->(∀x∈ps,x.block<W.heap.size)->(∀x∈ps,sp x.block=true)->DataW.TrodAll enc P k 0 sp true ts vs b ps
 |[],vs,b,ps,_,h,_,_=>by
  cases vs<;>cases b<;>first|exact h|(cases h;done)
 |t::ts,vs,b,ps,ht,h,c,e=>by obtain⟨v,f,d,i,p,q,rfl,rfl,rfl,h1,h2⟩:=trodAll_cons h;have h3:=SV hl hb sp ts f i q (λt j=>ht t (Vb _ j)) h2 (λx a=>c x (List.mem_append_right _ a)) (λx a=>e x (List.mem_append_right _ a));obtain⟨l,m⟩:=ht t (Ub ..);exact⟨p,q,WideElems.Trod_stays hl l m h1 (λx a=>hb.same (c x (Xe _ a))) (λx a=>e x (Xe _ a)),h3,rfl⟩
end
def Le{α:Type}(a b:Option α):Prop:= ∀y,a=some y->b=some y
def Le.rfl{α:Type}{a:Option α}:Le a a:=λ_ h=>h
def Le.none{α:Type}{b:Option α}:Le none b:=λ_ h=>by cases h
def Le.bind{α β:Type}{a b:Option α}{f c:α->Option β}(h:Le a b)(hf: ∀x,Le (f x) (c x)):Le (za a f) (za b c):=by
 intro y d;cases a with
 |none=>cases d
 |some x=>rw[h x _root_.rfl];exact hf x y d
def Le.bif{α:Type}{c:Bool}{a d b e:Option α}(h:Le a d)(h':Le b e):Le (bif c then a else b) (bif c then d else e):=by
 cases c
 ·exact h'
 ·exact h
def Le.need{α:Type}{c:Bool}{a b:Option α}(h:Le a b):Le (Lv.ck c a) (Lv.ck c b):=by
 cases c
 ·exact Le.rfl
 ·exact h
def Le.cond{α:Type}{c:Bool}{a b:Option α}{d:α}(h:Le a b):Le (zA c a d) (zA c b d):=by
 cases c
 ·exact Le.rfl
 ·exact h
def Le.map{α β:Type}{a b:Option α}{f:α->β}(h:Le a b):Le (Option.map f a) (Option.map f b):=by
 intro y c;cases a with
 |none=>cases c
 |some x=>rw[h x _root_.rfl];exact c
def Le.join{X R:Type}{a c:Option (LX X R)}{k k':X->Option R}(h:Le a c)(hk: ∀x,Le (k x) (k' x)):Le (zK a k) (zK c k'):=by
 intro y b;cases a with
 |none=>cases b
 |some x=>
  rw[h x _root_.rfl];cases x with
  |out x=>exact hk x y b
  |ret r=>exact b
def lX(n:Nat){S X R:Type}(step:S->Option (LO S X R))(s:S)(k:X->Option R):Option R:=
 match ZP step n s with
 |some (.out x)=>k x
 |some (.ret r)=>some r
 |none=>none
def eF{S X R:Type}{step a:S->Option (LO S X R)}(h: ∀s,Le (step s) (a s)): ∀(n:Nat) (s:S),Le (ZP step n s) (ZP a n s)
 |0,_=>Le.none
 |n+1,s=>by
  intro y b;simp only[ZP]at b ⊢;cases hs:step s with
  |none=>rw[hs]at b;cases b
  |some o=>
   rw[hs]at b;rw[h s o hs];cases o with
   |again c=>exact eF h n c y b
   |out x=>exact b
   |ret r=>exact b
def Le.loop{n:Nat}{S X R:Type}{step a:S->Option (LO S X R)}{s:S}{k k':X->Option R}(h: ∀s,Le (step s) (a s))(hk: ∀x,Le (k x) (k' x)):Le (lX n step s k) (zM a s k'):=by
 intro y b;unfold lX at b;cases hi:ZP step n s with
 |none=>rw[hi]at b;cases b
 |some x=>
  rw[hi]at b;rw[Di (qM (eF h n s x hi))];cases x with
  |out x=>exact hk x y b
  |ret r=>exact b
def Le.loopU{S X R:Type}{step a:S->Option (LO S X R)}{s:S}{k k':X->Option R}(h: ∀s,Le (step s) (a s))(hk: ∀x,Le (k x) (k' x)):Le (@zM fuK S X R step s k) (@zM pl S X R a s k'):=by
 intro y b;replace b:(ZP step 1000 s).bind (λx=>match x with| .out x=>k x| .ret r=>some r)=some y:=b;cases hi:ZP step 1000 s with
 |none=>rw[hi]at b;cases b
 |some x=>
  rw[hi]at b;rw[Di (qM (eF h _ s x hi))];cases x with
  |out x=>exact hk x y b
  |ret r=>exact b
def Le.rec{X Y:Type}{B a:(X->Option Y)->X->Option Y}(h: ∀(S S':X->Option Y),(∀x,Le (S x) (S' x))-> ∀x,Le (B S x) (a S' x))(n:Nat)(x:X):Le (yh B n x) (recE a x):=by
 have b: ∀(n k:Nat),n<=k-> ∀x,Le (yh B n x) (yh a k x):=by
  intro n
  induction n with
  |zero=>intro k _ x;exact Le.none
  |succ n c=>
   intro k hk x;cases k with
   |zero=>omega
   |succ k=>exact h _ _ (c k (by omega)) x
 intro y d;exact jR (N:=n) λk hk=>b n k hk x y d
variable {I:Ip}
def zRu{s:Shp I}{r:VL I}{n:Nat}(h: ∀x,(r.enc x).length=n): ∀x,((VL.cons s r).enc x).length=n+1:=by obtain⟨T,u,d,e,m⟩:=s;obtain⟨f,a,c,b,g⟩:=r;cases u<;>cases a<;>intro x<;>exact congrArg (· +1) (h _)
def bZ: ∀(l:List Sh) (x:(el I l).T),((el I l).enc x).length=l.length
 |[],_=>rfl
 |s::l,x=>zRu (s:=s.shp I) (bZ l) x
def zTb(s:du): ∀x:(s.sl I).T,((s.sl I).enc x).1.length=s.vals.length:=by have h:=bZ (I:=I) s.vals;unfold du.sl;revert h;generalize el I s.vals=v;generalize fY I s.objs=o;obtain⟨T,u,d,e,m⟩:=v;obtain⟨f,a,c,b,g⟩:=o;cases u<;>cases a<;>intro h x<;>exact h _
def zt{Q:Con I->Prop}: ∀c∈([]:List (Con I)),Q c:=λc h=>by cases h
def ci{Q:Con I->Prop}{a:Con I}{l:List (Con I)}(h:Q a)(g: ∀c∈l,Q c): ∀c∈a::l,Q c:=λc b=>by
 grind
def chk(con:Con I)(A:Env0 I)(f:Go.Func):Bool:=Ii con&&(f.body.isSome&&(!(f.name== "runtime.NumGoroutine")&&(A.p==con.inS.objs.length&&Nat.ble con.inS.vals.length f.ntmps)))
def okC0 {P:Program}{T:TT}{b:List (Nat×List Kd)}(a:P.follows .mixedOrders=true)(g:cU P I)(n:g8 P T b){con:Con I}{f:Go.Func}{A:Env0 I}{exS:du}{c:Code}{rs:List ResultVar}(q:c=match f.body with|some c=>c|none=> .skip)(i:rs=f.results.toList)
  (e: ∀c∈A.S,ZH P c) (l:P.funcs[con.f]? =some f) (h:chk con A f=true) (m: ∀x,evF2 A T b f.ntmps rs c con exS x=con.F x):ZH P con:=by
 unfold chk at h;simp only[Da]at h;obtain⟨d,o,k,j,p⟩:=h;refine zxX (exS:=exS) a g e d n l ?_ ?_ (by simpa using k) (Fb.1 j) (λx=>by rw[zTb];simp_all) (λx y h=>(m x).trans h)
 ·grind
 ·rw[i]
section
variable {P:Program} {I:Ip}
def zIn (hI:cU P I){f t:Nat}{vals:List Sh}{F:((⟨vals,[]⟩:du).sl I).T->Option (List (I.C t))}(m:Ii (⟨f,⟨vals,[]⟩,[],⟨[.sl t],[]⟩,0,F⟩:Con I)=true)
  (h:ZH P (⟨f,⟨vals,[]⟩,[],⟨[.own 0],[(0, .sl t)]⟩,1,F⟩:Con I)):ZH P (⟨f,⟨vals,[]⟩,[],⟨[.sl t],[]⟩,0,F⟩:Con I):=
 ⟨m,h.fn,λx y p ι w vs W a l hv=>(h.ok x y p ι w vs W a l hv).mono λe w' ⟨v,ι',u,S,r,hr,ho,_⟩=>by
  obtain⟨s,d⟩: ∃s:List (I.C t),s=y:=⟨y,rfl⟩;replace hr:cx (I:=I) ι' w' (.c (.own 0)) v:=by subst d;exact hr
  replace ho:Qu P ι' w' 0 (.sl t s):=by subst d;exact ho _ (Ub ..)
  obtain⟨b,e1,hb⟩:=(Zu rfl).1 ho;have dom: ∀b,fm ι' w' b->fm ⟨λ_=> .free,ι'.X⟩ w' b:=λb hb=>⟨hb.1,hb.2.1,λi k n e=>by cases e⟩;refine⟨v,⟨λ_=> .free,ι'.X⟩,u,⟨⟨S.shape,λb hb=>dom b (S.dom b hb),S.keep⟩,S.os,S.tape,S.output,S.size,λi b k n _ e=>(by rw[a i (Yb i)]at e;cases e),λi h0=>absurd (a i (Yb i)) h0,λi _ h0=>absurd (a i (Yb i)) h0,S.xs,S.xn,S.xkeep⟩,
   ⟨λi b k n e=>(by cases e),λi j b k k' n n' e=>(by cases e),λq A=>let⟨h1,h2⟩:=r.glob q A;⟨dom _ h1,h2⟩,r.xlt⟩,?_,λo ho=> ?_,λi _=>rfl⟩
  ·obtain⟨h1,h2⟩:=hr;have h2:li ι' w' (ι' 0) none v:=h2;rw[e1]at h2;subst d;exact⟨h1,JE hI dom hb (λL e=>by
    subst e;obtain⟨E,J⟩:=r.lt _ _ _ _ e1;exact⟨E,J,λi k n e=>by cases e⟩) rfl (by simp[Zl]) h2⟩
  ·cases ho⟩
end
end Go.Lv
