/- The primitives of the plain texts of functions, and their laws. -/
import Derived.Test.YtagibnnojbolnaaGreatDoorLa
import Derived.IntWalk
import Derived.Lib.Index
import Derived.Lib.IndexMore
import Derived.Lib.IndexAny
import Derived.Lib.SlTrimSet
import Derived.Lib.TrimByte
import Derived.Lib.ItoaNum
import Derived.Lib.ParseIntB
import Derived.Test.YtagibnnojbolnaaGreatDoorLe
import Derived.Below
import Derived.Lib.Strings
import Derived.Lib.Bytealg
import GoSem.ClaimChange
import Derived.ChangeSame
import Derived.Carry
import Derived.ProofKit
import Derived.OpenShut
noncomputable section
set_option linter.unusedSimpArgs false
set_option linter.unusedVariables false
namespace Go.Lv
abbrev Str:=List UInt8
abbrev w8(n:Int):Int:=IntKind.i8.wrap n
abbrev w32(n:Int):Int:=IntKind.i32.wrap n
abbrev w64(n:Int):Int:=IntKind.i64.wrap n
abbrev wu8(n:Int):Int:=IntKind.u8.wrap n
abbrev wu32(n:Int):Int:=IntKind.u32.wrap n
def Wi(k:IntKind)(x y:Int):Int:=k.wrap (BitVec.ofInt k.bits x &&& BitVec.ofInt k.bits y).toNat
def ibOr(k:IntKind)(x y:Int):Int:=k.wrap (BitVec.ofInt k.bits x ||| BitVec.ofInt k.bits y).toNat
def VA(k:IntKind)(x y:Int):Int:=k.wrap (x*2 ^ (min y.toNat k.bits))
def Wh(k:IntKind)(x y:Int):Int:=x.fdiv (2 ^ (min y.toNat k.bits))
def QN(n:Int):Option UInt8:=cond (decide (0<=n)&&decide (n<=255)) (some (UInt8.ofNat n.toNat)) none
theorem zFG{n:Int}{b:UInt8}(h:QN n=some b):n=((b.toNat:Nat):Int):=by
 unfold QN at h;cases hc:(decide (0<=n)&&decide (n<=255))with
 |false=>rw[hc]at h;cases h
 |true=> rw[hc]at h;simp only[Da,ja]at hc;injection h with h;subst h;rw[UInt8.toNat_ofNat'];omega
@[simp] theorem zIY (b : UInt8) : QN ((b.toNat : Nat) : Int) = some b := by
 unfold QN;have:=Gd b;have h:(decide ((0:Int)<=((b.toNat:Nat):Int))&&decide (((b.toNat:Nat):Int)<=255))=true:=by simp only[Da,ja];omega
 rw[h];simp
abbrev za{α β:Type}(x:Option α)(f:α->Option β):Option β:=x.bind f
class Fu where
 n:Option Nat
instance (priority:=low) pl:Fu:=⟨none⟩
abbrev fuK:Fu:=⟨some 1000⟩
def zU[Fu]{S X R:Type}(step:S->Option (LO S X R))(s:S)(k:X->Option R):Option R:=
 (UM Fu.n step s).bind fun
 | .out x=>k x
 | .ret r=>some r
def Zi{X R:Type}(m:Option (LX X R))(k:X->Option R):Option R:=
 m.bind fun
 | .out x=>k x
 | .ret r=>some r
def Nw(k:Nat){α:Type}(x:List α):Option (List α):=bif x.isEmpty then both (some []) (need (ZB 0 x.length k)<|some x)else need (ZB 0 x.length k)<|some x
theorem BD(k:Nat){α:Type}(x:List α)(y:List α)(h:need (ZB 0 x.length k) (some x)=some y):Nw k x=some y:=by
 cases x with
 |nil=> have e:ZB 0 ([]:List α).length k=true:=Fa (by simp);rw[e]at h;show both (some []) (need (ZB 0 ([]:List α).length k) (some []))=some y;rw[e];show both (some []) (some [])=some y;unfold both;rw[Sa rfl];exact h
 |cons a r=>exact h
def Oh{X Y:Type}(B:(X->Option Y)->X->Option Y):Nat->X->Option Y
 |0,_=>none
 |n+1,x=>B (Oh B n) x
open Classical in
def recP{X Y:Type}(B:(X->Option Y)->X->Option Y)(x:X):Option Y:=
 if h: ∃y,∃N,∀n,N<=n->Oh B n x=some y then some h.choose else none
def recG{X Y:Type}(f:Option Nat)(B:(X->Option Y)->X->Option Y)(x:X):Option Y:=match f with
 |none=>recP B x
 |some n=>Oh B n x
def recE[Fu]{X Y:Type}(B:(X->Option Y)->X->Option Y)(x:X):Option Y:=recG Fu.n B x
theorem dO{X Y:Type}{B:(X->Option Y)->X->Option Y}{x:X}{y:Y}{N:Nat}(h: ∀n,N<=n->Oh B n x=some y):recE B x=some y:=by have hx: ∃y,∃N,∀n,N<=n->Oh B n x=some y:=⟨y,N,h⟩;show recP B x=some y;unfold recP;rw[dif_pos hx];obtain⟨M,hM⟩:=hx.choose_spec;have h1:=hM (max N M) (Nat.le_max_right ..);rw[h _ (Nat.le_max_left ..)]at h1;exact h1.symm
theorem ZG {X Y:Type} {B:(X->Option Y)->X->Option Y} (μ:X->Nat) (ok:X->Prop) (f:X->Y)
  (hB: ∀(S:X->Option Y) (x:X),ok x->(∀z,ok z->μ z<μ x->S z=some (f z))->B S x=some (f x)) {x:X} (hx:ok x):recE B x=some (f x):=by
 have key: ∀(m:Nat) (n:Nat) (x:X),μ x<m->m<=n->ok x->Oh B n x=some (f x):=by
  intro m
  induction m with
  |zero=>intro n x h;omega
  |succ m ih=>
   intro n x hm hn hok;cases n with
   |zero=>omega
   |succ n=>exact hB _ x hok fun z hz hlt=>ih n z (by omega) (by omega) hz
 exact dO (N:=μ x+1) fun n hn=>key (μ x+1) n x (by omega) hn hx
theorem zHW{X Y:Type}{B:(X->Option Y)->X->Option Y}{x:X}{y:Y}(h:recE B x=some y): ∃n,Oh B n x=some y:=by
 replace h:recP B x=some y:=h;unfold recP at h;split at h
 ·rename_i hx;injection h with h;obtain⟨N,hN⟩:=hx.choose_spec;exact⟨N,by rw[hN N (Xa _),h]⟩
 ·cases h
theorem yJ{S X R:Type}{step:S->Option (LO S X R)}: ∀{n m:Nat} {s:S} {x:LX X R},qd step n s=some x->n<=m->qd step m s=some x
 |0,_,_,_,h,_=>by cases h
 |n+1,0,_,_,_,hm=>by omega
 |n+1,m+1,s,x,h,hm=>by
  simp only[qd]at h ⊢;split at h
  ·cases h
  ·exact yJ h (by omega)
  ·exact h
  ·exact h
theorem Ai{S X R:Type}{step:S->Option (LO S X R)}{s:S}{x:LX X R}{n:Nat}(h:qd step n s=some x):xg step s=some x:=by have hx: ∃n x,qd step n s=some x:=⟨n,x,h⟩;unfold xg;rw[dif_pos hx];have h1:=hx.choose_spec.choose_spec;have h2:=yJ h (Nat.le_max_left n hx.choose);have h3:=yJ h1 (Nat.le_max_right n hx.choose);rw[h2]at h3;exact h3.symm
theorem QA {S X R:Type} {step:S->Option (LO S X R)} (Inv:S->Prop) (μ:S->Nat) (r:LX X R)
  (h: ∀s,Inv s->(∃s',step s=some (.again s')/\Inv s'/\μ s'<μ s)\/(∃x,step s=some (.out x)/\r= .out x)\/(∃y,step s=some (.ret y)/\r= .ret y)) {s:S} (hs:Inv s):xg step s=some r:=by
 have key: ∀(m:Nat) (s:S),μ s<m->Inv s->qd step m s=some r:=by
  intro m
  induction m with
  |zero=>intro s h;omega
  |succ m ih=>
   intro s hm hs;simp only[qd];rcases h s hs with⟨s',h1,h2,h3⟩|⟨x,h1,h2⟩|⟨y,h1,h2⟩
   ·rw[h1];exact ih s' (by omega) h2
   ·rw[h1,h2]
   ·rw[h1,h2]
 exact Ai (key (μ s+1) s (by omega) hs)
theorem zCr{S X R:Type}{step:S->Option (LO S X R)}{s s':S}{r:LX X R}(h:step s=some (.again s'))(h': ∃n,qd step n s'=some r): ∃n,qd step n s=some r:=by obtain⟨n,hn⟩:=h';exact⟨n+1,by simp only[qd,h];exact hn⟩
theorem Bn{S X R:Type}{step:S->Option (LO S X R)}{s:S}{k:X->Option R}{x:X}(h:xg step s=some (.out x)):zU step s k=k x:=by show(xg step s).bind _=_;rw[h];rfl
theorem RJ{S X R:Type}{step:S->Option (LO S X R)}{s:S}{k:X->Option R}{r:R}(h:xg step s=some (.ret r)):zU step s k=some r:=by show(xg step s).bind _=_;rw[h];rfl
@[simp] theorem zI {X R : Type} (x : X) (k : X -> Option R) : Zi (some (.out x)) k = k x := rfl
@[simp] theorem zAE {X R : Type} (r : R) (k : X -> Option R) : Zi (some (.ret r)) k = some r := rfl
@[simp] theorem Zz {R : Type} (x : Option R) : need true x = x := rfl
@[simp] theorem z8 {α : Type} (x : Option α) (d : α) : zF true x d = x := rfl
@[simp] theorem ZO {α : Type} (x : Option α) (d : α) : zF false x d = some d := rfl
theorem ZQ{R:Type}{b:Bool}(h:b=true)(x:Option R):need b x=x:=by rw[h];rfl
def LX.go{X R:Type}(r:LX X R)(k:X->Option R):Option R:=match r with| .out x=>k x| .ret y=>some y
@[simp] theorem znI {X R : Type} (x : X) (k : X -> Option R) : (LX.out x : LX X R).go k = k x := rfl
@[simp] theorem go_ret {X R : Type} (y : R) (k : X -> Option R) : (LX.ret y : LX X R).go k = some y := rfl
theorem qP{S X R:Type}{step:S->Option (LO S X R)}{s:S}{k:X->Option R}{r:LX X R}(h:xg step s=some r):zU step s k=r.go k:=by show(xg step s).bind _=_;rw[h];cases r<;>rfl
def kg{α A X R:Type}(g:α->A->Option (LO A X R))(fin:A->Option (LX X R)):List α->A->Option (LX X R)
 |[],a=>fin a
 |v::l,a=>match g v a with
  |none=>none
  |some (.again a')=>kg g fin l a'
  |some (.out x)=>some (.out x)
  |some (.ret r)=>some (.ret r)
theorem zM{α:Type}{l:List α}{i:Nat}(h:i<l.length):geti l (i:Int)=some l[i]:=by
 unfold geti;have h0:decide ((0:Int)<=(i:Int))=true:=by simp
 rw[h0];simp[h]
theorem zEX {α A X R S:Type} {step:S->Option (LO S X R)} (l:List α) (st:Nat->A->S) (g:α->A->Option (LO A X R)) (fin:A->Option (LX X R)) (Inv:Nat->A->Prop)
  (hg: ∀(i:Nat) (a:A) (h:i<l.length),Inv i a->step (st i a)=((g l[i] a).map fun
   | .again a'=> .again (st (i+1) a')
   | .out x=> .out x
   | .ret r=> .ret r)/\ ∀a',g l[i] a=some (.again a')->Inv (i+1) a')
  (hf: ∀a,Inv l.length a->step (st l.length a)=(fin a).map fun
   | .out x=> .out x
   | .ret r=> .ret r) {a:A} {r:LX X R} (h0:Inv 0 a) (h:kg g fin l a=some r):xg step (st 0 a)=some r:=by
 have key: ∀(k:Nat) (i:Nat) (a:A),i+k=l.length->Inv i a->kg g fin (l.drop i) a=some r-> ∃n,qd step n (st i a)=some r:=by
  intro k
  induction k with
  |zero=>
   intro i a hi hI ho;have hi:i=l.length:=by omega
   subst hi;rw[List.drop_length]at ho;refine⟨1,?_⟩;simp only[qd,hf a hI];simp only[kg]at ho;rw[ho];cases r<;>rfl
  |succ k ih=>
   intro i a hi hI ho;have hlt:i<l.length:=by omega
   rw[Ab hlt]at ho;simp only[kg]at ho;obtain⟨hs,hI'⟩:=hg i a hlt hI;cases hgv:g l[i] a with
   |none=>rw[hgv]at ho;cases ho
   |some o=>
    rw[hgv]at ho hs;cases o with
    |again a'=>exact zCr hs (ih (i+1) a' (by omega) (hI' a' hgv) ho)
    |out x=>cases ho;exact⟨1,by simp only[qd];rw[hs];rfl⟩
    |ret y=>cases ho;exact⟨1,by simp only[qd];rw[hs];rfl⟩
 obtain⟨n,hn⟩:=key l.length 0 a (by omega) h0 (by simpa using h);exact Ai hn
theorem Xq {α A X R S:Type} {step:S->Option (LO S X R)} {k:X->Option R} (l:List α) (st:Nat->A->S) (g:α->A->Option (LO A X R)) (fin:A->Option (LX X R)) (Inv:Nat->A->Prop) {s0:S} {a:A} (h0:s0=st 0 a) (hi:Inv 0 a)
  (hg: ∀(i:Nat) (a:A) (h:i<l.length),Inv i a->step (st i a)=((g l[i] a).map fun
   | .again a'=> .again (st (i+1) a')
   | .out x=> .out x
   | .ret r=> .ret r)/\ ∀a',g l[i] a=some (.again a')->Inv (i+1) a')
  (hf: ∀a,Inv l.length a->step (st l.length a)=(fin a).map fun
   | .out x=> .out x
   | .ret r=> .ret r) {r:LX X R} (h:kg g fin l a=some r):zU step s0 k=r.go k:=by
 subst h0;have:=zEX l st g fin Inv hg hf hi h;exact qP this
theorem Uo {α A X R S:Type} {step:S->Option (LO S X R)} {k:X->Option R} (l:List α) (st:Nat->A->S) (g:α->A->Option (LO A X R)) (fin:A->Option (LX X R)) {s0:S} {a:A} (h0:s0=st 0 a)
  (hg: ∀(i:Nat) (a:A) (h:i<l.length),step (st i a)=(g l[i] a).map fun
   | .again a'=> .again (st (i+1) a')
   | .out x=> .out x
   | .ret r=> .ret r)
  (hf: ∀a,step (st l.length a)=(fin a).map fun
   | .out x=> .out x
   | .ret r=> .ret r) {r:LX X R} (h:kg g fin l a=some r):zU step s0 k=r.go k:=
 Xq l st g fin (fun _ _=>True) h0 trivial (fun i a h _=>⟨hg i a h,fun _ _=>trivial⟩) (fun a _=>hf a) h
theorem Cm{α A X R:Type}{g:α->A->Option (LO A X R)}{fin:A->Option (LX X R)}(f:A->α->A)(hg: ∀v a,g v a=some (.again (f a v))): ∀(l:List α) (a:A),kg g fin l a=fin (l.foldl f a)
 |[],a=>rfl
 |v::l,a=>by simp only[kg,hg,Td];exact Cm f hg l _
theorem ZT{n:Int}(h1: -9223372036854775808<=n)(h2:n<=9223372036854775807):IntKind.i64.wrap n=n:=IntWalk.i64_in n ⟨h1,h2⟩
theorem qy{n m b:Nat}(h:(n+m)*b<=140737488355328):ZB n m b=true:=Fa h
end Go.Lv

namespace Go.Proofs
def Cl.cleanS:List UInt8->List UInt8
 |[]=>[]
 |13::10::r=>10::Cl.cleanS r
 |c::r=>bif c==0 then 239::191::189::Cl.cleanS r else bif c==12||c==13 then 10::Cl.cleanS r else c::Cl.cleanS r
end Go.Proofs
namespace Go.Lv
def yn(s:Str):Option (Str×Int):=some (if 4000<s.length then([],28)else(Proofs.Cl.cleanS s,0))
def short(l:Str):Bool:=decide (l.length<4294967281)
def Kh(l:Str):Bool:=l.all fun b=>decide (b.toNat<128)
def Vm(x:Str×Str):Option Int:=need (short x.1) (some (Lib.index x.1 x.2))
def cutF(x:Str×Str):Option (Str×Str×Bool):=need (short x.1) (some (Lib.cut x.1 x.2))
def Un(x:Str×Str):Option Str:=need (short x.2&&Kh x.2) (some (Lib.trimLeftS x.1 x.2))
def Wo(x:Str×Str):Option Int:=need (short x.1&&short x.2&&Kh x.1&&Kh x.2) (some (Lib.indexAny x.1 x.2))
def hexD(n:Nat):UInt8:=UInt8.ofNat (if n<10 then 48+n else 87+n)
def hexS(n:Nat):Str:=if n<16 then [hexD n]else [hexD (n / 16),hexD (n%16)]
def trimF(x:Str×Str):Option Str:=need (short x.1&&short x.2&&Kh x.2) (some (Lib.trimS x.1 x.2))
def jw(x:Str×Int×Int):Option (Int×Bool):=need (decide (x.2.1=10)&&decide (x.2.2=64)&&short x.1) (match Lib.parseIntB 64 x.1 with
 | .ok v=>some (v,false)
 | .range=>some (Lib.intSat 64 x.1,true)
 |_=>none)
def WU{α:Type}:Lib.NumEnd α->Bool
 | .ok _=>false
 | .range=>false
 |_=>true
open Go.RowKit
def xB(x:Str×Int):Option Int:=some (Lib.indexByte x.1 x.2.toNat.toUInt8)
section
variable {I:Ip} {P:Program} {ι ι':Asg} {w w':World}
theorem zGV{D:Nat->Prop}{u v:Value}(h:RepP D w (.at u) v):v=u:=by cases h;rfl
theorem zEV{D:Nat->Prop}{l:List UInt8}{v:Value}(h:RepP D w (.str l) v):v= .string ⟨l.toArray⟩:=by cases h;rfl
theorem EP{T:Nat->Prop}(W:Wf ι w)(g:Below w.heap.size w w'):Stp T ι w ι w':=
 ⟨⟨fun b s h=>by rw[wK (g.block b (dX h))];exact h,fun b hb=>⟨Dc hb.1 g.size,hb.2⟩,fun b hb=>g.block b hb.1⟩,g.os,g.tape,g.output,g.size,fun _ _ _ _ _ e=>g.block _ (W.lt _ _ _ _ e).1,fun _ _=> .inl rfl,fun _ _ _=>rfl,fun _ _=>rfl,fun _ h=>h,fun b hx=>g.block b (W.xlt b (Au hx))⟩
theorem zIV(W:Wf ι w)(g:Below w.heap.size w w'):Wf ι w':=
 ⟨fun id b k n e=>let⟨h1,h2⟩:=W.lt id b k n e;⟨Dc h1 g.size,h2⟩,W.inj,W.glob.step (EP (T:=fun _=>False) W g),fun b hx=>Dc (W.xlt b hx) g.size⟩
theorem XP(h:w'=w):Below w.heap.size w w':=h▸Below.refl _ _
theorem Stp.trans{T:Nat->Prop}{ι1 ι2:Asg}{w1 w2:World}(h:Stp T ι w ι1 w1)(g:Stp T ι1 w1 ι2 w2):Stp T ι w ι2 w2:=by
 refine⟨⟨fun b s e=>g.shape b s (h.shape b s e),fun b hb=>g.dom b (h.dom b hb),fun b hb=>(g.keep b (h.dom b hb)).trans (h.keep b hb)⟩,g.os.trans h.os,g.tape.trans h.tape,g.output.trans h.output,Bb h.size g.size,fun id b k n hT e=>(g.own id b k n hT ((h.fix id hT (by rw[e];simp)).trans e)).trans (h.own id b k n hT e),fun id h0=> ?_,fun id hT h0=> ?_,fun b hx=>(g.xs b (by rw[h.xs b hx];exact hx)).trans (h.xs b hx),fun b e=>h.xn b (g.xn b e),fun b hx=>(g.xkeep b (by rw[h.xs b hx];exact hx)).trans (h.xkeep b hx)⟩
 ·rcases h.slots id h0 with e|e|⟨b,k,n,rows,e1,e2,e3⟩
  ·rcases g.slots id (by rw[e];exact h0)with e'|e'|⟨b,k,n,rows,e1,e2,e3⟩
   ·exact .inl (e'.trans e)
   ·exact .inr (.inl e')
   ·exact .inr (.inr ⟨b,k,n,rows,e▸e1,e2,fun v hv=>e3 v (hv.step h.shape)⟩)
  ·rcases g.slots id (by rw[e];simp)with e'|e'|⟨_,_,_,_,e',_⟩
   ·exact .inr (.inl (e'.trans e))
   ·exact .inr (.inl e')
   ·rw[e]at e';cases e'
  ·rcases g.slots id (by rw[e2];simp)with e'|e'|⟨_,_,_,_,e',_⟩
   ·exact .inr (.inr ⟨b,k,n,rows,e1,e'.trans e2,fun v hv=>(e3 v hv).conv g.toConv⟩)
   ·exact .inr (.inl e')
   ·rw[e2]at e';cases e'
 ·rw[g.fix id hT (by rw[h.fix id hT h0];exact h0),h.fix id hT h0]
theorem Stp.wk{T T':Nat->Prop}(hT: ∀i,T i->T' i)(h:Stp T ι w ι' w'):Stp T' ι w ι' w':={h with own:=fun id b k n hn=>h.own id b k n fun ht=>hn (hT id ht),fix:=fun id hn=>h.fix id fun ht=>hn (hT id ht),xs:=fun b hb=>h.xs b (gq hT hb),xkeep:=fun b hb=>h.xkeep b (gq hT hb)}
theorem Yt {f:FuncId} {fn:Go.Func} {ins outs:List Sh} {F:((⟨ins,[]⟩:StSh).sl I).T->Option ((⟨outs,[]⟩:StSh).sl I).T} (hI:IpOK P I) (hwf:Bj (⟨f,⟨ins,[]⟩,[],⟨outs,[]⟩,0,F⟩:Con I)=true) (hf:P.funcs[f]? =some fn) (hn:(fn.name== "runtime.NumGoroutine")=false) (hb:fn.body.isSome=true)
  (h: ∀x y,F x=some y-> ∀ι w vs,Wf ι w->Gh ι w (((⟨ins,[]⟩:StSh).sl I).enc x).1 vs->Calls P f vs w fun e w'=> ∃v,e= .returned v/\Below w.heap.size w w'/\RepL ι w' (resE (((⟨outs,[]⟩:StSh).sl I).enc y).1) v):ZL P (⟨f,⟨ins,[]⟩,[],⟨outs,[]⟩,0,F⟩:Con I):=
 ⟨hwf,fun _ _ _=>⟨fn,hf,hn,hb⟩,fun x y hxy ι w vs W hfr _ hv=>(h x y hxy ι w vs W hv).mono fun e w' ⟨v,he,g,hr⟩=>⟨v,ι,he,EP W g,zIV W g,hr,fun o ho=>(by
  have:(((⟨outs,[]⟩:StSh).sl I).enc y).2=[]:=List.map_eq_nil_iff.1 ((Wn (P:=P) hI ⟨outs,[]⟩).1 y);rw[this]at ho;cases ho),fun i _=>hfr i (Va i)⟩⟩
theorem Ym{l:Str}{ts:List (ET I.C)}{vs:Array Value}{j:Nat}(h:Gh ι w ts vs)(hj:ts[j]? =some (.c (.str l))):vs[j]? =some (.string ⟨l.toArray⟩):=by obtain⟨u,hu,_,hr⟩:=h.2 j _ hj;rw[hu,zEV (show RepP _ _ (.str l) u from hr)]
theorem xO{k:IntKind}{n:Int}{ts:List (ET I.C)}{vs:Array Value}{j:Nat}(h:Gh ι w ts vs)(hj:ts[j]? =some (.c (.int k n))):vs[j]? =some (.int k n):=by obtain⟨u,hu,_,hr⟩:=h.2 j _ hj;rw[hu,zGV (show RepP _ _ (.at (.int k n)) u from hr)]
theorem zMx{vs:Array Value}{a:Value}(hs:vs.size=1)(h0:vs[0]? =some a):vs= #[a]:=by
 apply Array.ext
 ·simp[hs]
 ·intro i hi hi';obtain rfl:i=0:=(by omega);exact(Lb.1 h0).2
theorem KC{vs:Array Value}{a b:Value}(hs:vs.size=2)(h0:vs[0]? =some a)(h1:vs[1]? =some b):vs= #[a,b]:=by
 apply Array.ext
 ·simp[hs]
 ·intro i hi hi';have:i=0\/i=1:=by omega
  rcases this with rfl|rfl
  ·exact(Lb.1 h0).2
  ·exact(Lb.1 h1).2
theorem Tw(l:Str):RepT (I:=I) ι w (.c (.str l)) (.string ⟨l.toArray⟩):=⟨rfl, .str l⟩
theorem zFZ (hI:IpOK P I) {f:FuncId} {fn:Go.Func} (hf:P.funcs[f]? =some fn) (hn:(fn.name== "runtime.NumGoroutine")=false) (hb:fn.body.isSome=true)
  (h: ∀(s:ByteArray) (c:Int) (w:World),Calls P f #[.string s, .int .u8 c] w fun e w'=>e= .returned (.int .i64 (Lib.indexByte s.data.toList c.toNat.toUInt8))/\w'=w):
  ZL P (⟨f,⟨[.str, .int .u8],[]⟩,[],⟨[.int .i64],[]⟩,0,xB⟩:Con I):=
 Yt hI rfl hf hn hb fun(l,c) y hxy ι w vs W hv=>by cases hxy;obtain rfl:=KC hv.1 (Ym (l:=l) hv rfl) (xO (k:= .u8) (n:=c) hv rfl);exact(h ⟨l.toArray⟩ c w).mono fun e w' ⟨he,hw⟩=>⟨_,he,XP hw,Q7 _ _⟩
end
inductive All2 {α β:Type} (R:α->β->Prop):List α->List β->Prop where
 |nil:All2 R [] []
 |cons {a:α} {b:β} {l:List α} {m:List β} (h:R a b) (t:All2 R l m):All2 R (a::l) (b::m)
section
variable {I:Ip} {P:Program}
theorem zGO{X Y:Type}(B:(X->Option Y)->X->Option Y)(n:Nat):Oh B n=Nat.rec (motive:=fun _=>X->Option Y) (fun _=>Option.none) (fun _ S=>B S) n:=by
 induction n with
 |zero=>rfl
 |succ n ih=>funext x;show B (Oh B n) x=B _ x;rw[ih]
theorem ZL.iter {f:Nat} {inS:StSh} {cst:List Nat} {outS:StSh} {k:Nat} (B:((inS.sl I).T->Option (outS.sl I).T)->(inS.sl I).T->Option (outS.sl I).T)
  (hwf:Bj (⟨f,inS,cst,outS,k,fun _=>Option.none⟩:Con I)=true) (hB: ∀S,ZL P (⟨f,inS,cst,outS,k,S⟩:Con I)->ZL P (⟨f,inS,cst,outS,k,B S⟩:Con I)): ∀n,ZL P (⟨f,inS,cst,outS,k,Oh B n⟩:Con I)
 |0=>⟨hwf,fun _ _ h=>(by cases h),fun _ _ h=>(by cases h)⟩
 |n+1=>hB _ (ZL.iter B hwf hB n)
theorem ZL.recE [u:Fu] {f:Nat} {inS:StSh} {cst:List Nat} {outS:StSh} {k:Nat} (B:((inS.sl I).T->Option (outS.sl I).T)->(inS.sl I).T->Option (outS.sl I).T)
  (hwf:Bj (⟨f,inS,cst,outS,k,fun _=>Option.none⟩:Con I)=true) (hB: ∀S,ZL P (⟨f,inS,cst,outS,k,S⟩:Con I)->ZL P (⟨f,inS,cst,outS,k,B S⟩:Con I)):ZL P (⟨f,inS,cst,outS,k,Lv.recE B⟩:Con I):=by
 obtain⟨n⟩:=u;cases n with
 |some n=>exact ZL.iter B hwf hB n
 |none=>
  exact ZL.recf B hwf hB fun x y h=>by obtain⟨n,hn⟩:=zHW h;exact⟨n,by rw[<-zGO];exact hn⟩
theorem ZL.le{f:Nat}{inS:StSh}{cst:List Nat}{outS:StSh}{k:Nat}{F G:(inS.sl I).T->Option (outS.sl I).T}(h:ZL P (⟨f,inS,cst,outS,k,F⟩:Con I))(hl: ∀x y,G x=some y->F x=some y):ZL P (⟨f,inS,cst,outS,k,G⟩:Con I):=
 ⟨h.wf,fun x y e=>h.fn x y (hl x y e),fun x y e=>h.ok x y (hl x y e)⟩
end
section
variable {C:Nat->Type}
def dInt:IntKind->EV C->Option Int
 | .i8, .int .i8 n=>some n
 | .i16, .int .i16 n=>some n
 | .i32, .int .i32 n=>some n
 | .i64, .int .i64 n=>some n
 | .u8, .int .u8 n=>some n
 | .u16, .int .u16 n=>some n
 | .u32, .int .u32 n=>some n
 | .u64, .int .u64 n=>some n
 |_,_=>none
def NU(a:EV C):Option UInt8:=(dInt .u8 a).bind QN
def Yh:EV C->Option Bool
 | .bool b=>some b
 |_=>none
def dStr:EV C->Option Str
 | .str l=>some l
 |_=>none
def dSl(u:Nat):EV C->Option (List (C u))
 | .nil=>some []
 | .sl t l=>match Nat.decEq t u with
  | .isTrue h=>some (h▸l)
  | .isFalse _=>none
 |_=>none
def mE{X:Type}(x:X):List (EV C)->Option X
 |[]=>some x
 |_=>none
def mF{A X:Type}(d:EV C->Option A)(k:A->List (EV C)->Option X):List (EV C)->Option X
 |a::r=>(d a).bind fun x=>k x r
 |[]=>none
def mB:List (EV C)->Option UInt8
 |[a]=>NU a
 |_=>none
theorem zNN{X:Type}{x y:X}{cs:List (EV C)}(h:mE x cs=some y):cs=[]/\x=y:=by
 cases cs with
 |nil=>exact⟨rfl,Option.some.inj h⟩
 |cons a r=>cases h
theorem zNO{A X:Type}{d:EV C->Option A}{k:A->List (EV C)->Option X}{cs:List (EV C)}{y:X}(h:mF d k cs=some y): ∃a r x,cs=a::r/\d a=some x/\k x r=some y:=by
 cases cs with
 |nil=>cases h
 |cons a r=> obtain⟨x,h1,h2⟩:=Ka.1 h;exact⟨a,r,x,rfl,h1,h2⟩
end
section
variable {I:Ip}
structure Dec (I:Ip) (a:EV I.C) (p:PV):Prop where
 u:Sl (I:=I) a=true
 w:WkP (pvE I a) p
theorem decs{cs:List (EV I.C)}{ps:List PV}(h:All2 (Dec I) cs ps):(∀v∈cs,Sl (I:=I) v=true)/\cs.length=ps.length/\ ∀(j:Nat) (a b:PV),(cs.map (pvE I))[j]? =some a->ps[j]? =some b->WkP a b:=by
 induction h with
 |nil=>exact⟨fun v hv=>(by cases hv),rfl,fun j a b ha=>(by cases ha)⟩
 |cons h1 _ ih=>
  refine⟨fun v hv=> ?_,congrArg Nat.succ ih.2.1,fun j a b ha hb=> ?_⟩
  ·rcases Jb.1 hv with rfl|hv
   ·exact h1.1
   ·exact ih.1 v hv
  ·cases j with
   |zero=>injection ha with ha;injection hb with hb;rw[<-ha,<-hb];exact h1.2
   |succ j=>exact ih.2.2 j a b ha hb
theorem GX{k:IntKind}{a:EV I.C}{x:Int}(h:dInt k a=some x):Dec I a (.at (.int k x)):=by unfold dInt at h;split at h<;>cases h<;>exact⟨rfl, .refl _⟩
theorem zJg{a:EV I.C}{x:UInt8}(h:NU a=some x):Dec I a (.at (.int .u8 x.toNat)):=by obtain⟨y,h1,h2⟩:=Ka.1 h;have:=zFG h2;subst this;exact GX h1
theorem zOK{cs:List (EV I.C)}{x:UInt8}(h:mB cs=some x):All2 (Dec I) cs [.at (.int .u8 x.toNat)]:=by
 unfold mB at h;split at h
 ·exact .cons (zJg h) .nil
 ·cases h
theorem zJf{a:EV I.C}{x:Bool}(h:Yh a=some x):Dec I a (.at (.bool x)):=by unfold Yh at h;split at h<;>cases h;exact⟨rfl, .refl _⟩
theorem zLC{a:EV I.C}{x:Str}(h:dStr a=some x):Dec I a (.str x):=by unfold dStr at h;split at h<;>cases h;exact⟨rfl, .refl _⟩
theorem zNr{u:Nat}{a:EV I.C}{x:List (I.C u)}(h:dSl u a=some x):Dec I a (.sl (x.map (I.full u))):=by
 unfold dSl at h;split at h
 ·cases h;exact⟨rfl, .nil⟩
 ·split at h
  ·rename_i e _;subst e;cases h;exact⟨rfl, .refl _⟩
  ·cases h
 ·cases h
end
mutual
/-- How many values and letters there are. -/
def bPV:PV->Nat
 | .at _=>1
 | .str l=>l.length+1
 | .sl rows=>Mm rows+1
 | .ptr cells=>zq cells+1
def Mm:List (List PV)->Nat
 |[]=>0
 |r::rs=>zq r+Mm rs
def zq:List PV->Nat
 |[]=>0
 |c::cs=>bPV c+zq cs
end
mutual
/-- Integers are in their kind's range. -/
def okPV:PV->Prop
 | .at (.int k n)=>k.min<=n/\n<=k.max
 | .at _=>True
 | .str _=>True
 | .sl rows=>GN rows
 | .ptr cells=>yh cells
def GN:List (List PV)->Prop
 |[]=>True
 |r::rs=>yh r/\GN rs
def yh:List PV->Prop
 |[]=>True
 |c::cs=>okPV c/\yh cs
end
theorem bR: ∀(a b:List PV),zq (a++b)=zq a+zq b
 |[],b=>by simp[zq]
 |x::a,b=>by simp only[Sb,zq,bR a b];omega
theorem vR: ∀(a b:List PV),yh (a++b)↔yh a/\yh b
 |[],b=>by simp[yh]
 |x::a,b=>by simp only[Sb,yh,vR a b,and_assoc]
structure zKH (bk:{H:Type}->DataW H->Nat):Prop where
 one: ∀{H:Type} (d:DataW H),1<=bk d
 str: ∀{H:Type} (l:List UInt8),bk (DataW.lit (H:=H) (.string l))=l.length+1
 slice: ∀{H:Type} (a b:List (DataW H)),(a.map bk).sum+1<=bk (.slice a b)
 agg: ∀{H:Type} (a:List (DataW H)),(a.map bk).sum+1<=bk (.agg a)
structure IpRd (P:Program) (I:Ip) (G:Nat->Prop):Prop where
 int: ∀t k,G t->P.underlying t=some (.int k)-> ∀n,k.min<=n->n<=k.max-> ∃x:I.C t,I.full t x=[.at (.int k n)]
 bool: ∀t,G t->P.underlying t=some .bool-> ∀b,∃x:I.C t,I.full t x=[.at (.bool b)]
 str: ∀t,G t->P.underlying t=some .string-> ∀l,∃x:I.C t,I.full t x=[.str l]
 sl: ∀t e,G t->P.underlying t=some (.slice e)->G e/\0<P.cellsOf e/\ ∀l:List (I.C e),∃x:I.C t,I.full t x=[.sl (l.map (I.full e))]
 st: ∀t fs,G t->P.underlying t=some (.struct fs)->(∀f∈fs.toList,G f.type)/\(∀(i:Nat) f,fs.toList[i]? =some f->f.offset=((fs.toList.take i).map fun f=>P.cellsOf f.type).sum)/\P.cellsOf t=(fs.toList.map fun f=>P.cellsOf f.type).sum/\
  ∀pvs:List (List PV),All2 (fun(f:Field) p=> ∃y:I.C f.type,I.full f.type y=p) fs.toList pvs-> ∃x:I.C t,I.full t x=pvs.flatten
 only: ∀t u,G t->P.underlying t=some u->(∃k,u= .int k)\/u= .bool\/u= .string\/(∃e,u= .slice e)\/(∃fs,u= .struct fs)
def offs(P:Program):Nat->List (Nat×Nat)->Bool
 |_,[]=>true
 |off,(t,o)::r=>Nat.beq o off&&offs P (off+P.cellsOf t) r
def bi(P:Program)(t:Nat):List (Nat×Nat):=match P.underlying t with
 |some (.struct fs)=>fs.toList.map fun f=>(f.type,f.offset)
 |_=>[]
def memI(p:Nat×IntKind):List (Nat×IntKind)->Bool
 |[]=>false
 |q::r=>(Nat.beq p.1 q.1&&decide (p.2=q.2))||memI p r
def memP(p:Nat×Nat):List (Nat×Nat)->Bool
 |[]=>false
 |q::r=>(Nat.beq p.1 q.1&&Nat.beq p.2 q.2)||memP p r
def memT(t:Nat):List Nat->Bool
 |[]=>false
 |q::r=>Nat.beq t q||memT t r
theorem uW{p:Nat×IntKind}: ∀{l:List (Nat×IntKind)},memI p l=true->p∈l
 |q::r,h=>by
  simp only[memI,Yc,Da,ja]at h;rcases h with⟨h,g⟩|h
  ·rw[show p=q from Prod.ext (La h) g];exact .head _
  ·exact .tail _ (uW h)
theorem sW{p:Nat×Nat}: ∀{l:List (Nat×Nat)},memP p l=true->p∈l
 |q::r,h=>by
  simp only[memP,Yc,Da]at h;rcases h with⟨h,g⟩|h
  ·rw[show p=q from Prod.ext (La h) (La g)];exact .head _
  ·exact .tail _ (sW h)
theorem AO{p:Nat}: ∀{l:List Nat},memT p l=true->p∈l
 |q::r,h=>by
  simp only[memT,Yc]at h;rcases h with h|h
  ·rw[La h];exact .head _
  ·exact .tail _ (AO h)
theorem xV{P:Program}: ∀{l:List (Nat×Nat)} {off:Nat},offs P off l=true-> ∀(i:Nat) p,l[i]? =some p->p.2=off+((l.take i).map fun p=>P.cellsOf p.1).sum
 |[],off,_,i,p,h=>by cases h
 |(t,o)::r,off,h,i,p,hi=>by
  simp only[offs,Da]at h;cases i with
  |zero=>cases hi;simpa using La h.1
  |succ i=> have:=xV h.2 i p (by simpa using hi);rw[this];simp only[Be,Jc,He];omega
theorem Zp{α β:Type}{R:α->β->Prop}{a:α}{l:List α}{m:List β}(h:All2 R (a::l) m): ∃b m',m=b::m'/\R a b/\All2 R l m':=by
 cases h with
 |cons h t=>exact⟨_,_,rfl,h,t⟩
theorem Dk{α β:Type}{R:α->β->Prop}{m:List β}(h:All2 R [] m):m=[]:=by cases h;rfl
theorem CY{α β γ:Type}{f:α->γ}{R:γ->β->Prop}: ∀{l:List α} {m:List β},All2 (fun a b=>R (f a) b) l m->All2 R (l.map f) m
 |[],_,h=>by cases h;exact .nil
 |a::l,_,h=>by
  cases h with
  |cons h t=>exact .cons h (CY t)
theorem Yj {P:Program} {I:Ip} {G:Nat->Prop} {t:Nat} {fs:Array Field} (hu:P.underlying t=some (.struct fs)) {ft:List (Nat×Nat)} (hft:bi P t=ft) (hg: ∀p∈ft,G p.1) (ho:offs P 0 ft=true)
  (hs:P.cellsOf t=(ft.map fun p=>P.cellsOf p.1).sum) (mk: ∀pvs:List (List PV),All2 (fun(p:Nat×Nat) q=> ∃y:I.C p.1,I.full p.1 y=q) ft pvs-> ∃x:I.C t,I.full t x=pvs.flatten):
  (∀f∈fs.toList,G f.type)/\(∀(i:Nat) f,fs.toList[i]? =some f->f.offset=((fs.toList.take i).map fun f=>P.cellsOf f.type).sum)/\P.cellsOf t=(fs.toList.map fun f=>P.cellsOf f.type).sum/\
  ∀pvs:List (List PV),All2 (fun(f:Field) p=> ∃y:I.C f.type,I.full f.type y=p) fs.toList pvs-> ∃x:I.C t,I.full t x=pvs.flatten:=by
 have hft:fs.toList.map (fun f=>(f.type,f.offset))=ft:=by unfold bi at hft;rw[hu]at hft;exact hft
 refine⟨fun f hf=>hg (f.type,f.offset) (by rw[<-hft];exact Nb.2 ⟨f,hf,rfl⟩),fun i f hi=> ?_,?_,fun pvs h=>mk pvs ?_⟩
 ·have:=xV ho i (f.type,f.offset) (by rw[<-hft,Ra,hi];rfl);simp only[jc]at this;rw[this,<-hft,<-Bf,List.map_map];rfl
 ·rw[hs,<-hft,List.map_map];rfl
 ·rw[<-hft];exact CY h
theorem YC{α β:Type}{g:α->Option β}: ∀{l:List α} {r:List β},l.mapM g=some r->All2 (fun a b=>g a=some b) l r
 |[],r,h=>by simp only[List.mapM_nil,Option.pure_def,Option.some.injEq]at h;subst h;exact .nil
 |a::l,r,h=>by rw[List.mapM_cons]at h;obtain⟨b,h1,h2⟩:=Ka.1 h;obtain⟨r',h3,h4⟩:=Ka.1 h2;simp only[Option.pure_def,Option.some.injEq]at h4;subst h4;exact .cons h1 (YC h3)
theorem All2.len{α β:Type}{R:α->β->Prop}{l:List α}{m:List β}(h:All2 R l m):l.length=m.length:=by
 induction h with
 |nil=>rfl
 |cons _ _ ih=>simp[ih]
theorem All2.at{α β:Type}{R:α->β->Prop}{l:List α}{m:List β}(h:All2 R l m): ∀{i:Nat} {a:α},l[i]? =some a-> ∃b,m[i]? =some b/\R a b:=by
 induction h with
 |nil=>intro i a h;cases h
 |cons h t ih=>
  intro i a hi;cases i with
  |zero=>cases hi;exact⟨_,rfl,h⟩
  |succ i=>exact ih hi
def ng(w:World)(cs:List Value)(pvs:List PV):Prop:=cs.length=pvs.length/\ ∀(j:Nat) v pv,cs[j]? =some v->pvs[j]? =some pv->RepP (fun b=>b<w.heap.size) w pv v/\v.oneCell'=true
theorem ng.one{w:World}{v:Value}{pv:PV}(h:RepP (fun b=>b<w.heap.size) w pv v)(ho:v.oneCell'=true):ng w [v] [pv]:=by
 refine⟨rfl,fun j u q hu hq=> ?_⟩;cases j with
 |zero=>cases hu;cases hq;exact⟨h,ho⟩
 |succ j=>cases hu
theorem ng.append{w:World}{a b:List Value}{p q:List PV}(h:ng w a p)(g:ng w b q):ng w (a++b) (p++q):=by
 refine⟨by simp[h.1,g.1],fun j v pv hv hp=> ?_⟩;by_cases hj:j<a.length
 ·rw[Ci hj]at hv;rw[Ci (by rw[<-h.1];exact hj)]at hp;exact h.2 j v pv hv hp
 ·rw[List.getElem?_append_right (by omega)]at hv;rw[List.getElem?_append_right (by have:=h.1;omega),<-h.1]at hp;exact g.2 _ v pv hv hp
section
variable {P:Program} {I:Ip} {G:Nat->Prop} {bk:{H:Type}->DataW H->Nat}
theorem XQ {H:Type} {D:Nat->List Value->Option (DataW H×List MemPlace)} {w:World}
  (hD: ∀t cs d ps,G t->D t cs=some (d,ps)-> ∃x:I.C t,ng w cs (I.full t x)/\zq (I.full t x)<=bk d/\yh (I.full t x)) (cs:List Value):
  ∀(fs:List Field) (off:Nat) (xs:List (DataW H×List MemPlace)),(∀f∈fs,G f.type)->(∀(i:Nat) f,fs[i]? =some f->f.offset=off+((fs.take i).map fun f=>P.cellsOf f.type).sum)->
   All2 (fun(f:Field) x=>D f.type ((cs.drop f.offset).take (P.cellsOf f.type))=some x) fs xs->
   ∃pvs:List (List PV),All2 (fun(f:Field) p=> ∃y:I.C f.type,I.full f.type y=p) fs pvs/\ng w ((cs.drop off).take ((fs.map fun f=>P.cellsOf f.type).sum)) pvs.flatten/\zq pvs.flatten<=((xs.map (·.1)).map bk).sum/\yh pvs.flatten
 |[],off,xs,_,_,h=>by
  cases h;refine⟨[], .nil,⟨by simp,fun j v pv hv=>by simp at hv⟩,by simp[zq],trivial⟩
 |f::fs,off,xs,hG,ho,h=>by
  cases h with
  | @cons _ x _ xs' h1 h2=>
   obtain⟨d,ps⟩:=x;have h0:f.offset=off:=by have:=ho 0 f rfl;simpa using this
   obtain⟨y,y1,y2,y3⟩:=hD f.type _ d ps (hG f (Ob ..)) h1;obtain⟨pvs,q1,q2,q3,q4⟩:=XQ hD cs fs (off+P.cellsOf f.type) xs' (fun g hg=>hG g (Kb _ hg)) (fun i g hi=>by
    have:=ho (i+1) g (by simpa using hi);rw[this];simp only[Be,Jc,He];omega) h2
   refine⟨I.full f.type y::pvs, .cons ⟨y,rfl⟩ q1,?_,?_,?_⟩
   ·rw[h0]at y1;have e:(cs.drop off).take (((f::fs).map fun f=>P.cellsOf f.type).sum)=(cs.drop off).take (P.cellsOf f.type)++(cs.drop (off+P.cellsOf f.type)).take ((fs.map fun f=>P.cellsOf f.type).sum):=by rw[Jc,He,List.take_add,Tf]
    rw[e,Nf];exact y1.append q2
   ·rw[Nf,bR];simp only[Jc,He];omega
   ·rw[Nf];exact(vR _ _).2 ⟨y3,q4⟩
theorem MP{w:World}{a:Addr}{v:Value}(h:w.cell? a=some v):a.spot=none/\a.block<w.heap.size:=by
 unfold World.cell? at h;split at h
 ·rename_i c t fr hb;refine⟨?_,(Lb.1 hb).1⟩;cases hs:a.spot with
  |none=>rfl
  |some s=>rw[hs]at h;cases h
 ·cases h
theorem LP{w:World}{a:Addr}{n:Nat}{cs:List Value}(h:w.cells? 0 a n=some cs):cs.length=n/\ ∀(i:Nat) v,cs[i]? =some v->w.cell? (a.add i)=some v:=by
 unfold World.cells? at h;rw[Sa (Va _)]at h;have h:=YC h;have hl:=h.len;rw[List.length_range]at hl;refine⟨hl.symm,fun i v hv=> ?_⟩;have hi:i<n:=by rw[hl];exact(Ja.1 hv).1
 obtain⟨b,h1,h2⟩:=h.at (i:=i) (a:=i) (by rw[List.getElem?_range hi]);rw[hv]at h1;cases h1;exact h2
theorem zFo{a:Addr}(n m:Nat)(h:(a.add n).spot=none):(a.add n).add m=⟨a.block,a.off+n+m,none⟩/\a.block=(a.add n).block:=by
 obtain⟨b,o,s⟩:=a;by_cases hn:n=0
 ·subst hn;have e:(⟨b,o,s⟩:Addr).add 0=⟨b,o,s⟩:=Sa rfl;rw[e]at h ⊢;have h:s=none:=h;subst h;refine⟨?_,rfl⟩;unfold Addr.add;by_cases hm:m=0
  ·subst hm;rw[Sa rfl];rfl
  ·rw[Oa hm];rfl
 ·have e:(⟨b,o,s⟩:Addr).add n=⟨b,o+n,none⟩:=Oa hn;rw[e];refine⟨?_,rfl⟩;unfold Addr.add;by_cases hm:m=0
  ·subst hm;rw[Sa rfl];rfl
  ·rw[Oa hm]
theorem WW {w:World} {e k:Nat} {a:Addr} {H:Type} {D:List Value->Option (DataW H×List MemPlace)} (hk:0<k)
  (hD: ∀cs d ps,D cs=some (d,ps)-> ∃x:I.C e,ng w cs (I.full e x)/\zq (I.full e x)<=bk d/\yh (I.full e x)) (hI: ∀x:I.C e,(I.full e x).length=k):
  ∀(n s:Nat) (r:List (DataW H×List MemPlace)),All2 (fun i x=>(w.cells? 0 (a.add (i*k)) k).bind D=some x) (List.range' s n) r->
   ∃l:List (I.C e),l.length=n/\Mm (l.map (I.full e))<=((r.map (·.1)).map bk).sum/\GN (l.map (I.full e))/\
    ∀(i:Nat) x (j:Nat) pv,l[i]? =some x->(I.full e x)[j]? =some pv-> ∃v,w.cell? ⟨a.block,a.off+(s+i)*k+j,none⟩=some v/\RepP (fun b=>b<w.heap.size) w pv v/\v.oneCell'=true
 |0,s,r,h=>by
  cases h;exact⟨[],rfl,by simp[Mm],trivial,fun i x j pv h=>by cases h⟩
 |n+1,s,r,h=>by
  rw[List.range'_succ]at h;cases h with
  | @cons _ x _ r' h1 h2=>
   obtain⟨cs,g1,g2⟩:=Ka.1 h1;obtain⟨d,ps⟩:=x;obtain⟨y,y1,y2,y3⟩:=hD cs d ps g2;obtain⟨l,l1,l2,l3,l4⟩:=WW hk hD hI n (s+1) r' h2;obtain⟨c1,c2⟩:=LP g1;refine⟨y::l,by simp[l1],?_,⟨y3,l3⟩,fun i z j pv hz hp=> ?_⟩
   ·simp only[Jc,Mm,He];omega
   ·cases i with
    |zero=>
     cases hz;have hj:j<cs.length:=by rw[y1.1];exact(Ja.1 hp).1
     have hv:cs[j]? =some cs[j]:=Ta hj;obtain⟨r1,r2⟩:=y1.2 j _ _ hv hp;have hc:=c2 j _ hv;have h0:=c2 0 cs[0] (Ta (by omega));have hs0:=(MP h0).1;have hsp:(a.add (s*k)).spot=none:=by have e0:(a.add (s*k)).add 0=a.add (s*k):=Sa rfl;rw[e0]at hs0;exact hs0
     refine⟨_,?_,r1,r2⟩;rw[Nc,<-(zFo (s*k) j hsp).1];exact hc
    |succ i=> obtain⟨v,v1,v2,v3⟩:=l4 i z j pv hz hp;refine⟨v,?_,v2,v3⟩;rw[show s+(i+1)=s+1+i by omega];exact v1
theorem zOu{n:Int}(h1:IntKind.u8.min<=n)(h2:n<=IntKind.u8.max):[PV.at (.int .u8 (((UInt8.ofNat n.toNat).toNat:Nat):Int))]=[PV.at (.int .u8 n)]:=by
 have h1:(0:Int)<=n:=h1;have h2:n<=255:=h2;rw[UInt8.toNat_ofNat'];have:((n.toNat%2 ^ 8:Nat):Int)=n:=by omega
 rw[this]
theorem reads(hI:IpOK P I)(hG:IpRd P I G)(hb:zKH bk){H:Type}(enc:TypeId×Value->H)(w:World):
  ∀(fuel:Nat) (t:Nat) (cs:List Value) (d:DataW H) (ps:List MemPlace),G t->DataW.trod enc P w 0 (fun _=>true) true fuel t cs=some (d,ps)-> ∃x:I.C t,ng w cs (I.full t x)/\zq (I.full t x)<=bk d/\yh (I.full t x):=by
 intro fuel
 induction fuel with
 |zero=>intro t cs d ps _ h;cases h
 |succ fuel ih=>
  intro t cs d ps hg h;simp only[DataW.trod]at h;cases hu:P.underlying t with
  |none=>rw[hu]at h;simp at h
  |some u=>
   rw[hu]at h;rcases hG.only t u hg hu with⟨k,rfl⟩|rfl|rfl|⟨e,rfl⟩|⟨fs,rfl⟩
   ·split at h<;>(try (rename_i hh;cases hh;done))<;>(try (rename_i hh _;cases hh;done))<;>(try (cases h;done));rename_i k0 k' n hh;cases hh;split at h
    ·rename_i hc;cases h;obtain⟨rfl,hwf⟩:=hc;have hwf':=hwf;simp only[Lit.wf,Da,ja]at hwf';obtain⟨x,hx⟩:=hG.int t _ hg hu n hwf'.1 hwf'.2;refine⟨x,?_,?_,?_⟩
     ·rw[hx];exact ng.one (.at _ rfl) rfl
     ·rw[hx];simp only[zq,bPV];exact hb.one _
     ·rw[hx];simp only[Lit.wf,Da,ja]at hwf;exact⟨hwf,trivial⟩
    ·cases h
   ·split at h<;>(try (rename_i hh;cases hh;done))<;>(try (rename_i hh _;cases hh;done))<;>(try (cases h;done));cases h;rename_i b _;obtain⟨x,hx⟩:=hG.bool t hg hu b;refine⟨x,by rw[hx];exact ng.one (.at _ rfl) rfl,by rw[hx];simp only[zq,bPV];exact hb.one _,by rw[hx];exact⟨trivial,trivial⟩⟩
   ·split at h<;>(try (rename_i hh;cases hh;done))<;>(try (rename_i hh _;cases hh;done))<;>(try (cases h;done));rename_i s _;split at h
    ·cases h;obtain⟨x,hx⟩:=hG.str t hg hu s.data.toList;refine⟨x,?_,?_,by rw[hx];exact⟨trivial,trivial⟩⟩
     ·rw[hx];have:Value.string s= .string ⟨s.data.toList.toArray⟩:=by cases s;simp
      rw[this];exact ng.one (.str _) rfl
     ·rw[hx];simp only[zq,bPV,hb.str];omega
    ·cases h
   ·obtain⟨ge,hk,hmk⟩:=hG.sl t e hg hu;split at h<;>(try (rename_i hh;cases hh;done))<;>(try (rename_i hh _;cases hh;done))<;>(try (cases h;done))
    ·cases h;obtain⟨x,hx⟩:=hmk [];refine⟨x,?_,?_,by rw[hx];exact⟨trivial,trivial⟩⟩
     ·rw[hx];exact ng.one (.sl [] none 0 0 0 0 0 (fun _ _=>undef) rfl (Xa _) (fun h=>by omega) (fun h=>by omega) (fun r hr=>by cases hr) (fun i row j x h=>by cases h) (fun i row j x h=>by cases h)) rfl
     ·rw[hx];simp only[List.map_nil,zq,bPV,Mm];exact hb.one _
    ·rename_i e' a len cap hh;cases hh;split at h
     ·rename_i hc;obtain⟨elems,h1,h2⟩:=Ka.1 h;obtain⟨rest,h3,h4⟩:=Ma.1 h2;cases h4;have h1:=YC h1;rw[List.range_eq_range']at h1;obtain⟨l,l1,l2,l3,l4⟩:=WW (I:=I) (bk:=bk) (w:=w) (e:=e) (a:=a) hk (fun cs d ps hd=>ih e cs d ps ge hd) (fun x=>hI.len e x) len 0 elems h1;obtain⟨x,hx⟩:=hmk l;refine⟨x,?_,?_,?_⟩
      ·rw[hx];have hall: ∀i x j pv,l[i]? =some x->(I.full e x)[j]? =some pv-> ∃v,w.cell? ⟨a.block,a.off+i*P.cellsOf e+j,none⟩=some v/\RepP (fun b=>b<w.heap.size) w pv v:=fun i x j pv h1 h2=>by obtain⟨v,v1,v2,_⟩:=l4 i x j pv h1 h2;exact⟨v,by simpa using v1,v2⟩
       have hne:0<len-> ∃v,w.cell? (a.add (0*P.cellsOf e))=some v:=by intro hl;have h0:=h1.at (i:=0) (a:=0) (by rw[<-List.range_eq_range',List.getElem?_range hl]);obtain⟨b,_,hb2⟩:=h0;obtain⟨cs,g1,_⟩:=Ka.1 hb2;obtain⟨c1,c2⟩:=LP g1;have h0:=c2 0 (cs[0]'(by omega)) (Ta (by omega));have e0:(a.add (0*P.cellsOf e)).add 0=a.add (0*P.cellsOf e):=Sa rfl;rw[e0]at h0;exact⟨_,h0⟩
       have ha:0<len->a=⟨a.block,a.off,none⟩/\a.block<w.heap.size:=by intro hl;obtain⟨v,hv⟩:=hne hl;rw[Ef]at hv;have e0:a.add 0=a:=Sa rfl;rw[e0]at hv;obtain⟨q1,q2⟩:=MP hv;refine⟨?_,q2⟩;cases a;simp only at q1;subst q1;rfl
       refine ng.one (.sl _ (some a) len cap (P.cellsOf e) a.block a.off (fun i j=>(w.cell? ⟨a.block,a.off+i*P.cellsOf e+j,none⟩).getD undef) (by simp[l1]) hc.2.1 (fun hl=>congrArg some (ha hl).1) (fun hl=>(ha hl).2) (fun row hr=> ?_) (fun i row j x hi hj=> ?_) (fun i row j x hi hj=> ?_)) rfl
       ·obtain⟨z,_,rfl⟩:=Nb.1 hr;exact hI.len e z
       ·rw[Ra]at hi;cases hz:l[i]? with
        |none=>rw[hz]at hi;cases hi
        |some z=> rw[hz]at hi;cases hi;obtain⟨v,v1,_⟩:=hall i z j x hz hj;rw[v1];rfl
       ·rw[Ra]at hi;cases hz:l[i]? with
        |none=>rw[hz]at hi;cases hi
        |some z=> rw[hz]at hi;cases hi;obtain⟨v,v1,v2⟩:=hall i z j x hz hj;rw[v1];exact v2
      ·rw[hx];simp only[zq,bPV];have:=hb.slice (elems.map (·.1)) (rest.map (·.1));omega
      ·rw[hx];exact⟨l3,trivial⟩
     ·cases h
   ·obtain⟨gf,ho,hsz,hmk⟩:=hG.st t fs hg hu;have h:(if cs.length=P.cellsOf t then(fs.toList.mapM fun f=>DataW.trod enc P w 0 (fun _=>true) true fuel f.type ((cs.drop f.offset).take (P.cellsOf f.type))).map fun xs=>(DataW.agg (xs.map (·.1)),xs.flatMap (·.2))else none)=some (d,ps):=by
     revert h;cases cs with
     |nil=>exact id
     |cons c cs=>
      cases cs with
      |nil=>cases c<;>exact id
      |cons c' cs=>exact id
    split at h
    ·rename_i hl;obtain⟨xs,h1,h2⟩:=Ma.1 h;cases h2;obtain⟨pvs,q1,q2,q3,q4⟩:=XQ (P:=P) (I:=I) (G:=G) (bk:=bk) (D:=DataW.trod enc P w 0 (fun _=>true) true fuel) (w:=w) (fun t cs d ps=>ih t cs d ps) cs fs.toList 0 xs gf (fun i f hi=>by rw[ho i f hi];omega) (YC h1);obtain⟨x,hx⟩:=hmk pvs q1;refine⟨x,?_,?_,by rw[hx];exact q4⟩
     ·rw[hx];rw[List.drop_zero,<-hsz,<-hl,Vd]at q2;exact q2
     ·rw[hx];have:=hb.agg (xs.map (·.1));omega
    ·cases h
end
open Go.RowKit Go.ChangeShapes Go.WideShapes
section
variable {P:Program} {I:Ip}
def noA:Asg:=⟨fun _=> .free,fun _=> .no⟩
theorem XW{W:World}{pv:PV}{v:Value}(h:RepP (fun b=>b<W.heap.size) W pv v):RepP (Dom noA W) W pv v:=
 h.mono (fun b hb=>⟨hb,rfl,fun id k n e=>by cases e⟩) (fun b _=>rfl)
theorem rM{W:World}{r:Reach}{base:Nat}{t:TypeId}{v:Value}{u:TypeDesc}{x:EV I.C}(hx:Sl x=true)(hu:P.underlying t=some u)(hs: ∀fs,u≠ .struct fs)(ha: ∀n e,u≠ .array n e)(hok:Value.okWide P W r base t v)(hr:ng W v.cells.toList [pvE I x]):RepT noA W (.c x) v:=by
 have hok:Cell.okWide P W r base t v:=by unfold Value.okWide at hok;rw[hu]at hok;cases u<;>first|exact hok|exact absurd rfl (hs _)|exact absurd rfl (ha _ _)
 have hv:v.cells= #[v]:=by
  cases v<;>first|rfl|skip
  exfalso;unfold Cell.okWide at hok;rw[hu]at hok;cases u<;>simp only[Cell.ok,hu]at hok
 rw[hv]at hr;obtain⟨h1,h2⟩:=hr.2 0 v _ rfl rfl;exact⟨h2,(uh hx).2 (XW h1)⟩
theorem zOD{W:World}{r:Reach}{base:Nat}{t:TypeId}{v:Value}{fs:Array Field}{xs:List (EV I.C)}(hx:(xs.all Sl)=true)(hu:P.underlying t=some (.struct fs))(hok:Value.okWide P W r base t v)(hr:ng W v.cells.toList (xs.map (pvE I))):RepT noA W (.agg xs) v:=by
 unfold Value.okWide at hok;rw[hu]at hok;obtain⟨cs,rfl,_,_⟩:=hok;have hr:ng W cs.toList (xs.map (pvE I)):=hr;refine⟨cs,rfl,by have:=hr.1;simpa using this,fun j x hj=> ?_⟩;have hl:j<cs.toList.length:=by rw[hr.1,Fb];exact(Ja.1 hj).1
 have hv:cs.toList[j]? =some cs.toList[j]:=Ta hl;obtain⟨h1,h2⟩:=hr.2 j _ (pvE I x) hv (by rw[Ra,hj];rfl);exact⟨_,by rw[<-Ed];exact hv,h2,(uh (Pb.1 hx x (ma hj))).2 (XW h1)⟩
theorem zIO{W:World}:Gh (I:=I) noA W [] #[]:=⟨rfl,fun j t h=>by cases h⟩
theorem gD{W:World}{t:ET I.C}{ts:List (ET I.C)}{v:Value}{vs:List Value}(h:RepT noA W t v)(g:Gh noA W ts vs.toArray):Gh noA W (t::ts) (v::vs).toArray:=by
 refine⟨by have:=g.1;simpa using this,fun j x hx=> ?_⟩;cases j with
 |zero=>cases hx;exact⟨v,by simp,h⟩
 |succ j=> obtain⟨u,h1,h2⟩:=g.2 j x (by simpa using hx);exact⟨u,by simpa using h1,h2⟩
theorem zGT {con:Con I} (hc:ZL P con) {x:(con.inS.sl I).T} {y:(con.outS.sl I).T} (hF:con.F x=some y) {b:Bool} (hy:((con.outS.sl I).enc y).1=[.c (.bool b)]) (hin:((con.inS.sl I).enc x).2=[])
  {W:World} {vs:Array Value} (hg:Glob (Dom noA W) W) (hargs:Gh noA W ((con.inS.sl I).enc x).1 vs):
  Calls P con.f vs W fun e W'=>e= .returned (.bool b)/\Below W.heap.size W W':=by
 refine(hc.ok x y hF noA W vs ⟨fun i b k n e=>(by cases e),fun i j b k k' n n' e=>(by cases e),hg,fun b hb=>absurd rfl hb⟩ (fun _ _=>rfl) (fun o h=>by rw[hin]at h;cases h) hargs).mono fun e W' ⟨v,ι',he,S,_,hr,_,_⟩=> ?_;rw[hy]at hr;have hv:RepP (Dom ι' W') W' (.at (.bool b)) v:=hr.2;cases hv;exact⟨he,S.os,S.tape,S.output,S.size,fun k hk=>S.keep k ⟨hk,rfl,fun id k n e=>by cases e⟩⟩
theorem zJM {H:Type} {enc:TypeId×Value->H} {f:Func} {s:ChangeSpec} {apart fresh handsOn again:Bool} {W W':World} {args:Array Value} {ds gs:List (DataW H)} {before pa:List MemPlace} {tb:TypeId}
  (hW:DataW.Whole enc P f.params.toList s.vars apart W args.toList ds gs before) (hvars:s.vars=[]) (hrt:f.resultTypes= #[tb]) (htb:P.underlying tb=some .bool)
  (hres:(s.fn H (ds++gs)).results=[.lit (.bool true)]) (hvs:(s.fn H (ds++gs)).vars=[])
  (hargs: ∀sp:Nat->Bool,(∀p∈before,sp p.block=true)->DataW.TrodAll enc P W' 0 sp true f.params.toList args.toList (s.fn H (ds++gs)).args pa)
  (hps:before=pa) (hb:Below W.heap.size W W'):s.post enc P f apart fresh handsOn again W args (.bool true) W':=by
 have hlt: ∀p∈before,p.block<W.heap.size:=fun p hp=>hW.lt p hp;have hold: ∀p∈before,(fun b=>decide (b<W.heap.size)) p.block=true:=fun p hp=>by simpa using hlt p hp
 have hr: ∀(b:Nat) (sp:Nat->Bool) (hd:Bool),DataW.TrodAll enc P W' b sp hd f.resultTypes.toList ((Value.bool true).resultList f.resultTypes.size) (s.fn H (ds++gs)).results []:=by intro b sp hd;rw[hrt,hres];exact trodAll_cons_mk (shut_bool htb _) trodAll_mk0
 have hv: ∀sp:Nat->Bool,DataW.TrodVars enc P W' sp s.vars (s.fn H (ds++gs)).vars []:=by intro sp;rw[hvars,hvs];exact rfl
 refine⟨ds,gs,before,[],pa,[],hW,hr _ _ _,hargs _ hold,hv _,World.keptBut_mono (fun p hp=>⟨hp, .inr (.inl (by rw[<-hps];exact hp))⟩) (hb.frame (· ∈before)),fun _=> ?_⟩;obtain⟨_,_,_,_,_,hz,hn⟩:=hW;refine⟨ok_one hrt rfl (okWide_bool_mk htb _),_,_,([]++pa)++[],⟨[]++pa,[],trodAll_append (hargs _ (fun _ _=>rfl)) (hr _ _ _),hv _,rfl,?_,?_⟩,?_⟩
 ·intro b off hp;have hin:MemPlace.cell b off∈before:=by rw[hps];simpa using hp
  rw[hb.frozen (hlt _ hin)];exact hz b off hin
 ·intro ha;have:=hn ha;rw[hps]at this;simpa using this
 ·intro p hp _;rw[hps];simpa using hp
theorem ER{H:Type}{enc:TypeId×Value->H}(hl:laidOutB P=true){W W':World}(hb:Below W.heap.size W W')(sp:Nat->Bool): ∀(ts:List TypeId) (vs:List Value) (ds:List (DataW H)) (ps:List MemPlace),(∀t∈ts,P.readableRec t=true/\t<P.types.size)->
  DataW.TrodAll enc P W 0 (fun _=>true) true ts vs ds ps->(∀x∈ps,x.block<W.heap.size)->(∀x∈ps,sp x.block=true)->DataW.TrodAll enc P W' 0 sp true ts vs ds ps
 |[],vs,ds,ps,_,h,_,_=>by
  cases vs<;>cases ds<;>first|exact h|(cases h;done)
 |t::ts,vs,ds,ps,ht,h,hlt,hsp=>by obtain⟨v,vs',d,ds',p,q,rfl,rfl,rfl,h1,h2⟩:=trodAll_cons h;have h3:=ER hl hb sp ts vs' ds' q (fun t ht'=>ht t (Kb _ ht')) h2 (fun x hx=>hlt x (List.mem_append_right _ hx)) (fun x hx=>hsp x (List.mem_append_right _ hx));obtain⟨r1,r2⟩:=ht t (Ob ..);exact⟨p,q,WideElems.Trod_stays hl r1 r2 h1 (fun x hx=>hb.same (hlt x (jd _ hx))) (fun x hx=>hsp x (jd _ hx)),h3,rfl⟩
end
def Le{α:Type}(a b:Option α):Prop:= ∀y,a=some y->b=some y
theorem Le.rfl{α:Type}{a:Option α}:Le a a:=fun _ h=>h
theorem Le.none{α:Type}{b:Option α}:Le none b:=fun _ h=>by cases h
theorem Le.bind{α β:Type}{a a':Option α}{f f':α->Option β}(h:Le a a')(hf: ∀x,Le (f x) (f' x)):Le (za a f) (za a' f'):=by
 intro y hy;cases a with
 |none=>cases hy
 |some x=>rw[h x _root_.rfl];exact hf x y hy
theorem Le.bif{α:Type}{c:Bool}{a a' b b':Option α}(h:Le a a')(h':Le b b'):Le (bif c then a else b) (bif c then a' else b'):=by
 cases c
 ·exact h'
 ·exact h
theorem Le.need{α:Type}{c:Bool}{a a':Option α}(h:Le a a'):Le (Lv.need c a) (Lv.need c a'):=by
 cases c
 ·exact Le.rfl
 ·exact h
theorem Le.cond{α:Type}{c:Bool}{a a':Option α}{d:α}(h:Le a a'):Le (zF c a d) (zF c a' d):=by
 cases c
 ·exact Le.rfl
 ·exact h
theorem Le.map{α β:Type}{a a':Option α}{f:α->β}(h:Le a a'):Le (Option.map f a) (Option.map f a'):=by
 intro y hy;cases a with
 |none=>cases hy
 |some x=>rw[h x _root_.rfl];exact hy
theorem Le.join{X R:Type}{a a':Option (LX X R)}{k k':X->Option R}(h:Le a a')(hk: ∀x,Le (k x) (k' x)):Le (Zi a k) (Zi a' k'):=by
 intro y hy;cases a with
 |none=>cases hy
 |some x=>
  rw[h x _root_.rfl];cases x with
  |out x=>exact hk x y hy
  |ret r=>exact hy
def aU(n:Nat){S X R:Type}(step:S->Option (LO S X R))(s:S)(k:X->Option R):Option R:=
 match qd step n s with
 |some (.out x)=>k x
 |some (.ret r)=>some r
 |none=>none
theorem iC{S X R:Type}{step step':S->Option (LO S X R)}(h: ∀s,Le (step s) (step' s)): ∀(n:Nat) (s:S),Le (qd step n s) (qd step' n s)
 |0,_=>Le.none
 |n+1,s=>by
  intro y hy;simp only[qd]at hy ⊢;cases hs:step s with
  |none=>rw[hs]at hy;cases hy
  |some o=>
   rw[hs]at hy;rw[h s o hs];cases o with
   |again s'=>exact iC h n s' y hy
   |out x=>exact hy
   |ret r=>exact hy
theorem Le.loop{n:Nat}{S X R:Type}{step step':S->Option (LO S X R)}{s:S}{k k':X->Option R}(h: ∀s,Le (step s) (step' s))(hk: ∀x,Le (k x) (k' x)):Le (aU n step s k) (zU step' s k'):=by
 intro y hy;unfold aU at hy;cases hi:qd step n s with
 |none=>rw[hi]at hy;cases hy
 |some x=>
  rw[hi]at hy;rw[qP (Ai (iC h n s x hi))];cases x with
  |out x=>exact hk x y hy
  |ret r=>exact hy
theorem Le.loopU{S X R:Type}{step step':S->Option (LO S X R)}{s:S}{k k':X->Option R}(h: ∀s,Le (step s) (step' s))(hk: ∀x,Le (k x) (k' x)):Le (@zU fuK S X R step s k) (@zU pl S X R step' s k'):=by
 intro y hy;replace hy:(qd step 1000 s).bind (fun x=>match x with| .out x=>k x| .ret r=>some r)=some y:=hy;cases hi:qd step 1000 s with
 |none=>rw[hi]at hy;cases hy
 |some x=>
  rw[hi]at hy;rw[qP (Ai (iC h _ s x hi))];cases x with
  |out x=>exact hk x y hy
  |ret r=>exact hy
theorem Le.rec{X Y:Type}{B B':(X->Option Y)->X->Option Y}(h: ∀(S S':X->Option Y),(∀x,Le (S x) (S' x))-> ∀x,Le (B S x) (B' S' x))(n:Nat)(x:X):Le (Oh B n x) (recE B' x):=by
 have key: ∀(n k:Nat),n<=k-> ∀x,Le (Oh B n x) (Oh B' k x):=by
  intro n
  induction n with
  |zero=>intro k _ x;exact Le.none
  |succ n ih=>
   intro k hk x;cases k with
   |zero=>omega
   |succ k=>exact h _ _ (ih k (by omega)) x
 intro y hy;exact dO (N:=n) fun k hk=>key n k hk x y hy
variable {I:Ip}
theorem zM5{s:Shp I}{r:VL I}{n:Nat}(h: ∀x,(r.enc x).length=n): ∀x,((VL.cons s r).enc x).length=n+1:=by obtain⟨T,u,d,e,m⟩:=s;obtain⟨f,a,c,b,g⟩:=r;cases u<;>cases a<;>intro x<;>exact congrArg (· +1) (h _)
theorem oU: ∀(l:List Sh) (x:(vlOf I l).T),((vlOf I l).enc x).length=l.length
 |[],_=>rfl
 |s::l,x=>zM5 (s:=s.shp I) (oU l) x
theorem zOp(s:StSh): ∀x:(s.sl I).T,((s.sl I).enc x).1.length=s.vals.length:=by have h:=oU (I:=I) s.vals;unfold StSh.sl;revert h;generalize vlOf I s.vals=v;generalize olOf I s.objs=o;obtain⟨T,u,d,e,m⟩:=v;obtain⟨f,a,c,b,g⟩:=o;cases u<;>cases a<;>intro h x<;>exact h _
theorem zA{Q:Con I->Prop}: ∀c∈([]:List (Con I)),Q c:=fun c h=>by cases h
theorem memC{Q:Con I->Prop}{a:Con I}{l:List (Con I)}(h:Q a)(g: ∀c∈l,Q c): ∀c∈a::l,Q c:=fun c b=>by
 grind
def chk(con:Con I)(A:Env0 I)(f:Go.Func):Bool:=Bj con&&(f.body.isSome&&(!(f.name== "runtime.NumGoroutine")&&(A.p==con.inS.objs.length&&Nat.ble con.inS.vals.length f.ntmps)))
theorem okC0 {P:Program} {T:TT} {b:List (Nat×List Kd)} (a:P.follows .mixedOrders=true) (g:IpOK P I) (n:TOK P T b) {con:Con I} {f:Go.Func} {A:Env0 I} {exS:StSh} {c:Code} {rs:List ResultVar} (q:c=match f.body with|some c=>c|none=> .skip) (i:rs=f.results.toList)
  (e: ∀c∈A.S,ZL P c) (l:P.funcs[con.f]? =some f) (h:chk con A f=true) (m: ∀x,evF2 A T b f.ntmps rs c con exS x=con.F x):ZL P con:=by
 unfold chk at h;simp only[Da]at h;obtain⟨d,o,k,j,p⟩:=h;refine I8 (exS:=exS) a g e d n l ?_ ?_ (by simpa using k) (Db.1 j) (fun x=>by rw[zOp];simp_all) (fun x y h=>(m x).trans h)
 ·grind
 ·rw[i]
section
variable {P:Program} {I:Ip}
theorem zFY (hI:IpOK P I) {f t:Nat} {vals:List Sh} {F:((⟨vals,[]⟩:StSh).sl I).T->Option (List (I.C t))} (hwf:Bj (⟨f,⟨vals,[]⟩,[],⟨[.sl t],[]⟩,0,F⟩:Con I)=true)
  (h:ZL P (⟨f,⟨vals,[]⟩,[],⟨[.own 0],[(0, .sl t)]⟩,1,F⟩:Con I)):ZL P (⟨f,⟨vals,[]⟩,[],⟨[.sl t],[]⟩,0,F⟩:Con I):=
 ⟨hwf,h.fn,fun x y hxy ι w vs W hfr hobj hv=>(h.ok x y hxy ι w vs W hfr hobj hv).mono fun e w' ⟨v,ι',he,S,W',hr,ho,_⟩=>by
  obtain⟨ys,hys⟩: ∃ys:List (I.C t),ys=y:=⟨y,rfl⟩;replace hr:RepT (I:=I) ι' w' (.c (.own 0)) v:=by subst hys;exact hr
  replace ho:Qd P ι' w' 0 (.sl t ys):=by subst hys;exact ho _ (Ob ..)
  obtain⟨b,e1,hb⟩:=(Zo rfl).1 ho;have dom: ∀b,Dom ι' w' b->Dom ⟨fun _=> .free,ι'.X⟩ w' b:=fun b hb=>⟨hb.1,hb.2.1,fun i k n e=>by cases e⟩;refine⟨v,⟨fun _=> .free,ι'.X⟩,he,⟨⟨S.shape,fun b hb=>dom b (S.dom b hb),S.keep⟩,S.os,S.tape,S.output,S.size,fun i b k n _ e=>(by rw[hfr i (Va i)]at e;cases e),fun i h0=>absurd (hfr i (Va i)) h0,fun i _ h0=>absurd (hfr i (Va i)) h0,S.xs,S.xn,S.xkeep⟩,
   ⟨fun i b k n e=>(by cases e),fun i j b k k' n n' e=>(by cases e),fun q hq=>let⟨h1,h2⟩:=W'.glob q hq;⟨dom _ h1,h2⟩,W'.xlt⟩,?_,fun o ho=> ?_,fun i _=>rfl⟩
  ·obtain⟨h1,h2⟩:=hr;have h2:SlS ι' w' (ι' 0) none v:=h2;rw[e1]at h2;subst hys;exact⟨h1,VB hI dom hb (fun b' e=>by
    subst e;obtain⟨q1,q2⟩:=W'.lt _ _ _ _ e1;exact⟨q1,q2,fun i k n e=>by cases e⟩) rfl (by simp[Zd]) h2⟩
  ·cases ho⟩
end
end Go.Lv
end
