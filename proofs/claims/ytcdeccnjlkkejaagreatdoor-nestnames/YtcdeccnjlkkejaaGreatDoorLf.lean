/- The primitives of the plain texts of functions, and their laws. -/
import Derived.Test.YtcdeccnjlkkejaaGreatDoorLc
import Derived.IntWalk
import Derived.Lib.Index
import Derived.Lib.IndexMore
import Derived.Lib.IndexAny
import Derived.Lib.SlTrimSet
import Derived.Lib.TrimByte
import Derived.Lib.ItoaNum
import Derived.Test.YtcdeccnjlkkejaaGreatDoorLe
import Derived.Lib.Strings
import Derived.Lib.Bytealg
import GoSem.ClaimChange
import Derived.Below
import Derived.ChangeSame
import Derived.Carry
import Derived.ProofKit
import Derived.OpenShut
import Derived.Test.YtcdeccnjlkkejaaGreatDoorLd
set_option linter.unusedSimpArgs false
set_option linter.unusedVariables false
namespace Go.Lv
abbrev Str:=List UInt8
abbrev w8(n:Int):Int:=IntKind.i8.wrap n
abbrev w32(n:Int):Int:=IntKind.i32.wrap n
abbrev w64(n:Int):Int:=IntKind.i64.wrap n
abbrev wu8(n:Int):Int:=IntKind.u8.wrap n
abbrev wu32(n:Int):Int:=IntKind.u32.wrap n
abbrev wu64(n:Int):Int:=IntKind.u64.wrap n
def lg(k:IntKind)(x y:Int):Int:=k.wrap (BitVec.ofInt k.bits x &&& BitVec.ofInt k.bits y).toNat
def ibOr(k:IntKind)(x y:Int):Int:=k.wrap (BitVec.ofInt k.bits x ||| BitVec.ofInt k.bits y).toNat
def Kq(k:IntKind)(x y:Int):Int:=k.wrap (x*2 ^ (min y.toNat k.bits))
def kg(k:IntKind)(x y:Int):Int:=x.fdiv (2 ^ (min y.toNat k.bits))
def ZZ(n:Int):Option UInt8:=cond (decide (0<=n)&&decide (n<=255)) (some (UInt8.ofNat n.toNat)) none
theorem oL{n:Int}{b:UInt8}(h:ZZ n=some b):n=((b.toNat:Nat):Int):=by
 unfold ZZ at h;cases hc:(decide (0<=n)&&decide (n<=255))with
 |false=>rw[hc]at h;cases h
 |true=> rw[hc]at h;simp only[Ca,Lb]at hc;injection h with h;subst h;rw[UInt8.toNat_ofNat'];omega
@[simp] theorem zs6 (b : UInt8) : ZZ ((b.toNat : Nat) : Int) = some b := by
 unfold ZZ;have:=UInt8.toNat_lt b;have h:(decide ((0:Int)<=((b.toNat:Nat):Int))&&decide (((b.toNat:Nat):Int)<=255))=true:=by simp only[Ca,Lb];omega
 rw[h];simp
abbrev ze{α β:Type}(x:Option α)(f:α->Option β):Option β:=x.bind f
noncomputable def qX{S X R:Type}(step:S->Option (LO S X R))(s:S)(k:X->Option R):Option R:=
 (Rh step s).bind fun
 | .out x=>k x
 | .ret r=>some r
def zT{X R:Type}(m:Option (LX X R))(k:X->Option R):Option R:=
 m.bind fun
 | .out x=>k x
 | .ret r=>some r
def Tg{X Y:Type}(B:(X->Option Y)->X->Option Y):Nat->X->Option Y
 |0,_=>none
 |n+1,x=>B (Tg B n) x
open Classical in
noncomputable def recE{X Y:Type}(B:(X->Option Y)->X->Option Y)(x:X):Option Y:=
 if h: ∃y,∃N,∀n,N<=n->Tg B n x=some y then some h.choose else none
theorem MB{X Y:Type}{B:(X->Option Y)->X->Option Y}{x:X}{y:Y}{N:Nat}(h: ∀n,N<=n->Tg B n x=some y):recE B x=some y:=by have hx: ∃y,∃N,∀n,N<=n->Tg B n x=some y:=⟨y,N,h⟩;unfold recE;rw[dif_pos hx];obtain⟨M,hM⟩:=hx.choose_spec;have h1:=hM (max N M) (Df ..);rw[h _ (Rf ..)]at h1;exact h1.symm
theorem Ox {X Y:Type} {B:(X->Option Y)->X->Option Y} (μ:X->Nat) (ok:X->Prop) (f:X->Y)
  (hB: ∀(S:X->Option Y) (x:X),ok x->(∀z,ok z->μ z<μ x->S z=some (f z))->B S x=some (f x)) {x:X} (hx:ok x):recE B x=some (f x):=by
 have key: ∀(m:Nat) (n:Nat) (x:X),μ x<m->m<=n->ok x->Tg B n x=some (f x):=by
  intro m
  induction m with
  |zero=>intro n x h;omega
  |succ m ih=>
   intro n x hm hn hok;cases n with
   |zero=>omega
   |succ n=>exact hB _ x hok fun z hz hlt=>ih n z (by omega) (by omega) hz
 exact MB (N:=μ x+1) fun n hn=>key (μ x+1) n x (by omega) hn hx
theorem JL{X Y:Type}{B:(X->Option Y)->X->Option Y}{x:X}{y:Y}(h:recE B x=some y): ∃n,Tg B n x=some y:=by
 unfold recE at h;split at h
 ·rename_i hx;injection h with h;obtain⟨N,hN⟩:=hx.choose_spec;exact⟨N,by rw[hN N (Ma _),h]⟩
 ·cases h
theorem Gy{S X R:Type}{step:S->Option (LO S X R)}: ∀{n m:Nat} {s:S} {x:LX X R},ae step n s=some x->n<=m->ae step m s=some x
 |0,_,_,_,h,_=>by cases h
 |n+1,0,_,_,_,hm=>by omega
 |n+1,m+1,s,x,h,hm=>by
  simp only[ae]at h ⊢;split at h
  ·cases h
  ·exact Gy h (by omega)
  ·exact h
  ·exact h
theorem Es{S X R:Type}{step:S->Option (LO S X R)}{s:S}{x:LX X R}{n:Nat}(h:ae step n s=some x):Rh step s=some x:=by have hx: ∃n x,ae step n s=some x:=⟨n,x,h⟩;unfold Rh;rw[dif_pos hx];have h1:=hx.choose_spec.choose_spec;have h2:=Gy h (Rf n hx.choose);have h3:=Gy h1 (Df n hx.choose);rw[h2]at h3;exact h3.symm
theorem uw {S X R:Type} {step:S->Option (LO S X R)} (Inv:S->Prop) (μ:S->Nat) (r:LX X R)
  (h: ∀s,Inv s->(∃s',step s=some (.again s')/\Inv s'/\μ s'<μ s)\/(∃x,step s=some (.out x)/\r= .out x)\/(∃y,step s=some (.ret y)/\r= .ret y)) {s:S} (hs:Inv s):Rh step s=some r:=by
 have key: ∀(m:Nat) (s:S),μ s<m->Inv s->ae step m s=some r:=by
  intro m
  induction m with
  |zero=>intro s h;omega
  |succ m ih=>
   intro s hm hs;simp only[ae];rcases h s hs with⟨s',h1,h2,h3⟩|⟨x,h1,h2⟩|⟨y,h1,h2⟩
   ·rw[h1];exact ih s' (by omega) h2
   ·rw[h1,h2]
   ·rw[h1,h2]
 exact Es (key (μ s+1) s (by omega) hs)
theorem YO{S X R:Type}{step:S->Option (LO S X R)}{s s':S}{r:LX X R}(h:step s=some (.again s'))(h': ∃n,ae step n s'=some r): ∃n,ae step n s=some r:=by obtain⟨n,hn⟩:=h';exact⟨n+1,by simp only[ae,h];exact hn⟩
@[simp] theorem zcY {X R : Type} (x : X) (k : X -> Option R) : zT (some (.out x)) k = k x := rfl
@[simp] theorem zsE {X R : Type} (r : R) (k : X -> Option R) : zT (some (.ret r)) k = some r := rfl
@[simp] theorem zaL {R : Type} (x : Option R) : need true x = x := rfl
@[simp] theorem zbV {α : Type} (x : Option α) (d : α) : zY true x d = x := rfl
@[simp] theorem zlW {α : Type} (x : Option α) (d : α) : zY false x d = some d := rfl
def LX.go{X R:Type}(r:LX X R)(k:X->Option R):Option R:=match r with| .out x=>k x| .ret y=>some y
@[simp] theorem zo8 {X R : Type} (x : X) (k : X -> Option R) : (LX.out x : LX X R).go k = k x := rfl
@[simp] theorem go_ret {X R : Type} (y : R) (k : X -> Option R) : (LX.ret y : LX X R).go k = some y := rfl
theorem Ko{S X R:Type}{step:S->Option (LO S X R)}{s:S}{k:X->Option R}{r:LX X R}(h:Rh step s=some r):qX step s k=r.go k:=by unfold qX;rw[h];cases r<;>rfl
def Ai{α A X R:Type}(g:α->A->Option (LO A X R))(fin:A->Option (LX X R)):List α->A->Option (LX X R)
 |[],a=>fin a
 |v::l,a=>match g v a with
  |none=>none
  |some (.again a')=>Ai g fin l a'
  |some (.out x)=>some (.out x)
  |some (.ret r)=>some (.ret r)
theorem Ao{α:Type}{l:List α}{i:Nat}(h:i<l.length):geti l (i:Int)=some l[i]:=by
 unfold geti;have h0:decide ((0:Int)<=(i:Int))=true:=by simp
 rw[h0];simp[h]
theorem KN {α A X R S:Type} {step:S->Option (LO S X R)} (l:List α) (st:Nat->A->S) (g:α->A->Option (LO A X R)) (fin:A->Option (LX X R)) (Inv:Nat->A->Prop)
  (hg: ∀(i:Nat) (a:A) (h:i<l.length),Inv i a->step (st i a)=((g l[i] a).map fun
   | .again a'=> .again (st (i+1) a')
   | .out x=> .out x
   | .ret r=> .ret r)/\ ∀a',g l[i] a=some (.again a')->Inv (i+1) a')
  (hf: ∀a,Inv l.length a->step (st l.length a)=(fin a).map fun
   | .out x=> .out x
   | .ret r=> .ret r) {a:A} {r:LX X R} (h0:Inv 0 a) (h:Ai g fin l a=some r):Rh step (st 0 a)=some r:=by
 have key: ∀(k:Nat) (i:Nat) (a:A),i+k=l.length->Inv i a->Ai g fin (l.drop i) a=some r-> ∃n,ae step n (st i a)=some r:=by
  intro k
  induction k with
  |zero=>
   intro i a hi hI ho;have hi:i=l.length:=by omega
   subst hi;rw[List.drop_length]at ho;refine⟨1,?_⟩;simp only[ae,hf a hI];simp only[Ai]at ho;rw[ho];cases r<;>rfl
  |succ k ih=>
   intro i a hi hI ho;have hlt:i<l.length:=by omega
   rw[ib hlt]at ho;simp only[Ai]at ho;obtain⟨hs,hI'⟩:=hg i a hlt hI;cases hgv:g l[i] a with
   |none=>rw[hgv]at ho;cases ho
   |some o=>
    rw[hgv]at ho hs;cases o with
    |again a'=>exact YO hs (ih (i+1) a' (by omega) (hI' a' hgv) ho)
    |out x=>cases ho;exact⟨1,by simp only[ae];rw[hs];rfl⟩
    |ret y=>cases ho;exact⟨1,by simp only[ae];rw[hs];rfl⟩
 obtain⟨n,hn⟩:=key l.length 0 a (by omega) h0 (by simpa using h);exact Es hn
theorem Cs {α A X R S:Type} {step:S->Option (LO S X R)} {k:X->Option R} (l:List α) (st:Nat->A->S) (g:α->A->Option (LO A X R)) (fin:A->Option (LX X R)) (Inv:Nat->A->Prop) {s0:S} {a:A} (h0:s0=st 0 a) (hi:Inv 0 a)
  (hg: ∀(i:Nat) (a:A) (h:i<l.length),Inv i a->step (st i a)=((g l[i] a).map fun
   | .again a'=> .again (st (i+1) a')
   | .out x=> .out x
   | .ret r=> .ret r)/\ ∀a',g l[i] a=some (.again a')->Inv (i+1) a')
  (hf: ∀a,Inv l.length a->step (st l.length a)=(fin a).map fun
   | .out x=> .out x
   | .ret r=> .ret r) {r:LX X R} (h:Ai g fin l a=some r):qX step s0 k=r.go k:=by
 subst h0;have:=KN l st g fin Inv hg hf hi h;unfold qX;rw[this];cases r<;>rfl
theorem uo{α A X R:Type}{g:α->A->Option (LO A X R)}{fin:A->Option (LX X R)}(f:A->α->A)(hg: ∀v a,g v a=some (.again (f a v))): ∀(l:List α) (a:A),Ai g fin l a=fin (l.foldl f a)
 |[],a=>rfl
 |v::l,a=>by simp only[Ai,hg,Pe];exact uo f hg l _
theorem Sj{n:Int}(h1: -9223372036854775808<=n)(h2:n<=9223372036854775807):IntKind.i64.wrap n=n:=IntWalk.i64_in n ⟨h1,h2⟩
theorem Rj{n m b:Nat}(h:(n+m)*b<=140737488355328):zC n m b=true:=Od h
end Go.Lv

namespace Go.Proofs
def Cl.cleanS:List UInt8->List UInt8
 |[]=>[]
 |13::10::r=>10::Cl.cleanS r
 |c::r=>bif c==0 then 239::191::189::Cl.cleanS r else bif c==12||c==13 then 10::Cl.cleanS r else c::Cl.cleanS r
end Go.Proofs
namespace Go.Lv
def Pk(s:Str):Option (Str×Int):=some (if 4000<s.length then([],28)else(Proofs.Cl.cleanS s,0))
def short(l:Str):Bool:=decide (l.length<4294967281)
def Dj(l:Str):Bool:=l.all fun b=>decide (b.toNat<128)
def Kj(x:Str×Str):Option Int:=need (short x.1) (some (Lib.index x.1 x.2))
def cutF(x:Str×Str):Option (Str×Str×Bool):=need (short x.1) (some (Lib.cut x.1 x.2))
def si(x:Str×Str):Option Str:=need (short x.2&&Dj x.2) (some (Lib.trimLeftS x.1 x.2))
def Tk(x:Str×Str):Option Str:=match x.2 with
 |[c]=>need (decide (c.toNat<128)&&short x.1) (some (Lib.trimRightB x.1 c))
 |_=>none
def wo(x:Str×Str):Option Int:=need (short x.1&&short x.2&&Dj x.1&&Dj x.2) (some (Lib.indexAny x.1 x.2))
def i64B(n:Int):Bool:=decide (-9223372036854775808<=n)&&decide (n<=9223372036854775807)
def uq(x:Int×Int):Option Str:=need (decide (x.2=10)&&i64B x.1) (some (Lib.itoa x.1))
def Dt(x:(Int×Int)×Str):Option Str:=need (decide (x.1.2=10)&&decide (0<=x.1.1)&&decide (x.1.1<=9223372036854775807)&&short x.2) (some (x.2++Lib.decDigits x.1.1.toNat))
def hexD(n:Nat):UInt8:=UInt8.ofNat (if n<10 then 48+n else 87+n)
def hexS(n:Nat):Str:=if n<16 then [hexD n]else [hexD (n / 16),hexD (n%16)]
def Bt(x:(Int×Int)×Str):Option Str:=need (decide (x.1.2=16)&&decide (0<=x.1.1)&&decide (x.1.1<256)&&short x.2) (some (x.2++hexS x.1.1.toNat))
def yn(x:Str×Int):Option Int:=some (Lib.indexByte x.1 x.2.toNat.toUInt8)
section
variable {I:Ip} {P:Program}
theorem YD{D:Nat->Prop}{w:World}{u v:Value}(h:RepP D w (.at u) v):v=u:=by cases h;rfl
theorem Fy{D:Nat->Prop}{w:World}{l:List UInt8}{v:Value}(h:RepP D w (.str l) v):v= .string ⟨l.toArray⟩:=by cases h;rfl
theorem jM {f:FuncId} {fn:Go.Func} (hf:P.funcs[f]? =some fn) (hn:(fn.name== "runtime.NumGoroutine")=false) (hb:fn.body.isSome=true)
  (h: ∀(s:ByteArray) (c:Int) (w:World),Calls P f #[.string s, .int .u8 c] w fun e w'=>e= .returned (.int .i64 (Lib.indexByte s.data.toList c.toNat.toUInt8))/\w'=w):
  zm P (⟨f,⟨[.str, .int .u8],[]⟩,[],⟨[.int .i64],[]⟩,0,yn⟩:Con I)where
 wf:=rfl
 ok:=fun x y hxy ρ nx _ _ _=>by
  obtain⟨l,c⟩:=x;cases hxy;refine⟨⟨fn,hf,hn,hb⟩,fun ι get w N vs hR _ _ ha _=> ?_⟩;obtain⟨hs,ha⟩:=ha;obtain⟨u0,hu0,_,hr0⟩:=ha 0 _ rfl;obtain⟨u1,hu1,_,hr1⟩:=ha 1 _ rfl;have e0:u0= .string ⟨l.toArray⟩:=Fy hr0;have e1:u1= .int .u8 c:=YD hr1;subst e0;subst e1;have hv:vs= #[.string ⟨l.toArray⟩, .int .u8 c]:=by
   have hs:vs.size=2:=hs;apply Array.ext
   ·simp[hs]
   ·intro i hi hi';have:i=0\/i=1:=by omega
    rcases this with rfl|rfl
    ·exact(Ub.1 hu0).2
    ·exact(Ub.1 hu1).2
  subst hv;refine(h ⟨l.toArray⟩ c w).mono ?_;rintro e w' ⟨rfl,rfl⟩;refine⟨_,rfl,qw hR ⟨rfl,?_⟩⟩;exact .at _ rfl
end
inductive All2 {α β:Type} (R:α->β->Prop):List α->List β->Prop where
 |nil:All2 R [] []
 |cons {a:α} {b:β} {l:List α} {m:List β} (h:R a b) (t:All2 R l m):All2 R (a::l) (b::m)
section
variable {I:Ip} {P:Program}
theorem wK{X Y:Type}(B:(X->Option Y)->X->Option Y)(n:Nat):Tg B n=Nat.rec (motive:=fun _=>X->Option Y) (fun _=>Option.none) (fun _ S=>B S) n:=by
 induction n with
 |zero=>rfl
 |succ n ih=>funext x;show B (Tg B n) x=B _ x;rw[ih]
theorem zm.recE {f:Nat} {inS:StSh} {cst:List Nat} {outS:StSh} {k:Nat} (B:((inS.sl I).T->Option (outS.sl I).T)->(inS.sl I).T->Option (outS.sl I).T)
  (hwf:Og (⟨f,inS,cst,outS,k,fun _=>Option.none⟩:Con I)=true) (hB: ∀S,zm P (⟨f,inS,cst,outS,k,S⟩:Con I)->zm P (⟨f,inS,cst,outS,k,B S⟩:Con I)):zm P (⟨f,inS,cst,outS,k,Lv.recE B⟩:Con I):=
 zm.recf B hwf hB fun x y h=>by obtain⟨n,hn⟩:=JL h;exact⟨n,by rw[<-wK];exact hn⟩
end
structure ztt (bk:{H:Type}->DataW H->Nat):Prop where
 one: ∀{H:Type} (d:DataW H),1<=bk d
 str: ∀{H:Type} (l:List UInt8),bk (DataW.lit (H:=H) (.string l))=l.length+1
 slice: ∀{H:Type} (a b:List (DataW H)),(a.map bk).sum+1<=bk (.slice a b)
 agg: ∀{H:Type} (a:List (DataW H)),(a.map bk).sum+1<=bk (.agg a)
structure IpRd (P:Program) (I:Ip) (G:Nat->Prop):Prop where
 int: ∀t k,G t->P.underlying t=some (.int k)-> ∀n,k.min<=n->n<=k.max-> ∃x:I.C t,I.full t x=[.at (.int k n)]
 bool: ∀t,G t->P.underlying t=some .bool-> ∀b,∃x:I.C t,I.full t x=[.at (.bool b)]
 str: ∀t,G t->P.underlying t=some .string-> ∀l,∃x:I.C t,I.full t x=[.str l]
 sl: ∀t e,G t->P.underlying t=some (.slice e)->G e/\0<P.cellsOf e/\ ∀l:List (I.C e),∃x:I.C t,I.full t x=[.sl (l.map (I.full e))]
 st: ∀t fs,G t->P.underlying t=some (.struct fs)->(∀f∈fs.toList,G f.type)/\(∀(i:Nat) f,fs.toList[i]? =some f->f.offset=((fs.toList.take i).map fun f=>P.cellsOf f.type).sum)/\P.cellsOf t=(fs.toList.map fun f=>P.cellsOf f.type).sum/\
  ∀pvs:List (List PV),All2 (fun(f:Field) p=> ∃y:I.C f.type,I.full f.type y=p) fs.toList pvs-> ∃x:I.C t,I.full t x=pvs.flatten
 only: ∀t u,G t->P.underlying t=some u->(∃k,u= .int k)\/u= .bool\/u= .string\/(∃e,u= .slice e)\/(∃fs,u= .struct fs)
theorem All2.len{α β:Type}{R:α->β->Prop}{l:List α}{m:List β}(h:All2 R l m):l.length=m.length:=by
 induction h with
 |nil=>rfl
 |cons _ _ ih=>simp[ih]
theorem All2.at{α β:Type}{R:α->β->Prop}{l:List α}{m:List β}(h:All2 R l m): ∀{i:Nat} {a:α},l[i]? =some a-> ∃b,m[i]? =some b/\R a b:=by
 induction h with
 |nil=>intro i a h;cases h
 |cons h t ih=>
  intro i a hi;cases i with
  |zero=>cases hi;exact⟨_,rfl,h⟩
  |succ i=>exact ih hi
def aj(w:World)(cs:List Value)(pvs:List PV):Prop:=cs.length=pvs.length/\ ∀(j:Nat) v pv,cs[j]? =some v->pvs[j]? =some pv->RepP (fun b=>b<w.heap.size) w pv v/\v.oneCell'=true
theorem aj.one{w:World}{v:Value}{pv:PV}(h:RepP (fun b=>b<w.heap.size) w pv v)(ho:v.oneCell'=true):aj w [v] [pv]:=by
 refine⟨rfl,fun j u q hu hq=> ?_⟩;cases j with
 |zero=>cases hu;cases hq;exact⟨h,ho⟩
 |succ j=>cases hu
theorem aj.append{w:World}{a b:List Value}{p q:List PV}(h:aj w a p)(g:aj w b q):aj w (a++b) (p++q):=by
 refine⟨by simp[h.1,g.1],fun j v pv hv hp=> ?_⟩;by_cases hj:j<a.length
 ·rw[Ua hj]at hv;rw[Ua (by rw[<-h.1];exact hj)]at hp;exact h.2 j v pv hv hp
 ·rw[Mc (by omega)]at hv;rw[Mc (by have:=h.1;omega),<-h.1]at hp;exact g.2 _ v pv hv hp
section
end
open Go.RowKit Go.ChangeShapes Go.WideShapes
section
variable {P:Program} {I:Ip}
def noA:Asg:=fun _=> .free
theorem kJ{W:World}:bg noA W [] #[]:=⟨rfl,fun j t h=>by cases h⟩
theorem uK {con:Con I} (hc:zm P con) (hi:con.inS.objs=[]) (ho:con.outS=⟨[.bool],[]⟩) (hk:con.k=0) {x:(con.inS.sl I).T} {y:(con.outS.sl I).T} (hF:con.F x=some y) {b:Bool} (hy:((con.outS.sl I).enc y).1=[.c (.bool b)]) (hin:((con.inS.sl I).enc x).2=[]) (hyo:((con.outS.sl I).enc y).2=[])
  {W:World} {vs:Array Value} (hg:Glob (Dom noA W) W) (hargs:bg noA W (((con.inS.sl I).enc x).1.map (trT (fun i=>i) (lk []))) vs):
  Calls P con.f vs W fun e W'=>e= .returned (.bool b)/\Below W.heap.size W W':=by
 have h:=hc.ok x y hF (fun i=>i) 0 (fun i j hi'=>by rw[hi]at hi';simp at hi') (fun i hi'=>by rw[hi]at hi';simp at hi') (fun j=>by rw[hi];simp);rw[hin,hyo,hy,hi,hk]at h;refine(h.ok noA (fun _=>none) W 0 vs ⟨fun id o ho=>by(cases ho),fun id _=> .inl rfl,fun i j b k k' h=>by(cases h),hg⟩ (fun id _=>rfl) (fun j _=>rfl) hargs (fun p hp=>by cases hp)).mono fun e W' ⟨v,he,ι',h1,h2,h3,h4⟩=> ?_;have hv:RepP (Dom ι' W') W' (.at (.bool b)) v:=h2.2;cases hv;exact⟨he,h3.os,h3.tape,h3.output,h3.size,fun k hk=>h3.keep k ⟨hk,fun id n e=>by cases e⟩⟩
theorem xJ {H:Type} {enc:TypeId×Value->H} {f:Func} {s:ChangeSpec} {apart fresh handsOn again:Bool} {W W':World} {args:Array Value} {ds gs:List (DataW H)} {before pa:List MemPlace} {tb:TypeId}
  (hW:DataW.Whole enc P f.params.toList s.vars apart W args.toList ds gs before) (hvars:s.vars=[]) (hrt:f.resultTypes= #[tb]) (htb:P.underlying tb=some .bool)
  (hres:(s.fn H (ds++gs)).results=[.lit (.bool true)]) (hvs:(s.fn H (ds++gs)).vars=[])
  (hargs: ∀sp:Nat->Bool,(∀p∈before,sp p.block=true)->DataW.TrodAll enc P W' 0 sp true f.params.toList args.toList (s.fn H (ds++gs)).args pa)
  (hps:before=pa) (hb:Below W.heap.size W W'):s.post enc P f apart fresh handsOn again W args (.bool true) W':=by
 have hlt: ∀p∈before,p.block<W.heap.size:=fun p hp=>hW.lt p hp;have hold: ∀p∈before,(fun b=>decide (b<W.heap.size)) p.block=true:=fun p hp=>by simpa using hlt p hp
 have hr: ∀(b:Nat) (sp:Nat->Bool) (hd:Bool),DataW.TrodAll enc P W' b sp hd f.resultTypes.toList ((Value.bool true).resultList f.resultTypes.size) (s.fn H (ds++gs)).results []:=by intro b sp hd;rw[hrt,hres];exact trodAll_cons_mk (shut_bool htb _) trodAll_mk0
 have hv: ∀sp:Nat->Bool,DataW.TrodVars enc P W' sp s.vars (s.fn H (ds++gs)).vars []:=by intro sp;rw[hvars,hvs];exact rfl
 refine⟨ds,gs,before,[],pa,[],hW,hr _ _ _,hargs _ hold,hv _,World.keptBut_mono (fun p hp=>⟨hp, .inr (.inl (by rw[<-hps];exact hp))⟩) (hb.frame (· ∈before)),fun _=> ?_⟩;obtain⟨_,_,_,_,_,hz,hn⟩:=hW;refine⟨ok_one hrt rfl (okWide_bool_mk htb _),_,_,([]++pa)++[],⟨[]++pa,[],trodAll_append (hargs _ (fun _ _=>rfl)) (hr _ _ _),hv _,rfl,?_,?_⟩,?_⟩
 ·intro b off hp;have hin:MemPlace.cell b off∈before:=by rw[hps];simpa using hp
  rw[hb.frozen (hlt _ hin)];exact hz b off hin
 ·intro ha;have:=hn ha;rw[hps]at this;simpa using this
 ·intro p hp _;rw[hps];simpa using hp
end
def Le{α:Type}(a b:Option α):Prop:= ∀y,a=some y->b=some y
theorem Le.rfl{α:Type}{a:Option α}:Le a a:=fun _ h=>h
theorem Le.none{α:Type}{b:Option α}:Le none b:=fun _ h=>by cases h
theorem Le.bind{α β:Type}{a a':Option α}{f f':α->Option β}(h:Le a a')(hf: ∀x,Le (f x) (f' x)):Le (ze a f) (ze a' f'):=by
 intro y hy;cases a with
 |none=>cases hy
 |some x=>rw[h x _root_.rfl];exact hf x y hy
theorem Le.bif{α:Type}{c:Bool}{a a' b b':Option α}(h:Le a a')(h':Le b b'):Le (bif c then a else b) (bif c then a' else b'):=by
 cases c
 ·exact h'
 ·exact h
theorem Le.need{α:Type}{c:Bool}{a a':Option α}(h:Le a a'):Le (Lv.need c a) (Lv.need c a'):=by
 cases c
 ·exact Le.rfl
 ·exact h
theorem Le.cond{α:Type}{c:Bool}{a a':Option α}{d:α}(h:Le a a'):Le (zY c a d) (zY c a' d):=by
 cases c
 ·exact Le.rfl
 ·exact h
theorem Le.map{α β:Type}{a a':Option α}{f:α->β}(h:Le a a'):Le (Option.map f a) (Option.map f a'):=by
 intro y hy;cases a with
 |none=>cases hy
 |some x=>rw[h x _root_.rfl];exact hy
theorem Le.join{X R:Type}{a a':Option (LX X R)}{k k':X->Option R}(h:Le a a')(hk: ∀x,Le (k x) (k' x)):Le (zT a k) (zT a' k'):=by
 intro y hy;cases a with
 |none=>cases hy
 |some x=>
  rw[h x _root_.rfl];cases x with
  |out x=>exact hk x y hy
  |ret r=>exact hy
def Bf(n:Nat){S X R:Type}(step:S->Option (LO S X R))(s:S)(k:X->Option R):Option R:=
 match ae step n s with
 |some (.out x)=>k x
 |some (.ret r)=>some r
 |none=>none
theorem vB{S X R:Type}{step step':S->Option (LO S X R)}(h: ∀s,Le (step s) (step' s)): ∀(n:Nat) (s:S),Le (ae step n s) (ae step' n s)
 |0,_=>Le.none
 |n+1,s=>by
  intro y hy;simp only[ae]at hy ⊢;cases hs:step s with
  |none=>rw[hs]at hy;cases hy
  |some o=>
   rw[hs]at hy;rw[h s o hs];cases o with
   |again s'=>exact vB h n s' y hy
   |out x=>exact hy
   |ret r=>exact hy
theorem Le.loop{n:Nat}{S X R:Type}{step step':S->Option (LO S X R)}{s:S}{k k':X->Option R}(h: ∀s,Le (step s) (step' s))(hk: ∀x,Le (k x) (k' x)):Le (Bf n step s k) (qX step' s k'):=by
 intro y hy;unfold Bf at hy;cases hi:ae step n s with
 |none=>rw[hi]at hy;cases hy
 |some x=>
  rw[hi]at hy;rw[Ko (Es (vB h n s x hi))];cases x with
  |out x=>exact hk x y hy
  |ret r=>exact hy
theorem Le.rec{X Y:Type}{B B':(X->Option Y)->X->Option Y}(h: ∀(S S':X->Option Y),(∀x,Le (S x) (S' x))-> ∀x,Le (B S x) (B' S' x))(n:Nat)(x:X):Le (Tg B n x) (recE B' x):=by
 have key: ∀(n k:Nat),n<=k-> ∀x,Le (Tg B n x) (Tg B' k x):=by
  intro n
  induction n with
  |zero=>intro k _ x;exact Le.none
  |succ n ih=>
   intro k hk x;cases k with
   |zero=>omega
   |succ k=>exact h _ _ (ih k (by omega)) x
 intro y hy;exact MB (N:=n) fun k hk=>key n k hk x y hy
variable {I:Ip}
theorem gH{s:Shp I}{r:VL I}{n:Nat}(h: ∀x,(r.enc x).length=n): ∀x,((VL.cons s r).enc x).length=n+1:=by obtain⟨T,u,d,e,m⟩:=s;obtain⟨T',u',d',e',m'⟩:=r;cases u<;>cases u'<;>intro x<;>exact congrArg (· +1) (h _)
theorem aA: ∀(l:List Sh) (x:(vlOf I l).T),((vlOf I l).enc x).length=l.length
 |[],_=>rfl
 |s::l,x=>gH (s:=s.shp I) (aA l) x
theorem EI(s:StSh): ∀x:(s.sl I).T,((s.sl I).enc x).1.length=s.vals.length:=by have h:=aA (I:=I) s.vals;unfold StSh.sl;revert h;generalize vlOf I s.vals=v;generalize olOf I s.objs=o;obtain⟨T,u,d,e,m⟩:=v;obtain⟨T',u',d',e',m'⟩:=o;cases u<;>cases u'<;>intro h x<;>exact h _
theorem zR{Q:Con I->Prop}: ∀c∈([]:List (Con I)),Q c:=fun c h=>by cases h
theorem memC{Q:Con I->Prop}{a:Con I}{l:List (Con I)}(h:Q a)(g: ∀c∈l,Q c): ∀c∈a::l,Q c:=fun c hc=>by
 rcases Ra.1 hc with rfl|hc
 ·exact h
 ·exact g c hc
def chk(con:Con I)(A:Env0 I)(f:Go.Func):Bool:=Og con&&(f.body.isSome&&(!(f.name== "runtime.NumGoroutine")&&(A.p==con.inS.objs.length&&Nat.ble con.inS.vals.length f.ntmps)))
theorem okC0 {P:Program} {T:TT} {fk:List (Nat×List Kd)} (hmix:P.follows .mixedOrders=true) (hI:IpOK P I) (hT:TOK P T fk) {con:Con I} {f:Go.Func} {A:Env0 I} {exS:StSh} {c:Code} {rs:List ResultVar} (hb:c=match f.body with|some c=>c|none=> .skip) (hr:rs=f.results.toList)
  (hS: ∀c∈A.S,zm P c) (hf:P.funcs[con.f]? =some f) (h:chk con A f=true) (he: ∀x,evF2 A T fk f.ntmps rs c con exS x=con.F x):zm P con:=by
 unfold chk at h;simp only[Ca]at h;obtain⟨h1,h2,h3,h4,h5⟩:=h;refine xP (exS:=exS) hmix hI hS h1 hT hf ?_ ?_ (by simpa using h3) (Cf.1 h4) (fun x=>by rw[EI];exact Bb h5) (fun x y h=>(he x).trans h)
 ·rw[hb];cases hb':f.body with
  |none=>rw[hb']at h2;cases h2
  |some c=>rfl
 ·rw[hr]
section
variable {P:Program} {I:Ip}
theorem lM (hI:IpOK P I) {f t:Nat} {vals:List Sh} {F:((⟨vals,[]⟩:StSh).sl I).T->Option (List (I.C t))} (hwf:Og (⟨f,⟨vals,[]⟩,[],⟨[.sl t],[]⟩,0,F⟩:Con I)=true)
  (h:zm P (⟨f,⟨vals,[]⟩,[],⟨[.own 0],[(0, .sl t)]⟩,1,F⟩:Con I)):zm P (⟨f,⟨vals,[]⟩,[],⟨[.sl t],[]⟩,0,F⟩:Con I)where
 wf:=hwf
 ok:=fun x y hxy ρ nx _ _ hnew=>by
  have hfn:=(h.ok x y hxy (fun i=>nx+i) nx (fun i j hi=>absurd hi (by simp)) (fun i hi=>absurd hi (by simp)) (fun j=>by simp)).fn;refine⟨hfn,fun ι get w N vs hR hN _ ha _=> ?_⟩;have hc:=h.ok x y hxy (fun i=>N+i) N (fun i j hi=>absurd hi (by simp)) (fun i hi=>absurd hi (by simp)) (fun j=>by simp);have hw:=wfIn hI hwf x;have hob:((⟨vals,[]⟩:StSh).sl I |>.enc x).2=[]:=by simpa using hw.keys
  have hargs:((⟨vals,[]⟩:StSh).sl I |>.enc x).1.map (trT (fun i=>N+i) (lk ((⟨vals,[]⟩:StSh).sl I |>.enc x).2))=((⟨vals,[]⟩:StSh).sl I |>.enc x).1.map (trT ρ (lk ((⟨vals,[]⟩:StSh).sl I |>.enc x).2)):=by refine Ha fun v hv'=>Sr fun i hi=> ?_;exact absurd (hw.r1 v hv' i hi) (Ee i)
  have hget:get N=none:=by
   cases hg:get N with
   |none=>rfl
   |some o=> obtain⟨b,h1,_⟩:=hR.live N o hg;rw[hN N (Ma _)]at h1;cases h1
  have key:=hc.ok ι get w N vs hR hN (fun j _=>hN _ (Dc _ _)) (by rw[hargs];exact ha) (fun p hp=>by rw[hob]at hp;cases hp);refine key.mono fun e w' ⟨v,he,ι',q1,q2,q3,q4⟩=>⟨v,he,?_⟩;obtain⟨ys,hys⟩: ∃ys:List (I.C t),ys=y:=⟨y,rfl⟩;replace q1:Rel ι' (upd get [(N,some ⟨t,P.cellsOf t,ys.map fun z=>(I.full t z).map .p,none⟩)]) w':=by subst hys;exact q1
  replace q2:repL ι' w' (.v (.c (.osl N 0 ys.length))) v:=by subst hys;exact q2
  have hdom: ∀b,Dom ι' w' b->Dom (fun id=>if id=N then .free else ι' id) w' b:=fun b hb=>⟨hb.1,fun id k hk=>by
   by_cases hi:id=N
   ·simp only[Va hi]at hk;cases hk
   ·simp only[Oa hi]at hk;exact hb.2 id k hk⟩
  have hlive: ∀id b k,(fun id=>if id=N then Slot.free else ι' id) id= .live b k->id≠N/\ι' id= .live b k:=fun id b k hk=>by
   by_cases hi:id=N
   ·simp only[Va hi]at hk;cases hk
   ·simp only[Oa hi]at hk;exact⟨hi,hk⟩
  refine⟨fun id=>if id=N then .free else ι' id,⟨fun id o ho=> ?_,fun id ho=> ?_,fun i j b k k' hi hj=> ?_,?_⟩,?_,⟨q3.os,q3.tape,q3.output,q3.size,q3.shape,fun b hb=>hdom b (q3.dom b hb),q3.keep,fun id hid=> ?_⟩,fun id hid _=> ?_⟩
  ·replace ho:get id=some o:=ho;have hne:id≠N:=fun e=>by rw[e,hget]at ho;cases ho
   obtain⟨b0,l0,m0⟩:=hR.live id o ho;obtain⟨b,l1,l2⟩:=q1.live id o (by simp only[upd];rw[Oa hne];exact ho);refine⟨b,by simp only[Oa hne];exact l1,l2.1,?_⟩;rcases l2.2 with g|⟨g0,b',cur,fr,eb,g1,g2,g3,g4⟩|g
   ·exact .inl g
   ·refine .inr (.inl ⟨g0,b',cur,fr,eb,g1,g2,g3,fun i row j x hi hj=> ?_⟩);obtain⟨u,a1,a2,a3⟩:=g4 i row j x hi hj;refine⟨u,a1,a2,iC hdom (fun q hq=> ?_) a3⟩;have hqN:q≠N:=by
     rcases m0.2 with⟨_,_,g⟩|⟨_,b0',cur0,fr0,_,_,_,_,n4⟩|⟨g,_⟩
     ·rw[g]at hi;simp at hi
     ·obtain⟨u0,_,_,n5⟩:=n4 i row j x hi hj;intro e;exact gp n5 q hq (by rw[e];exact hN N (Ma _))
     ·rw[g]at hi;simp at hi
    exact⟨by simp only[Oa hqN];exact gp a3 q hq,fun b k hk=>(hlive q b k hk).2⟩
   ·exact .inr (.inr g)
  ·replace ho:get id=none:=ho;by_cases hi:id=N
   ·exact .inl (Va hi)
   ·simp only[Oa hi];exact q1.gone id (by simp only[upd];rw[Oa hi];exact ho)
  ·exact q1.inj i j b k k' (hlive i _ _ hi).2 (hlive j _ _ hj).2
  ·exact q1.glob.dom hdom
  ·show repT _ w' (.c (.p (.sl (List.map (I.full t) (y:List (I.C t)))))) v;rw[<-hys];obtain⟨c1,c2⟩:=q2;refine⟨c1,?_⟩;refine Fz.sound q1 (D:=fun i=>i=N) hdom (fun id b k hd hl=> ?_) (.osl N 0 ys.length _ (ys.map (I.full t)) rfl (Va rfl) (Ga ..) (Nat.le_of_eq ((Yc _).trans (Ga ..).symm)) (fun row hr=> ?_) (fun i row j x r z hi hj hr hz=> ?_)) c2
   ·subst hd;refine⟨q1.lt hl,fun id' k' hk=> ?_⟩;obtain⟨h1,h2⟩:=hlive id' _ _ hk;exact h1 (q1.inj _ _ _ _ _ h2 hl)
   ·obtain⟨z,_,rfl⟩:=Da.1 hr;exact hI.len _ _
   ·simp only[Ka,Yc]at hi hr;cases hy:ys[i]? with
    |none=>rw[hy]at hi;cases hi
    |some z'=> rw[hy]at hi hr;cases hi;cases hr;rw[Ka]at hj;rw[hz]at hj;cases hj;exact .p _
  ·by_cases hi:id=N
   ·exact absurd (hN N (Ma _)) (by rw[<-hi];exact hid)
   ·simp only[Oa hi];exact q3.slots id hid
  ·by_cases hi:id=N
   ·exact Va hi
   ·simp only[Oa hi];exact q4 id hid ((Nat.lt_or_gt_of_ne hi).elim .inl .inr)
end
section
variable {P:Program} {I:Ip}
theorem nM (hI:IpOK P I) {f t u:Nat} {k:IntKind} {F:List (I.C t)->Option (List (I.C u)×Int)}
  (hwf:Og (⟨f,⟨[.own 0],[(0, .sl t)]⟩,[],⟨[.sl u, .int k],[]⟩,0,F⟩:Con I)=true)
  (h:zm P (⟨f,⟨[.sl t],[]⟩,[],⟨[.sl u, .int k],[]⟩,0,F⟩:Con I)):zm P (⟨f,⟨[.own 0],[(0, .sl t)]⟩,[],⟨[.sl u, .int k],[]⟩,0,F⟩:Con I)where
 wf:=hwf
 ok:=fun x y hxy ρ nx _ _ hnew=>by
  have hc0:=h.ok x y hxy (fun i=>nx+i) nx (fun i j hi=>absurd hi (by simp)) (fun i hi=>absurd hi (by simp)) (fun j=>by simp);refine⟨hc0.fn,fun ι get w N vs hR hN _ ha hrd=> ?_⟩;obtain⟨xs,hxs⟩: ∃xs:List (I.C t),xs=x:=⟨x,rfl⟩;have hob:get (ρ 0)=some ⟨t,P.cellsOf t,xs.map fun z=>(I.full t z).map .p,none⟩:=by subst hxs;exact hrd (ρ 0,⟨t,P.cellsOf t,xs.map fun z=>(I.full t z).map .p,none⟩) (Ib ..)
  have ha':bg ι w [.c (.osl (ρ 0) 0 xs.length)] vs:=by subst hxs;exact ha
  obtain⟨b,l1,_⟩:=hR.live _ _ hob;obtain⟨d1,d2⟩:=hR.drop (ρ 0) (by rw[l1];simp);have hfree: ∀id,ι id= .free->setA ι (ρ 0) .dead id= .free:=fun id hid=>by rw[zt _ _ _ (fun e=>by rw[e,l1]at hid;cases hid)];exact hid
  have hlive: ∀id b k,setA ι (ρ 0) .dead id= .live b k->id≠ρ 0/\ι id= .live b k:=fun id b k hk=>by
   by_cases hi:id=ρ 0
   ·subst hi;rw[zx]at hk;cases hk
   ·rw[zt _ _ _ hi]at hk;exact⟨hi,hk⟩
  have ha2:bg (setA ι (ρ 0) .dead) w [.c (.p (.sl (xs.map (I.full t))))] vs:=by
   refine⟨ha'.1,fun j q hq=> ?_⟩;cases j with
   |succ j=>cases hq
   |zero=>
    cases hq;obtain⟨v,hv,c1,c2⟩:=ha'.2 0 _ rfl;refine⟨v,hv,c1,?_⟩;refine Fz.sound hR (D:=fun i=>i=ρ 0) d2.dom (fun id b k hd hl=> ?_) (.osl (ρ 0) 0 xs.length _ (xs.map (I.full t)) rfl hob (Ga ..) (Nat.le_of_eq ((Yc _).trans (Ga ..).symm)) (fun row hr=> ?_) (fun i row j x r z hi hj hr hz=> ?_)) c2
    ·subst hd;refine⟨hR.lt hl,fun id' k' hk=> ?_⟩;obtain⟨h1,h2⟩:=hlive id' _ _ hk;exact h1 (hR.inj _ _ _ _ _ h2 hl)
    ·obtain⟨z,_,rfl⟩:=Da.1 hr;exact hI.len _ _
    ·simp only[Ka,Yc]at hi hr;cases hy:xs[i]? with
     |none=>rw[hy]at hi;cases hi
     |some z'=> rw[hy]at hi hr;cases hi;cases hr;rw[Ka]at hj;rw[hz]at hj;cases hj;exact .p _
  have key:=hc0.ok (setA ι (ρ 0) .dead) (upd get [(ρ 0,none)]) w N vs d1 (fun id hid=>hfree id (hN id hid)) (fun j hj=>absurd hj (Ee j)) (by subst hxs;exact ha2) (fun p hp=>by cases hp);refine key.mono fun e w' ⟨v,he,ι',q1,q2,q3,q4⟩=>⟨v,he,ι',q1,q2,d2.trans q3,fun id hid h2=>q4 id (hfree id hid) h2⟩
end
section
variable {P:Program} {nt:Nat} {ops:List Oper}
def IsV(E:Operand->LV)(x:Operand)(t:TV):Prop:=E x= .v t\/E x= .opt true t
def Op1(P:Program)(E:Operand->LV)(get:Get)(nx:Nat)(op:Op)(val:LV)(rd:List Nat)(up:List (Nat×Option OB))(k:Nat):Prop:=
 ∃q:Prop,opR P [] E get nx op=⟨q,val,rd,up⟩/\q/\zZ [] E op=k
theorem opN{o:Oper}{s:TS}{val:LV}{rd:List Nat}{up:List (Nat×Option OB)}{k:Nat}(h:Op1 P (opd s.e) s.get s.next o.op val rd up k)(hg:o.guard=none)(hd: ∀d,o.dst=some d->d<nt):
  OpOK P nt ops o ⟨none,val,up,rd,s.next,k⟩ s:=by
 obtain⟨q,h1,h2,h3⟩:=h;have:=YE (P:=P) (nt:=nt) (ops:=ops) (o:=o) (s:=s) (g:=none) (by rw[hg];rfl) hd (fun _=>by rw[h1];exact h2);rw[h1,h3]at this;exact this
theorem opG{o:Oper}{s:TS}{val:LV}{rd:List Nat}{up:List (Nat×Option OB)}{k:Nat}{b:Bool}(h:Op1 P (opd s.e) s.get s.next o.op val rd up k)(hg:ZV ops s.e o.guard=some (some b))(hd: ∀d,o.dst=some d->d<nt):
  OpOK P nt ops o ⟨some b,val,up,rd,s.next,k⟩ s:=by
 obtain⟨q,h1,h2,h3⟩:=h;have:=YE (P:=P) (nt:=nt) (ops:=ops) (o:=o) (s:=s) (g:=some b) hg hd (fun _=>by rw[h1];exact h2);rw[h1,h3]at this;exact this
theorem opF{o:Oper}{s:TS}(hg:ZV ops s.e o.guard=some (some false))(hd: ∀d,o.dst=some d->d<nt)(t:TV):OpOK P nt ops o ⟨some false, .v t,[],[],s.next,0⟩ s:=by
 refine⟨hd,rfl,fun ι a w e' get' N hR hN hE ha hb hfr=> ?_⟩;have hg':ZV ops e' o.guard=ZV ops s.e o.guard:=Aq fun t ht=>ha t (by
  simp only[Kg,Ld,Eb,Lb]at ht ⊢;exact .inr ht)
 refine⟨fun h=>(by cases h),fun b h=> ?_,fun h=>absurd rfl h⟩;cases h;exact Pp hE (by rw[hg'];exact hg)
def Walk(P:Program)(nt:Nat)(ops:List Oper)(ρ:Nat->Nat):List Oper->List Fp->TS->(TS->Prop)->Prop
 |[],[],s,K=>K s
 |o::l,f::fs,s,K=> ∃r:RO,OpOK P nt ops o r s/\r.rd=f.1.map ρ/\r.up.map (·.1)=f.2.map ρ/\Walk P nt ops ρ l fs (zO o r s) K
 |_,_,_,_=>False
theorem Walk.zs{ρ:Nat->Nat}{K:TS->Prop}: ∀{l:List Oper} {fs:List Fp} {s:TS},Walk P nt ops ρ l fs s K-> ∃zs:List (Oper×RO),zs.map (·.1)=l/\(∀(j:Nat) (o:Oper) (r:RO),zs[j]? =some (o,r)->OpOK P nt ops o r (runA (zs.take j) s))/\
   (∀(j:Nat) (o:Oper) (r:RO),zs[j]? =some (o,r)-> ∃f:Fp,fs[j]? =some f/\r.rd=f.1.map ρ/\r.up.map (·.1)=f.2.map ρ)/\K (runA zs s)
 |[],[],s,h=>⟨[],rfl,fun j o r hj=>by simp at hj,fun j o r hj=>by simp at hj,h⟩
 |[],_::_,s,h=>h.elim
 |_::_,[],s,h=>h.elim
 |o::l,f::fs,s,h=>by
  obtain⟨r,h1,h2,h2',h3⟩:=h;obtain⟨zs,h4,h5,h6,h7⟩:=h3.zs;refine⟨(o,r)::zs,by simp[h4],fun j o' r' hj=> ?_,fun j o' r' hj=> ?_,h7⟩
  ·cases j with
   |zero=>simp at hj;obtain⟨rfl,rfl⟩:=hj;exact h1
   |succ j=> have:=h5 j o' r' (by simpa using hj);simpa [runA] using this
  ·cases j with
   |zero=>simp at hj;obtain⟨rfl,rfl⟩:=hj;exact⟨f,rfl,h2,h2'⟩
   |succ j=>simpa using h6 j o' r' (by simpa using hj)
theorem SW.reg{id:Nat}{opa:Array Oper}{Q:Post}{e:Env}{lh:LH}(ρ:Nat->Nat)(fs:List Fp)(h:Walk P nt opa.toList ρ opa.toList fs ⟨e,lh.get,lh.next⟩ (fun s=>Q .normal s.e ⟨s.next,s.get⟩)):SW P nt (.region id opa false) Q e lh:=by obtain⟨zs,h1,h2,_,h3⟩:=h.zs;exact Iu (s0:=⟨e,lh.get,lh.next⟩) h1 ⟨h1,h2⟩ h3
theorem SW.regD (hm:P.follows .mixedOrders=true) {id:Nat} {opa:Array Oper} {Q:Post} {e:Env} {lh:LH} (ρ:Nat->Nat) (N:Nat) (fs:List Fp) (hl:(fs.all fun f=>f.1.all (Nat.blt · N)&&f.2.all (Nat.blt · N))=true)
  (hρ: ∀i j,i<N->j<N->ρ i=ρ j->i=j) (hdr:nk opa.toList fs 0 opa.toList []=true) (hfw:Em opa.toList=true)
  (h:Walk P nt opa.toList ρ opa.toList fs ⟨e,lh.get,lh.next⟩ (fun s=>Q .normal s.e ⟨s.next,s.get⟩)):SW P nt (.region id opa true) Q e lh:=by
 obtain⟨zs,h1,h2,h2',h3⟩:=h.zs;refine pE (s0:=⟨e,lh.get,lh.next⟩) hm ⟨h1,h2⟩ (fun i k x y r q hx hy hik=> ?_) hfw h3;obtain⟨f,f1,f2,f3⟩:=h2' i x r hx;obtain⟨g,g1,g2,g3⟩:=h2' k y q hy;rcases Az (ops:=opa.toList) (fps:=fs) opa.toList 0 [] rfl (fun k=>by simp) (fun m i h=>by simp at h) hdr i k x y f g (xk h1 hx) (xk h1 hy) f1 g1 hik (Nb _)with h|⟨h,h'⟩
 ·exact .inl h
 refine .inr ⟨uC h,?_⟩;have hlt: ∀(f:List Nat×List Nat),f∈fs->(∀i∈f.1,i<N)/\(∀i∈f.2,i<N):=by intro f hf;have:=La.1 hl f hf;simp only[Ca,La]at this;exact⟨fun i hi=>zU.1 (this.1 i hi),fun i hi=>zU.1 (this.2 i hi)⟩
 obtain⟨a1,a2⟩:=hlt f (Ia f1);obtain⟨b1,b2⟩:=hlt g (Ia g1);have key: ∀{u v:List Nat},(∀i∈u,i<N)->(∀i∈v,i<N)->Gj u v=false-> ∀x∈u.map ρ,x ∉ v.map ρ:=by intro u v hu hv hi x hx hx';obtain⟨i,i1,rfl⟩:=Da.1 hx;obtain⟨j,j1,j2⟩:=Da.1 hx';have:=hρ i j (hu i i1) (hv j j1) j2.symm;subst this;exact aD hi i i1 j1
 simp only[fpB,Ie]at h';unfold VA;rw[f2,f3,g2,g3];refine⟨fun x hx=>⟨key a2 b1 h'.1.1 x hx,key a2 b2 h'.1.2 x hx⟩,key b2 a1 h'.2⟩
section
variable {E:Operand->LV} {get:Get} {nx:Nat}
theorem dh{x:Operand}{t:TV}{k:TV->Res}{q:Prop}{v:LV}{rd:List Nat}{up:List (Nat×Option OB)}(h:IsV E x t)(hk:k t=⟨q,v,rd,up⟩)(hq:q): ∃q',zP (E x) k=⟨q',v,rd,up⟩/\q':=by
 rcases h with h|h
 ·rw[h];exact⟨q,hk,hq⟩
 ·rw[h];exact⟨true=true/\q,by simp only[zP,hk],rfl,hq⟩
theorem Vt{x y:Operand}{t u:TV}{k:TV->TV->Res}{q:Prop}{v:LV}{rd:List Nat}{up:List (Nat×Option OB)}(h:IsV E x t)(h2:IsV E y u)(hk:k t u=⟨q,v,rd,up⟩)(hq:q):
  ∃q',(zP (E x) fun a=>zP (E y) fun b=>k a b)=⟨q',v,rd,up⟩/\q':=by
 obtain⟨q1,h3,h4⟩:=dh (k:=fun b=>k t b) h2 hk hq;exact dh (k:=fun a=>zP (E y) fun b=>k a b) h h3 h4
theorem Op1.move(x:Operand):Op1 P E get nx (.move x) (E x) [] [] 0:=⟨True,rfl,trivial,rfl⟩
theorem Op1.assign(x:Operand):Op1 P E get nx (.assign x) (E x) [] [] 0:=⟨True,rfl,trivial,rfl⟩
theorem Op1.load{t id row cell:Nat}{x:Operand}{ob:OB}{cs:List CV}{c:CV}(hx:IsV E x (.c (.optr id row cell)))(hg:get id=some ob)(hr:ob.rows[row]? =some cs)(hc:cs[cell]? =some c){kd:Kd}(hk:kdOf P t=kd)(hb:kd≠ .bad:=by simp)(ha:kd.isAgg=false:=by rfl):
  Op1 P E get nx (.load t x) (.v (.c c)) [id] [] 0:=by
 obtain⟨q,h1,h2⟩:=dh (k:=fun a=>Tf (ti P t) get a) hx (q:=True) (v:= .v (.c c)) (rd:=[id]) (up:=[]) (by
  have:(ti P t).kd=kd:=hk;simp only[Tf,hg,hr,this,hc];cases kd<;>first|rfl|exact absurd rfl hb|(cases ha;done)) trivial
 exact⟨q,h1,h2,rfl⟩
theorem Op1.loadA{t id row cell:Nat}{x:Operand}{ob:OB}{cs:List CV}{fs:List (Nat×TypeId)}{n:Nat}(hx:IsV E x (.c (.optr id row cell)))(hg:get id=some ob)(hr:ob.rows[row]? =some cs)(hk:kdOf P t= .st fs)(hn:P.cellsOf t=n)(hc:cell+n<=cs.length):
  Op1 P E get nx (.load t x) (.v (.agg ((cs.drop cell).take n))) [id] [] 0:=by
 obtain⟨q,h1,h2⟩:=dh (k:=fun a=>Tf (ti P t) get a) hx (q:=cell+(ti P t).sz<=cs.length) (v:= .v (.agg ((cs.drop cell).take n))) (rd:=[id]) (up:=[]) (by
  have:(ti P t).kd= .st fs:=hk;have h2:(ti P t).sz=n:=hn;simp only[Tf,hg,hr,this,h2]) (by rw[show(ti P t).sz=n from hn];exact hc)
 exact⟨q,h1,h2,rfl⟩
theorem Op1.loadP{t:Nat}{x:Operand}{cs:List PV}{fs:List (Nat×TypeId)}{n:Nat}(hx:IsV E x (.c (.p (.ptr cs))))(hk:kdOf P t= .st fs)(hn:P.cellsOf t=n)(hc:n<=cs.length):
  Op1 P E get nx (.load t x) (.v (.agg ((cs.take n).map .p))) [] [] 0:=by
 obtain⟨q,h1,h2⟩:=dh (k:=fun a=>Tf (ti P t) get a) hx (q:=(ti P t).sz<=cs.length) (v:= .v (.agg ((cs.take n).map .p))) (rd:=[]) (up:=[]) (by
  have:(ti P t).kd= .st fs:=hk;have h2:(ti P t).sz=n:=hn;simp only[Tf,this,h2]) (by rw[show(ti P t).sz=n from hn];exact hc)
 exact⟨q,h1,h2,rfl⟩
theorem Op1.store{t id row cell:Nat}{x y:Operand}{ob:OB}{cs:List CV}{u:TV}{n:Nat}{kd:Kd}(hx:IsV E x (.c (.optr id row cell)))(hy:IsV E y u)(hg:get id=some ob)(hr:ob.rows[row]? =some cs)(hk:kdOf P t=kd)(hn:P.cellsOf t=n)(hu:u.cells.length=n)(hc:cell+n<=cs.length)(hb:kd≠ .bad:=by simp):
  Op1 P E get nx (.store t x y) .any [id] [(id,some {ob with rows:=ob.rows.set row (cs.take cell++u.cells++cs.drop (cell+n))})] 0:=by
 have h3:(ti P t).kd=kd:=hk;have h4:(ti P t).sz=n:=hn;obtain⟨q,h1,h2⟩:=Vt (k:=fun a b=>qG (ti P t) get a b) hx hy (q:=u.cells.length=n/\cell+n<=cs.length/\kd≠ .bad) (v:= .any) (rd:=[id]) (up:=[(id,some {ob with rows:=ob.rows.set row (cs.take cell++u.cells++cs.drop (cell+n))})]) (by
  simp only[qG,hg,hr,h3,h4]) ⟨hu,hc,hb⟩
 exact⟨q,h1,h2,rfl⟩
theorem Op1.alloc{t n:Nat}{z:List CV}(hz:Qu (ti P t).zero=z)(hn:P.cellsOf t=n)(hk:(ti P t).zok=true):Op1 P E get nx (.alloc t) (.v (.c (.optr nx 0 0))) [] [(nx,some ⟨t,n,[z],none⟩)] 1:=by subst hz hn;exact⟨_,rfl,hk,rfl⟩
theorem Op1.bin{op:BinOp}{t u:Nat}{x y:Operand}{k:IntKind}{a b:Int}{val:LV}(hx:IsV E x (.c (.p (.at (.int k a)))))(hy:IsV E y (.c (.p (.at (.int k b)))))(hv: ∀fk kd,binR fk kd op (.c (.p (.at (.int k a)))) (.c (.p (.at (.int k b))))=⟨k=k/\True,val,[],[]⟩):
  Op1 P E get nx (.binOp op t x y u) val [] [] 0:=by
 obtain⟨q,h1,h2⟩:=Vt (k:=fun a b=>binR (Nh P t) (kdOf P t) op a b) hx hy (hv _ _) ⟨rfl,trivial⟩;exact⟨q,h1,h2,rfl⟩
theorem Op1.lenO{c:Call}{x:Operand}{t id off n e:Nat}{ob:OB}(hc:c.callee= .builtin .len)(ha:c.args.toList=[x])(ht:c.argTypes.toList=[t])(hx:IsV E x (.c (.osl id off n)))(hg:get id=some ob)(hk:kdOf P t= .sl e):
  Op1 P E get nx (.call c) (.v (.c (.p (.at (.int .i64 n))))) [id] [] 0:=by
 obtain⟨q,h1,h2⟩:=dh (k:=fun x=>lenR get (kdOf P t) x) hx (q:=True) (v:= .v (.c (.p (.at (.int .i64 n))))) (rd:=[id]) (up:=[]) (by simp only[lenR,hk,hg]) trivial;exact⟨q,by simp only[opR,hc,ha,ht];exact h1,h2,by simp only[zZ,hc]⟩
theorem Op1.lenN{c:Call}{x:Operand}{t e:Nat}(hc:c.callee= .builtin .len)(ha:c.args.toList=[x])(ht:c.argTypes.toList=[t])(hx:IsV E x (.c (.p (.at (.slice none 0 0)))))(hk:kdOf P t= .sl e):
  Op1 P E get nx (.call c) (.v (.c (.p (.at (.int .i64 0))))) [] [] 0:=by
 obtain⟨q,h1,h2⟩:=dh (k:=fun x=>lenR get (kdOf P t) x) hx (q:=True) (v:= .v (.c (.p (.at (.int .i64 0))))) (rd:=[]) (up:=[]) (by simp only[lenR,hk];rfl) trivial;exact⟨q,by simp only[opR,hc,ha,ht];exact h1,h2,by simp only[zZ,hc]⟩
theorem Op1.lenS{c:Call}{x:Operand}{t e:Nat}{rows:List (List PV)}(hc:c.callee= .builtin .len)(ha:c.args.toList=[x])(ht:c.argTypes.toList=[t])(hx:IsV E x (.c (.p (.sl rows))))(hk:kdOf P t= .sl e):
  Op1 P E get nx (.call c) (.v (.c (.p (.at (.int .i64 rows.length))))) [] [] 0:=by
 obtain⟨q,h1,h2⟩:=dh (k:=fun x=>lenR get (kdOf P t) x) hx (q:=True) (v:= .v (.c (.p (.at (.int .i64 rows.length))))) (rd:=[]) (up:=[]) (by simp only[lenR,hk];rfl) trivial;exact⟨q,by simp only[opR,hc,ha,ht];exact h1,h2,by simp only[zZ,hc]⟩
theorem Op1.idxO{t id off n e k:Nat}{x y:Operand}{i:Int}{ik:IntKind}{ob:OB}(hx:IsV E x (.c (.osl id off n)))(hy:IsV E y (.c (.p (.at (.int ik i)))))(hg:get id=some ob)(hk:kdOf P t= .sl e)(hn:P.cellsOf e=k)(hob:ob.k=k)(hk0:0<k)(hi:0<=i/\i<n):
  Op1 P E get nx (.indexAddr t x y) (.v (.c (.optr id (off+i.toNat) 0))) [id] [] 0:=by
 obtain⟨q,h1,h2⟩:=Vt (k:=fun a b=>Ze P get t a b) hx hy (q:=0<=i/\i<n/\0<P.cellsOf e/\ob.k=P.cellsOf e) (v:= .v (.c (.optr id (off+i.toNat) 0))) (rd:=[id]) (up:=[]) (by simp only[Ze,hk,hg]) ⟨hi.1,hi.2,by rw[hn];exact hk0,by rw[hn,hob]⟩;exact⟨q,h1,h2,rfl⟩
theorem Op1.idxS{t e k:Nat}{x y:Operand}{i:Int}{ik:IntKind}{rows:List (List PV)}{row:List PV}(hx:IsV E x (.c (.p (.sl rows))))(hy:IsV E y (.c (.p (.at (.int ik i)))))(hk:kdOf P t= .sl e)(hn:P.cellsOf e=k)(hk0:0<k)(hi:0<=i)(hr:rows[i.toNat]? =some row)(hl:row.length=k):
  Op1 P E get nx (.indexAddr t x y) (.v (.c (.p (.ptr row)))) [] [] 0:=by
 have hlt:=(Ba.1 hr).1;have hg:rows.getD i.toNat []=row:=by rw[Sd,hr];rfl
 obtain⟨q,h1,h2⟩:=Vt (k:=fun a b=>Ze P get t a b) hx hy (q:=0<=i/\i<rows.length/\0<P.cellsOf e/\row.length=P.cellsOf e) (v:= .v (.c (.p (.ptr row)))) (rd:=[]) (up:=[]) (by simp only[Ze,hk,preC,hg]) ⟨hi,by omega,by rw[hn];exact hk0,by rw[hn,hl]⟩;exact⟨q,h1,h2,rfl⟩
theorem Op1.fldO{t id row cell f off ty:Nat}{x:Operand}{fs:List (Nat×TypeId)}{ob:OB}(hx:IsV E x (.c (.optr id row cell)))(hg:get id=some ob)(hk:kdOf P t= .st fs)(hf:fs[f]? =some (off,ty))(hz:P.cellsOf ty≠0):
  Op1 P E get nx (.fieldAddr t x f) (.v (.c (.optr id row (cell+off)))) [id] [] 0:=by
 obtain⟨q,h1,h2⟩:=dh (k:=fun a=>Zu P get t a f) hx (q:=P.cellsOf ty≠0) (v:= .v (.c (.optr id row (cell+off)))) (rd:=[id]) (up:=[]) (by simp only[Zu,hk,hf,hg]) hz;exact⟨q,h1,h2,rfl⟩
end
end
section
variable {P:Program} {nt:Nat} {ops:List Oper} {E:Operand->LV} {get:Get} {nx:Nat}
theorem Op1.bs1{t e n:Nat}{x:Operand}{u:TV}(hx:E x= .v u)(hk:kdOf P t= .sl e)(hn:P.cellsOf e=n)(hu:u.cells.length=n)(hz:(ti P e).zero.length=n)(h0:0<n)(h1:n<=16777216)(hzk:(ti P e).zok=true):
  Op1 P E get nx (.buildSlice t 1 #[(0,x)]) (.v (.c (.osl nx 0 1))) [] [(nx,some ⟨e,n,[u.cells],none⟩)] 1:=by
 refine⟨true=true/\1*P.cellsOf e<=16777216/\0<P.cellsOf e/\(ti P e).zok=true,?_,⟨rfl,by rw[hn];omega,by rw[hn];exact h0,hzk⟩,rfl⟩;have hp:Cg E [(0,x)]=some (true,[(0,u.cells)]):=by simp only[Cg,hx]
 have hzl:(Qu (ti P e).zero).length=n:=by unfold Qu;rw[Ga];exact hz
 have hf:yf (fun i=>some (i*P.cellsOf e,P.cellsOf e)) [(0,u.cells)] (List.replicate 1 (Qu (ti P e).zero)).flatten=some u.cells:=by simp only[yf,Nat.zero_mul,hn,hu,Yc,List.replicate_one,List.flatten_cons,List.flatten_nil,Ic,hzl,Ma,and_self,Ae,jf,Vd];rw[List.drop_eq_nil_of_le (by omega),Ic]
 have hc:chunks (P.cellsOf e) 1 u.cells=[u.cells]:=by simp only[chunks,hn];rw[Yb (by omega)]
 have hf':=hf;rw[hn]at hc;simp only[opR,qc,hp,hk,hf];rw[hn,hc]
theorem wh{id:Nat}{ob:OB}{row:List CV}(hg:get id=some ob)(hr:ob.rows=[row]):rowsOf get (.c (.osl id 0 1))=some ([row],[id]):=by simp only[rowsOf,hg,hr,We];rfl
theorem Op1.appO {c:Call} {s x:Operand} {ts tx e e' n m id idx:Nat} {ob obx:OB} {row:List CV} (hc:c.callee= .builtin .append) (ha:c.args.toList=[s,x]) (ht:c.argTypes.toList=[ts,tx]) (hs:E s= .v (.c (.osl id 0 m))) (hx:E x= .v (.c (.osl idx 0 1)))
  (hg:get id=some ob) (hgx:get idx=some obx) (hr:obx.rows=[row]) (hrl:row.length=n) (hk:kdOf P ts= .sl e) (hkx:kdOf P tx= .sl e') (hn:P.cellsOf e=n) (h0:0<n) (hok:ob.k=n) (hot:ob.ty=e) (hm:m<=ob.rows.length) (hxk:obx.k=n)
  (hb:(m+1)*(ti P e).by_<=140737488355328) (hl:m+1<=140737488355328) (hzk:(ti P e).zok=true):
  Op1 P E get nx (.call c) (.v (.c (.osl nx 0 (m+1)))) [id,idx] [(id,none),(nx,some ⟨e,n,ob.rows.take m++[row],none⟩)] 1:=by
 refine⟨ob.k=P.cellsOf e/\ob.ty=e/\m<=ob.rows.length/\appQ P get e tx [row] (.c (.osl idx 0 1)) m,?_,⟨by rw[hn];exact hok,hot,hm,by rw[hn];exact h0,fun r h=>by rw[Fa.1 h,hn];exact hrl,hb,hl,fun o ho=> ?_,by rw[hkx];trivial,hzk⟩,by simp only[zZ,hc]⟩
 ·simp only[opR,hc,ha,ht,hs,hx,zP,zL,hk,wh hgx hr,hg,hn];rfl
 ·rw[hgx]at ho;cases ho;exact⟨by rw[hn];exact hxk,by rw[hr];exact Ma _⟩
theorem Op1.appF {c:Call} {s x:Operand} {ts tx e e' n m id idx:Nat} {rows:List (List CV)} {obx:OB} {row:List CV} (hc:c.callee= .builtin .append) (ha:c.args.toList=[s,x]) (ht:c.argTypes.toList=[ts,tx]) (hs:E s= .v (.c (.osl id 0 m))) (hx:E x= .v (.c (.osl idx 0 1)))
  (hg:get id=some ⟨e,n,rows,none⟩) (hgx:get idx=some obx) (hr:obx.rows=[row]) (hrl:row.length=n) (hk:kdOf P ts= .sl e) (hkx:kdOf P tx= .sl e') (hn:P.cellsOf e=n) (h0:0<n) (hm:rows.length=m) (hxk:obx.k=n)
  (hb:(m+1)*(ti P e).by_<=140737488355328) (hl:m+1<=140737488355328) (hzk:(ti P e).zok=true):
  Op1 P E get nx (.call c) (.v (.c (.osl nx 0 (m+1)))) [id,idx] [(id,none),(nx,some ⟨e,n,rows++[row],none⟩)] 1:=by
 have:=Op1.appO (P:=P) (nx:=nx) hc ha ht hs hx hg hgx hr hrl hk hkx hn h0 rfl rfl (Nat.le_of_eq hm.symm) hxk hb hl hzk
 rwa [Yb (Nat.le_of_eq hm)]at this
theorem Op1.appN {c:Call} {s x:Operand} {ts tx e e' n idx:Nat} {obx:OB} {row:List CV} (hc:c.callee= .builtin .append) (ha:c.args.toList=[s,x]) (ht:c.argTypes.toList=[ts,tx]) (hs:E s= .v (.c (.p (.at (.slice none 0 0))))) (hx:E x= .v (.c (.osl idx 0 1)))
  (hgx:get idx=some obx) (hr:obx.rows=[row]) (hrl:row.length=n) (hk:kdOf P ts= .sl e) (hkx:kdOf P tx= .sl e') (hn:P.cellsOf e=n) (h0:0<n) (hxk:obx.k=n)
  (hb:(ti P e).by_<=140737488355328) (hzk:(ti P e).zok=true):
  Op1 P E get nx (.call c) (.v (.c (.osl nx 0 1))) [idx] [(nx,some ⟨e,n,[row],none⟩)] 1:=by
 refine⟨appQ P get e tx [row] (.c (.osl idx 0 1)) 0,?_,⟨by rw[hn];exact h0,fun r h=>by rw[Fa.1 h,hn];exact hrl,by simpa using hb,by simp,fun o ho=> ?_,by rw[hkx];trivial,hzk⟩,by simp only[zZ,hc]⟩
 ·simp only[opR,hc,ha,ht,hs,hx,zP,zL,hk,wh hgx hr,hn];rfl
 ·rw[hgx]at ho;cases ho;exact⟨by rw[hn];exact hxk,by rw[hr];exact Ma _⟩
theorem Op1.cutO{t e n k id:Nat}{x y:Operand}{h:Int}{ob:OB}(hx:E x= .v (.c (.osl id 0 n)))(hy:E y= .v (.c (.p (.at (.int .i64 h)))))(hg:get id=some ob)(hk:kdOf P t= .sl e)(hn:P.cellsOf e=k)(h0:0<k)(hob:ob.k=k)(hh:0<=h/\h<=n):
  Op1 P E get nx (.slice t x none (some y) none) (.v (.c (.osl id 0 h.toNat))) [id] [] 0:=by
 refine⟨(true&&true&&true)=true/\((none:Option Int)≠none->(some h)≠none)/\((0:Int)<=0/\0<=h/\h<=n/\(n:Int)<=n/\0<P.cellsOf e/\ob.k=P.cellsOf e),?_,⟨rfl,fun h=>absurd rfl h,by omega,hh.1,hh.2,by omega,by rw[hn];exact h0,by rw[hn,hob]⟩,rfl⟩;simp only[opR,hx,zP,bndR,hy,af,hk,hg];simp
theorem Op1.loadW{t id row:Nat}{x:Operand}{ob:OB}{cs:List CV}{fs:List (Nat×TypeId)}{n:Nat}(hx:IsV E x (.c (.optr id row 0)))(hg:get id=some ob)(hr:ob.rows[row]? =some cs)(hk:kdOf P t= .st fs)(hn:P.cellsOf t=n)(hc:cs.length=n):
  Op1 P E get nx (.load t x) (.v (.agg cs)) [id] [] 0:=by
 have:=Op1.loadA (P:=P) (nx:=nx) hx hg hr hk hn (by omega)
 rwa [We,Yb (by omega)]at this
theorem Op1.storeX {t ty kk id row:Nat} {x y:Operand} {rows rows':List (List CV)} {cs:List CV} {u:TV} {n:Nat} {kd:Kd} (hx:IsV E x (.c (.optr id row 0))) (hy:IsV E y u) (hg:get id=some ⟨ty,kk,rows,none⟩) (hr:rows[row]? =some cs) (hk:kdOf P t=kd) (hn:P.cellsOf t=n)
  (hc:cs.length=n) (hu:u.cells.length=n) (hs:rows.set row u.cells=rows') (hb:kd≠ .bad:=by simp):Op1 P E get nx (.store t x y) .any [id] [(id,some ⟨ty,kk,rows',none⟩)] 0:=by
 have:=Op1.store (P:=P) (nx:=nx) hx hy hg hr hk hn hu (by omega) hb;subst hs
 rwa [jf,Vd,Yc,List.drop_eq_nil_of_le (by omega),Ic]at this
theorem Op1.idxL{t id n e k j:Nat}{x y:Operand}{ik:IntKind}{ob:OB}(hx:IsV E x (.c (.osl id 0 n)))(hy:IsV E y (.c (.p (.at (.int ik ((j:Nat):Int))))))(hg:get id=some ob)(hk:kdOf P t= .sl e)(hn:P.cellsOf e=k)(hob:ob.k=k)(hk0:0<k)(hi:j<n):
  Op1 P E get nx (.indexAddr t x y) (.v (.c (.optr id j 0))) [id] [] 0:=by
 have:=Op1.idxO (P:=P) (nx:=nx) hx hy hg hk hn hob hk0 ⟨by omega,by omega⟩
 rwa [jb,Yc]at this
theorem Op1.pick{c a b:Operand}{x y z:Bool}{ga gb:Bool}(hc:E c= .v (.c (.p (.at (.bool z)))))(ha:Fh (E a)=(ga,some x))(hb:Fh (E b)=(gb,some y))(h1:z=true->ga=true)(h2:z=false->gb=true):
  Op1 P E get nx (.pick c a b) (.v (.c (.p (.at (.bool (cond z x y)))))) [] [] 0:=by
 refine⟨(z=true->ga=true)/\(z=false->gb=true),?_,⟨h1,h2⟩,rfl⟩;simp only[opR,Uh,hc,zP,isBool,ha,hb,preC]
end
section
variable {P:Program} {nt:Nat} {ops:List Oper}
theorem Eo {Q:Exit->Act->World->Prop} {fuel:Nat} {listed:Array Bool} {a:Act} {w:World} (j0:Nat) (o0:Oper) (h1:listed.getD j0 true=false) (h2:ops[j0]? =some o0) (h3: ∀i∈direct o0,listed.getD i false=true)
  (h: ∀j o,ops[j]? =some o->listed.getD j true=false->(∀i∈direct o,listed.getD i false=true)->
   if Region.wanted o (yielded ops.toArray a.tmps)=true then o.wp P a w (wpAny P .any ops.toArray Q fuel (listed.setIfInBounds j true)) Q else wpAny P .any ops.toArray Q fuel (listed.setIfInBounds j true) (a.put o.dst undef) w):
  wpAny P .any ops.toArray Q (fuel+1) listed a w:=by
 refine⟨fun hnil=> ?_,fun j hj=> ?_⟩
 ·exfalso;have:j0∈Region.ready .any ops.toArray listed:=by rw[mem_ready];refine⟨h1,o0,by simpa using h2,fun ed hed hb=>h3 _ ?_⟩;simp only[direct,Da,Sc];exact⟨ed,⟨by simpa using hed,hb⟩,rfl⟩
  rw[hnil]at this;simp at this
 ·rw[mem_ready]at hj;obtain⟨k1,o,ho,hr⟩:=hj;have:=h j o (by simpa using ho) k1 (fun i hi=>by
   simp only[direct,Da,Sc]at hi;obtain⟨ed,⟨he1,he2⟩,rfl⟩:=hi;exact hr ed (by simpa using he1) he2)
  unfold wpOp;simp only[ho];split at this
  ·rename_i hw;rw[Va hw];exact .inl this
  ·rename_i hw;rw[Oa hw];exact this
theorem SW.anyBool (hm:P.follows .mixedOrders=true) {id:Nat} {o0 o1 o2 o3:Oper} {e:Env} {lh:LH} {Q:Post} (d0:direct o0=[]) (d1:direct o1=[0]) (d2:direct o2=[0]) (d3:direct o3=[0,0,1,2])
  {r0 r1 r2 r1' r2' r3 r3':RO} (h0:OpOK P nt [o0,o1,o2,o3] o0 r0 ⟨e,lh.get,lh.next⟩)
  (h1:OpOK P nt [o0,o1,o2,o3] o1 r1 (zO o0 r0 ⟨e,lh.get,lh.next⟩)) (h2:OpOK P nt [o0,o1,o2,o3] o2 r2 (zO o1 r1 (zO o0 r0 ⟨e,lh.get,lh.next⟩)))
  (h3:OpOK P nt [o0,o1,o2,o3] o3 r3 (zO o2 r2 (zO o1 r1 (zO o0 r0 ⟨e,lh.get,lh.next⟩))))
  (h2':OpOK P nt [o0,o1,o2,o3] o2 r2' (zO o0 r0 ⟨e,lh.get,lh.next⟩)) (h1':OpOK P nt [o0,o1,o2,o3] o1 r1' (zO o2 r2' (zO o0 r0 ⟨e,lh.get,lh.next⟩)))
  (h3':OpOK P nt [o0,o1,o2,o3] o3 r3' (zO o1 r1' (zO o2 r2' (zO o0 r0 ⟨e,lh.get,lh.next⟩))))
  (hQ:Q .normal (zO o3 r3 (zO o2 r2 (zO o1 r1 (zO o0 r0 ⟨e,lh.get,lh.next⟩)))).e ⟨(zO o3 r3 (zO o2 r2 (zO o1 r1 (zO o0 r0 ⟨e,lh.get,lh.next⟩)))).next,(zO o3 r3 (zO o2 r2 (zO o1 r1 (zO o0 r0 ⟨e,lh.get,lh.next⟩)))).get⟩)
  (hQ':Q .normal (zO o3 r3' (zO o1 r1' (zO o2 r2' (zO o0 r0 ⟨e,lh.get,lh.next⟩)))).e ⟨(zO o3 r3' (zO o1 r1' (zO o2 r2' (zO o0 r0 ⟨e,lh.get,lh.next⟩)))).next,(zO o3 r3' (zO o1 r1' (zO o2 r2' (zO o0 r0 ⟨e,lh.get,lh.next⟩)))).get⟩):
  SW P nt (.region id #[o0,o1,o2,o3] true) Q e lh:=by
 intro ι a w hN;refine wp_region_any hm ?_;have st:Stp ι w ι {w with drawn:=w.drawn+1}:=⟨rfl,rfl,rfl,Ma _,fun _ _ h=>h,fun _ h=>h,fun _ _=>rfl,fun _ _=> .inl rfl⟩;have hN1:Now ι nt e lh a {w with drawn:=w.drawn+1}:=⟨⟨fun id o ho=>let⟨b,h1,h2⟩:=hN.rel.live id o ho;⟨b,h1,h2.step st (fun _ _=>rfl)⟩,hN.rel.gone,hN.rel.inj,hN.rel.glob.step st⟩,hN.free,hN.env.step st⟩;have sk0:StK lh.next ι w ι {w with drawn:=w.drawn+1}:=⟨st,fun id _ h=>h⟩;have nle: ∀(o:Oper) (r:RO) (s:TS),s.next<=(zO o r s).next:=fun o r s=>Dc _ _;show wpAny P .any [o0,o1,o2,o3].toArray _ 4 #[false,false,false,false] a {w with drawn:=w.drawn+1};generalize ({w with drawn:=w.drawn+1}:World)=w1 at hN1 sk0;have last: ∀(s:TS) (o:Oper) (r:RO) (ι':Asg) (a':Act) (w':World),lh.next<=s.next->Now ι' nt s.e ⟨s.next,s.get⟩ a' w'->StK lh.next ι w ι' w'->OpOK P nt [o0,o1,o2,o3] o3 r s->Q .normal (zO o3 r s).e ⟨(zO o3 r s).next,(zO o3 r s).get⟩->
   wpAny P .any [o0,o1,o2,o3].toArray (fun x a' w'=> ∃ι' e' lh',Q x e' lh'/\Now ι' nt e' lh' a' w'/\StK lh.next ι w ι' w'/\lh.next<=lh'.next) 1 #[true,true,true,false] a' w':=by
  intro s o r ι' a' w' hle hN' hsk hok hq;refine Eo 3 o3 rfl rfl (by rw[d3];simp) fun j o ho hl _=> ?_;rcases j with _|_|_|_|j
  ·cases hl
  ·cases hl
  ·cases hl
  ·cases ho;refine hok.step hN' fun ι'' a'' w'' k1 k2=> ?_;show wpAny P .any [o0,o1,o2,o3].toArray _ 0 #[true,true,true,true] a'' w'';refine⟨?_,ι'',_,_,hq,k1,hsk.trans k2 hle,ja hle (nle o3 r s)⟩;rw[Gf];intro j hj;rw[mem_ready]at hj;obtain⟨hj,oo,hoo,_⟩:=hj;have:j<4:=by have:=(Ub.1 hoo).1;simpa using this
   rcases j with _|_|_|_|j
   ·cases hj
   ·cases hj
   ·cases hj
   ·cases hj
   ·omega
  ·simp at ho
 refine Eo 0 o0 rfl rfl (by rw[d0];simp) fun j o ho hl hd=> ?_;rcases j with _|_|_|_|j
 ·cases ho;refine h0.step hN1 fun ι1 a1 w1' n1 k1=> ?_;show wpAny P .any [o0,o1,o2,o3].toArray _ 3 #[true,false,false,false] a1 w1';have K1:=sk0.trans k1 (Ma lh.next);refine Eo 1 o1 rfl rfl (by rw[d1];simp) fun j o ho hl hd=> ?_;rcases j with _|_|_|_|j
  ·cases hl
  ·cases ho;refine h1.step n1 fun ι2 a2 w2 n2 k2=> ?_;show wpAny P .any [o0,o1,o2,o3].toArray _ 2 #[true,true,false,false] a2 w2;have K2:=K1.trans k2 (nle o0 r0 ⟨e,lh.get,lh.next⟩);refine Eo 2 o2 rfl rfl (by rw[d2];simp) fun j o ho hl hd=> ?_;rcases j with _|_|_|_|j
   ·cases hl
   ·cases hl
   ·cases ho;refine h2.step n2 fun ι3 a3 w3 n3 k3=> ?_;show wpAny P .any [o0,o1,o2,o3].toArray _ 1 #[true,true,true,false] a3 w3;exact last _ o3 r3 ι3 a3 w3 (ja (nle o0 r0 ⟨e,lh.get,lh.next⟩) (ja (nle o1 r1 _) (nle o2 r2 _))) n3 (K2.trans k3 (ja (nle o0 r0 ⟨e,lh.get,lh.next⟩) (nle o1 r1 _))) h3 hQ
   ·cases ho;have:=hd 2 (by rw[d3];simp);cases this
   ·simp at ho
  ·cases ho;refine h2'.step n1 fun ι2 a2 w2 n2 k2=> ?_;show wpAny P .any [o0,o1,o2,o3].toArray _ 2 #[true,false,true,false] a2 w2;have K2:=K1.trans k2 (nle o0 r0 ⟨e,lh.get,lh.next⟩);refine Eo 1 o1 rfl rfl (by rw[d1];simp) fun j o ho hl hd=> ?_;rcases j with _|_|_|_|j
   ·cases hl
   ·cases ho;refine h1'.step n2 fun ι3 a3 w3 n3 k3=> ?_;show wpAny P .any [o0,o1,o2,o3].toArray _ 1 #[true,true,true,false] a3 w3;exact last _ o3 r3' ι3 a3 w3 (ja (nle o0 r0 ⟨e,lh.get,lh.next⟩) (ja (nle o2 r2' _) (nle o1 r1' _))) n3 (K2.trans k3 (ja (nle o0 r0 ⟨e,lh.get,lh.next⟩) (nle o2 r2' _))) h3' hQ'
   ·cases hl
   ·cases ho;have:=hd 1 (by rw[d3];simp);cases this
   ·simp at ho
  ·cases ho;have:=hd 1 (by rw[d3];simp);cases this
  ·simp at ho
 ·cases ho;have:=hd 0 (by rw[d1];simp);cases this
 ·cases ho;have:=hd 0 (by rw[d2];simp);cases this
 ·cases ho;have:=hd 0 (by rw[d3];simp);cases this
 ·simp at ho
end
section
variable {P:Program} {nt:Nat} {ops:List Oper} {ρ:Nat->Nat} {K:TS->Prop}
theorem Walk.n {o:Oper} {l:List Oper} {f:Fp} {fs:List Fp} {e:Env} {get:Get} {nx k d:Nat} {val:LV} {rd:List Nat} {up:List (Nat×Option OB)} (h:Op1 P (opd e) get nx o.op val rd up k) (hdst:o.dst=some d) (hd:Nat.blt d nt=true) (hg:o.guard=none)
  (h2:rd=f.1.map ρ) (h3:up.map (·.1)=f.2.map ρ) (h4:Walk P nt ops ρ l fs ⟨(d,val)::e,upd get up,nx+k⟩ K):Walk P nt ops ρ (o::l) (f::fs) ⟨e,get,nx⟩ K:=
 ⟨_,opN h hg (fun d' h'=>by rw[hdst]at h';cases h';exact zU.1 hd),h2,h3,by unfold zO;rw[hdst];exact h4⟩
theorem Walk.n0 {o:Oper} {l:List Oper} {f:Fp} {fs:List Fp} {e:Env} {get:Get} {nx k:Nat} {val:LV} {rd:List Nat} {up:List (Nat×Option OB)} (h:Op1 P (opd e) get nx o.op val rd up k) (hdst:o.dst=none) (hg:o.guard=none)
  (h2:rd=f.1.map ρ) (h3:up.map (·.1)=f.2.map ρ) (h4:Walk P nt ops ρ l fs ⟨e,upd get up,nx+k⟩ K):Walk P nt ops ρ (o::l) (f::fs) ⟨e,get,nx⟩ K:=
 ⟨_,opN h hg (fun d' h'=>by rw[hdst]at h';cases h'),h2,h3,by unfold zO;rw[hdst];exact h4⟩
theorem Walk.end{e:Env}{get:Get}{nx:Nat}(h:K ⟨e,get,nx⟩):Walk P nt ops ρ [] [] ⟨e,get,nx⟩ K:=h
theorem upK{get:Get}{id j:Nat}{o:Option OB}{x:Option OB}(hg:get id=x)(h:id≠j):upd get [(j,o)] id=x:=by simp only[upd];rw[Oa h];exact hg
theorem upK2{get:Get}{id j j2:Nat}{o o2:Option OB}{x:Option OB}(hg:get id=x)(h:id≠j)(h2:id≠j2):upd get [(j,o),(j2,o2)] id=x:=by simp only[upd];rw[Oa h,Oa h2];exact hg
theorem upS{get:Get}{j:Nat}{o:Option OB}:upd get [(j,o)] j=o:=Va rfl
theorem upS2{get:Get}{j j2:Nat}{o o2:Option OB}(h:j2≠j):upd get [(j,o),(j2,o2)] j2=o2:=by show(if j2=j then o else if j2=j2 then o2 else get j2)=o2;rw[Oa h,Va rfl]
end
theorem Xg{l:List Nat}(h:l.Nodup): ∀i j,i<l.length->j<l.length->l.getD i 0=l.getD j 0->i=j:=by
 intro i j hi hj e;rw[Sd,Sd,Ea hi,Ea hj]at e;have e:l[i]=l[j]:=e;have hpw:=List.pairwise_iff_getElem.1 h;rcases Nat.lt_trichotomy i j with q|q|q
 ·exact absurd e (hpw i j hi hj q)
 ·exact q
 ·exact absurd e.symm (hpw j i hj hi q)
theorem at1{get:Get}{i j:Nat}{a b:OB}(hi:get i=some a)(hj:get j=some b)(h:Nat.beq a.ty b.ty=false):i≠j:=fun e=>by subst e;rw[hi]at hj;cases hj;rw[Nat.beq_refl]at h;cases h
end Go.Lv
