/- The primitives of the plain texts of functions, and their laws. -/
import Derived.Test.YtcdeccnjlkkejaaGreatDoorLc
import Derived.IntWalk
import Derived.Lib.Index
import Derived.Lib.IndexMore
import Derived.Lib.IndexAny
import Derived.Lib.SlTrimSet
import Derived.Lib.TrimByte
import Derived.Lib.ItoaNum
import Derived.Test.YtcdeccnjlkkejaaGreatDoorLe
import Derived.Lib.Strings
import Derived.Lib.Bytealg
import GoSem.ClaimChange
import Derived.Below
import Derived.ChangeSame
import Derived.Carry
import Derived.ProofKit
import Derived.OpenShut
import Derived.Test.YtcdeccnjlkkejaaGreatDoorLd
set_option linter.unusedSimpArgs false
set_option linter.unusedVariables false
namespace Go.Lv
abbrev Str:=List UInt8
abbrev w8(n:Int):Int:=IntKind.i8.wrap n
abbrev w32(n:Int):Int:=IntKind.i32.wrap n
abbrev w64(n:Int):Int:=IntKind.i64.wrap n
abbrev wu8(n:Int):Int:=IntKind.u8.wrap n
abbrev wu32(n:Int):Int:=IntKind.u32.wrap n
abbrev wu64(n:Int):Int:=IntKind.u64.wrap n
def mi(k:IntKind)(x y:Int):Int:=k.wrap (BitVec.ofInt k.bits x &&& BitVec.ofInt k.bits y).toNat
def ibOr(k:IntKind)(x y:Int):Int:=k.wrap (BitVec.ofInt k.bits x ||| BitVec.ofInt k.bits y).toNat
def Mv(k:IntKind)(x y:Int):Int:=k.wrap (x*2 ^ (min y.toNat k.bits))
def Ai(k:IntKind)(x y:Int):Int:=x.fdiv (2 ^ (min y.toNat k.bits))
def Zw(n:Int):Option UInt8:=cond (decide (0<=n)&&decide (n<=255)) (some (UInt8.ofNat n.toNat)) none
theorem U3{n:Int}{b:UInt8}(h:Zw n=some b):n=((b.toNat:Nat):Int):=by
 unfold Zw at h;cases hc:(decide (0<=n)&&decide (n<=255))with
 |false=>rw[hc]at h;cases h
 |true=> rw[hc]at h;simp only[Da,Cc]at hc;injection h with h;subst h;rw[UInt8.toNat_ofNat'];omega
@[simp] theorem zzd (b : UInt8) : Zw ((b.toNat : Nat) : Int) = some b := by
 unfold Zw;have:=Rb b;have h:(decide ((0:Int)<=((b.toNat:Nat):Int))&&decide (((b.toNat:Nat):Int)<=255))=true:=by simp only[Da,Cc];omega
 rw[h];simp
abbrev ze{α β:Type}(x:Option α)(f:α->Option β):Option β:=x.bind f
noncomputable def ZE{S X R:Type}(step:S->Option (LO S X R))(s:S)(k:X->Option R):Option R:=
 (Rh step s).bind fun
 | .out x=>k x
 | .ret r=>some r
def zW{X R:Type}(m:Option (LX X R))(k:X->Option R):Option R:=
 m.bind fun
 | .out x=>k x
 | .ret r=>some r
def Jk{X Y:Type}(B:(X->Option Y)->X->Option Y):Nat->X->Option Y
 |0,_=>none
 |n+1,x=>B (Jk B n) x
open Classical in
noncomputable def recE{X Y:Type}(B:(X->Option Y)->X->Option Y)(x:X):Option Y:=
 if h: ∃y,∃N,∀n,N<=n->Jk B n x=some y then some h.choose else none
theorem TM{X Y:Type}{B:(X->Option Y)->X->Option Y}{x:X}{y:Y}{N:Nat}(h: ∀n,N<=n->Jk B n x=some y):recE B x=some y:=by have c: ∃y,∃N,∀n,N<=n->Jk B n x=some y:=⟨y,N,h⟩;unfold recE;rw[dif_pos c];obtain⟨M,hM⟩:=c.choose_spec;have h1:=hM (max N M) (kg ..);rw[h _ (Jh ..)]at h1;exact h1.symm
theorem eD {X Y:Type} {B:(X->Option Y)->X->Option Y} (c:X->Nat) (ok:X->Prop) (f:X->Y)
  (p: ∀(S:X->Option Y) (x:X),ok x->(∀z,ok z->c z<c x->S z=some (f z))->B S x=some (f x)) {x:X} (r:ok x):recE B x=some (f x):=by
 have i: ∀(m:Nat) (n:Nat) (x:X),c x<m->m<=n->ok x->Jk B n x=some (f x):=by
  intro m
  induction m with
  |zero=>intro n x h;omega
  |d m u=>
   intro n x hm hn j;cases n with
   |zero=>omega
   |d n=>exact p _ x j fun z v y=>u n z (by omega) (by omega) v
 exact TM (N:=c x+1) fun n hn=>i (c x+1) n x (by omega) hn r
theorem HZ{X Y:Type}{B:(X->Option Y)->X->Option Y}{x:X}{y:Y}(h:recE B x=some y): ∃n,Jk B n x=some y:=by
 unfold recE at h;split at h
 ·rename_i c;injection h with h;obtain⟨N,d⟩:=c.choose_spec;exact⟨N,by rw[d N (Va _),h]⟩
 ·cases h
theorem WJ{S X R:Type}{step:S->Option (LO S X R)}: ∀{n m:Nat} {s:S} {x:LX X R},Qs step n s=some x->n<=m->Qs step m s=some x
 |0,_,_,_,h,_=>by cases h
 |n+1,0,_,_,_,hm=>by omega
 |n+1,m+1,s,x,h,hm=>by
  simp only[Qs]at h ⊢;split at h
  ·cases h
  ·exact WJ h (by omega)
  ·exact h
  ·exact h
theorem dn{S X R:Type}{step:S->Option (LO S X R)}{s:S}{x:LX X R}{n:Nat}(h:Qs step n s=some x):Rh step s=some x:=by have c: ∃n x,Qs step n s=some x:=⟨n,x,h⟩;unfold Rh;rw[dif_pos c];have h1:=c.choose_spec.choose_spec;have h2:=WJ h (Jh n c.choose);have h3:=WJ h1 (kg n c.choose);rw[h2]at h3;exact h3.symm
theorem Qj {S X R:Type} {step:S->Option (LO S X R)} (Inv:S->Prop) (d:S->Nat) (r:LX X R)
  (h: ∀s,Inv s->(∃c,step s=some (.again c)/\Inv c/\d c<d s)\/(∃x,step s=some (.out x)/\r= .out x)\/(∃y,step s=some (.ret y)/\r= .ret y)) {s:S} (f:Inv s):Rh step s=some r:=by
 have i: ∀(m:Nat) (s:S),d s<m->Inv s->Qs step m s=some r:=by
  intro m
  induction m with
  |zero=>intro s h;omega
  |j m p=>
   intro s hm f;simp only[Qs];rcases h s f with⟨c,h1,h2,h3⟩|⟨x,h1,h2⟩|⟨y,h1,h2⟩
   ·rw[h1];exact p c (by omega) h2
   ·rw[h1,h2]
   ·rw[h1,h2]
 exact dn (i (d s+1) s (by omega) f)
theorem d9{S X R:Type}{step:S->Option (LO S X R)}{s c:S}{r:LX X R}(h:step s=some (.again c))(h': ∃n,Qs step n c=some r): ∃n,Qs step n s=some r:=by obtain⟨n,hn⟩:=h';exact⟨n+1,by simp only[Qs,h];exact hn⟩
theorem Qk{S X R:Type}{step:S->Option (LO S X R)}{s:S}{k:X->Option R}{x:X}(h:Rh step s=some (.out x)):ZE step s k=k x:=by unfold ZE;rw[h];rfl
theorem oI{S X R:Type}{step:S->Option (LO S X R)}{s:S}{k:X->Option R}{r:R}(h:Rh step s=some (.ret r)):ZE step s k=some r:=by unfold ZE;rw[h];rfl
@[simp] theorem zh {X R : Type} (x : X) (k : X -> Option R) : zW (some (.out x)) k = k x := rfl
@[simp] theorem zqI {X R : Type} (r : R) (k : X -> Option R) : zW (some (.ret r)) k = some r := rfl
@[simp] theorem Z5 {R : Type} (x : Option R) : need true x = x := rfl
@[simp] theorem Zp {α : Type} (x : Option α) (d : α) : zu true x d = x := rfl
@[simp] theorem ZA {α : Type} (x : Option α) (d : α) : zu false x d = some d := rfl
theorem zy{R:Type}{b:Bool}(h:b=true)(x:Option R):need b x=x:=by rw[h];rfl
def LX.go{X R:Type}(r:LX X R)(k:X->Option R):Option R:=match r with| .out x=>k x| .ret y=>some y
@[simp] theorem zEX {X R : Type} (x : X) (k : X -> Option R) : (LX.out x : LX X R).go k = k x := rfl
@[simp] theorem go_ret {X R : Type} (y : R) (k : X -> Option R) : (LX.ret y : LX X R).go k = some y := rfl
theorem Yp{S X R:Type}{step:S->Option (LO S X R)}{s:S}{k:X->Option R}{r:LX X R}(h:Rh step s=some r):ZE step s k=r.go k:=by unfold ZE;rw[h];cases r<;>rfl
def Vl{α A X R:Type}(g:α->A->Option (LO A X R))(fin:A->Option (LX X R)):List α->A->Option (LX X R)
 |[],a=>fin a
 |v::l,a=>match g v a with
  |none=>none
  |some (.again c)=>Vl g fin l c
  |some (.out x)=>some (.out x)
  |some (.ret r)=>some (.ret r)
theorem QX{α:Type}{l:List α}{i:Nat}(h:i<l.length):geti l (i:Int)=some l[i]:=by
 unfold geti;have h0:decide ((0:Int)<=(i:Int))=true:=by simp
 rw[h0];simp[h]
theorem F6 {α A X R S:Type} {step:S->Option (LO S X R)} (l:List α) (st:Nat->A->S) (g:α->A->Option (LO A X R)) (fin:A->Option (LX X R)) (Inv:Nat->A->Prop)
  (v: ∀(i:Nat) (a:A) (h:i<l.length),Inv i a->step (st i a)=((g l[i] a).map fun
   | .again c=> .again (st (i+1) c)
   | .out x=> .out x
   | .ret r=> .ret r)/\ ∀c,g l[i] a=some (.again c)->Inv (i+1) c)
  (hf: ∀a,Inv l.length a->step (st l.length a)=(fin a).map fun
   | .out x=> .out x
   | .ret r=> .ret r) {a:A} {r:LX X R} (h0:Inv 0 a) (h:Vl g fin l a=some r):Rh step (st 0 a)=some r:=by
 have m: ∀(k:Nat) (i:Nat) (a:A),i+k=l.length->Inv i a->Vl g fin (l.drop i) a=some r-> ∃n,Qs step n (st i a)=some r:=by
  intro k
  induction k with
  |zero=>
   intro i a hi hI ho;have hi:i=l.length:=by omega
   subst hi;rw[List.drop_length]at ho;refine⟨1,?_⟩;simp only[Qs,hf a hI];simp only[Vl]at ho;rw[ho];cases r<;>rfl
  |u k z=>
   intro i a hi hI ho;have f:i<l.length:=by omega
   rw[Yb f]at ho;simp only[Vl]at ho;obtain⟨j,p⟩:=v i a f hI;cases d:g l[i] a with
   |none=>rw[d]at ho;cases ho
   |some o=>
    rw[d]at ho j;cases o with
    |again c=>exact d9 j (z (i+1) c (by omega) (p c d) ho)
    |out x=>cases ho;exact⟨1,by simp only[Qs];rw[j];rfl⟩
    |ret y=>cases ho;exact⟨1,by simp only[Qs];rw[j];rfl⟩
 obtain⟨n,hn⟩:=m l.length 0 a (by omega) h0 (by simpa using h);exact dn hn
theorem Xy {α A X R S:Type} {step:S->Option (LO S X R)} {k:X->Option R} (l:List α) (st:Nat->A->S) (g:α->A->Option (LO A X R)) (fin:A->Option (LX X R)) (Inv:Nat->A->Prop) {s0:S} {a:A} (h0:s0=st 0 a) (hi:Inv 0 a)
  (f: ∀(i:Nat) (a:A) (h:i<l.length),Inv i a->step (st i a)=((g l[i] a).map fun
   | .again c=> .again (st (i+1) c)
   | .out x=> .out x
   | .ret r=> .ret r)/\ ∀c,g l[i] a=some (.again c)->Inv (i+1) c)
  (hf: ∀a,Inv l.length a->step (st l.length a)=(fin a).map fun
   | .out x=> .out x
   | .ret r=> .ret r) {r:LX X R} (h:Vl g fin l a=some r):ZE step s0 k=r.go k:=by
 subst h0;have:=F6 l st g fin Inv f hf hi h;unfold ZE;rw[d];cases r<;>rfl
theorem NY {α A X R S:Type} {step:S->Option (LO S X R)} {k:X->Option R} (l:List α) (st:Nat->A->S) (g:α->A->Option (LO A X R)) (fin:A->Option (LX X R)) {s0:S} {a:A} (h0:s0=st 0 a)
  (c: ∀(i:Nat) (a:A) (h:i<l.length),step (st i a)=(g l[i] a).map fun
   | .again d=> .again (st (i+1) d)
   | .out x=> .out x
   | .ret r=> .ret r)
  (hf: ∀a,step (st l.length a)=(fin a).map fun
   | .out x=> .out x
   | .ret r=> .ret r) {r:LX X R} (h:Vl g fin l a=some r):ZE step s0 k=r.go k:=
 Xy l st g fin (fun _ _=>True) h0 trivial (fun i a h _=>⟨c i a h,fun _ _=>trivial⟩) (fun a _=>hf a) h
theorem au{α A X R:Type}{g:α->A->Option (LO A X R)}{fin:A->Option (LX X R)}(f:A->α->A)(c: ∀v a,g v a=some (.again (f a v))): ∀(l:List α) (a:A),Vl g fin l a=fin (l.foldl f a)
 |[],a=>rfl
 |v::l,a=>by simp only[Vl,c,List.foldl_cons];exact au f c l _
theorem Jm{n:Int}(h1: -9223372036854775808<=n)(h2:n<=9223372036854775807):IntKind.i64.wrap n=n:=IntWalk.i64_in n ⟨h1,h2⟩
theorem rH{n m b:Nat}(h:(n+m)*b<=140737488355328):Zb n m b=true:=Ja h
end Go.Lv

namespace Go.Proofs
def Cl.cleanS:List UInt8->List UInt8
 |[]=>[]
 |13::10::r=>10::Cl.cleanS r
 |c::r=>bif c==0 then 239::191::189::Cl.cleanS r else bif c==12||c==13 then 10::Cl.cleanS r else c::Cl.cleanS r
end Go.Proofs
namespace Go.Lv
def ul(s:Str):Option (Str×Int):=some (if 4000<s.length then([],28)else(Proofs.Cl.cleanS s,0))
def short(l:Str):Bool:=decide (l.length<4294967281)
def uh(l:Str):Bool:=l.all fun b=>decide (b.toNat<128)
def Am(x:Str×Str):Option Int:=need (short x.1) (some (Lib.index x.1 x.2))
def cutF(x:Str×Str):Option (Str×Str×Bool):=need (short x.1) (some (Lib.cut x.1 x.2))
def Uk(x:Str×Str):Option Str:=need (short x.2&&uh x.2) (some (Lib.trimLeftS x.1 x.2))
def xm(x:Str×Str):Option Str:=match x.2 with
 |[c]=>need (decide (c.toNat<128)&&short x.1) (some (Lib.trimRightB x.1 c))
 |_=>none
def QZ(x:Str×Str):Option Int:=need (short x.1&&short x.2&&uh x.1&&uh x.2) (some (Lib.indexAny x.1 x.2))
def i64B(n:Int):Bool:=decide (-9223372036854775808<=n)&&decide (n<=9223372036854775807)
def Tp(x:Int×Int):Option Str:=need (decide (x.2=10)&&i64B x.1) (some (Lib.itoa x.1))
def Gq(x:(Int×Int)×Str):Option Str:=need (decide (x.1.2=10)&&decide (0<=x.1.1)&&decide (x.1.1<=9223372036854775807)&&short x.2) (some (x.2++Lib.decDigits x.1.1.toNat))
def hexD(n:Nat):UInt8:=UInt8.ofNat (if n<10 then 48+n else 87+n)
def hexS(n:Nat):Str:=if n<16 then [hexD n]else [hexD (n / 16),hexD (n%16)]
def Fq(x:(Int×Int)×Str):Option Str:=need (decide (x.1.2=16)&&decide (0<=x.1.1)&&decide (x.1.1<256)&&short x.2) (some (x.2++hexS x.1.1.toNat))
def Tx(x:Str×Int):Option Int:=some (Lib.indexByte x.1 x.2.toNat.toUInt8)
section
variable {I:Ip} {P:Program}
theorem fQ{D:Nat->Prop}{w:World}{u v:Value}(h:RepP D w (.at u) v):v=u:=by cases h;rfl
theorem VJ{D:Nat->Prop}{w:World}{l:List UInt8}{v:Value}(h:RepP D w (.str l) v):v= .string ⟨l.toArray⟩:=by cases h;rfl
theorem J2 {f:FuncId} {fn:Go.Func} (hf:P.funcs[f]? =some fn) (hn:(fn.name== "runtime.NumGoroutine")=false) (hb:fn.body.isSome=true)
  (h: ∀(s:ByteArray) (c:Int) (w:World),Calls P f #[.string s, .int .u8 c] w fun e w'=>e= .returned (.int .i64 (Lib.indexByte s.data.toList c.toNat.toUInt8))/\w'=w):
  zn P (⟨f,⟨[.str, .int .u8],[]⟩,[],⟨[.int .i64],[]⟩,0,Tx⟩:Con I)where
 wf:=rfl
 ok:=fun x y d ρ nx _ _ _=>by
  obtain⟨l,c⟩:=x;cases d;refine⟨⟨fn,hf,hn,hb⟩,fun ι get w N vs z _ _ ha _=> ?_⟩;obtain⟨j,ha⟩:=ha;obtain⟨A,m,_,p⟩:=ha 0 _ rfl;obtain⟨B,r,_,u⟩:=ha 1 _ rfl;have e0:A= .string ⟨l.toArray⟩:=VJ p;have e1:B= .int .u8 c:=fQ u;subst e0;subst e1;have hv:vs= #[.string ⟨l.toArray⟩, .int .u8 c]:=by
   have j:vs.size=2:=j;apply Array.ext
   ·simp[j]
   ·intro i hi J;have:i=0\/i=1:=by omega
    rcases v with rfl|rfl
    ·exact(Ic.1 m).2
    ·exact(Ic.1 r).2
  subst hv;refine(h ⟨l.toArray⟩ c w).mono ?_;rintro e w' ⟨rfl,rfl⟩;refine⟨_,rfl,Qh z ⟨rfl,?_⟩⟩;exact .at _ rfl
end
inductive All2 {α β:Type} (R:α->β->Prop):List α->List β->Prop where
 |nil:All2 R [] []
 |cons {a:α} {b:β} {l:List α} {m:List β} (h:R a b) (t:All2 R l m):All2 R (a::l) (b::m)
section
variable {I:Ip} {P:Program}
theorem lZ{X Y:Type}(B:(X->Option Y)->X->Option Y)(n:Nat):Jk B n=Nat.rec (motive:=fun _=>X->Option Y) (fun _=>Option.none) (fun _ S=>B S) n:=by
 induction n with
 |zero=>rfl
 |c n d=>funext x;show B (Jk B n) x=B _ x;rw[d]
theorem zn.recE {f:Nat} {inS:StSh} {cst:List Nat} {outS:StSh} {k:Nat} (B:((inS.sl I).T->Option (outS.sl I).T)->(inS.sl I).T->Option (outS.sl I).T)
  (c:Fj (⟨f,inS,cst,outS,k,fun _=>Option.none⟩:Con I)=true) (d: ∀S,zn P (⟨f,inS,cst,outS,k,S⟩:Con I)->zn P (⟨f,inS,cst,outS,k,B S⟩:Con I)):zn P (⟨f,inS,cst,outS,k,Lv.recE B⟩:Con I):=
 zn.recf B c d fun x y h=>by obtain⟨n,hn⟩:=HZ h;exact⟨n,by rw[<-lZ];exact hn⟩
end
mutual
/-- How many values and letters there are. -/
def bPV:PV->Nat
 | .at _=>1
 | .str l=>l.length+1
 | .sl rows=>Cr rows+1
 | .ptr cells=>jh cells+1
def Cr:List (List PV)->Nat
 |[]=>0
 |r::rs=>jh r+Cr rs
def jh:List PV->Nat
 |[]=>0
 |c::cs=>bPV c+jh cs
end
mutual
/-- Integers are in their kind's range. -/
def okPV:PV->Prop
 | .at (.int k n)=>k.min<=n/\n<=k.max
 | .at _=>True
 | .str _=>True
 | .sl rows=>yF rows
 | .ptr cells=>Lj cells
def yF:List (List PV)->Prop
 |[]=>True
 |r::rs=>Lj r/\yF rs
def Lj:List PV->Prop
 |[]=>True
 |c::cs=>okPV c/\Lj cs
end
theorem OU: ∀(a b:List PV),jh (a++b)=jh a+jh b
 |[],b=>by simp[jh]
 |x::a,b=>by simp only[ja,jh,OU a b];omega
theorem sU: ∀(a b:List PV),Lj (a++b)↔Lj a/\Lj b
 |[],b=>by simp[Lj]
 |x::a,b=>by simp only[ja,Lj,sU a b,and_assoc]
structure zAZ (bk:{H:Type}->DataW H->Nat):Prop where
 one: ∀{H:Type} (d:DataW H),1<=bk d
 str: ∀{H:Type} (l:List UInt8),bk (DataW.lit (H:=H) (.string l))=l.length+1
 slice: ∀{H:Type} (a b:List (DataW H)),(a.map bk).sum+1<=bk (.slice a b)
 agg: ∀{H:Type} (a:List (DataW H)),(a.map bk).sum+1<=bk (.agg a)
structure IpRd (P:Program) (I:Ip) (G:Nat->Prop):Prop where
 int: ∀t k,G t->P.underlying t=some (.int k)-> ∀n,k.min<=n->n<=k.max-> ∃x:I.C t,I.full t x=[.at (.int k n)]
 bool: ∀t,G t->P.underlying t=some .bool-> ∀b,∃x:I.C t,I.full t x=[.at (.bool b)]
 str: ∀t,G t->P.underlying t=some .string-> ∀l,∃x:I.C t,I.full t x=[.str l]
 sl: ∀t e,G t->P.underlying t=some (.slice e)->G e/\0<P.cellsOf e/\ ∀l:List (I.C e),∃x:I.C t,I.full t x=[.sl (l.map (I.full e))]
 st: ∀t fs,G t->P.underlying t=some (.struct fs)->(∀f∈fs.toList,G f.type)/\(∀(i:Nat) f,fs.toList[i]? =some f->f.offset=((fs.toList.take i).map fun f=>P.cellsOf f.type).sum)/\P.cellsOf t=(fs.toList.map fun f=>P.cellsOf f.type).sum/\
  ∀pvs:List (List PV),All2 (fun(f:Field) p=> ∃y:I.C f.type,I.full f.type y=p) fs.toList pvs-> ∃x:I.C t,I.full t x=pvs.flatten
 only: ∀t u,G t->P.underlying t=some u->(∃k,u= .int k)\/u= .bool\/u= .string\/(∃e,u= .slice e)\/(∃fs,u= .struct fs)
def offs(P:Program):Nat->List (Nat×Nat)->Bool
 |_,[]=>true
 |off,(t,o)::r=>Nat.beq o off&&offs P (off+P.cellsOf t) r
def Gn(P:Program)(t:Nat):List (Nat×Nat):=match P.underlying t with
 |some (.struct fs)=>fs.toList.map fun f=>(f.type,f.offset)
 |_=>[]
theorem DN{P:Program}: ∀{l:List (Nat×Nat)} {off:Nat},offs P off l=true-> ∀(i:Nat) p,l[i]? =some p->p.2=off+((l.take i).map fun p=>P.cellsOf p.1).sum
 |[],off,_,i,p,h=>by cases h
 |(t,o)::r,off,h,i,p,hi=>by
  simp only[offs,Da]at h;cases i with
  |zero=>cases hi;simpa using Bb h.1
  |c i=> have:=DN h.2 i p (by simpa using hi);rw[d];simp only[mf,aa,Mg];omega
theorem Z0{α β:Type}{R:α->β->Prop}{a:α}{l:List α}{m:List β}(h:All2 R (a::l) m): ∃b m',m=b::m'/\R a b/\All2 R l m':=by
 cases h with
 |cons h t=>exact⟨_,_,rfl,h,t⟩
theorem Iu{α β:Type}{R:α->β->Prop}{m:List β}(h:All2 R [] m):m=[]:=by cases h;rfl
theorem eO{α β c:Type}{f:α->c}{R:c->β->Prop}: ∀{l:List α} {m:List β},All2 (fun a b=>R (f a) b) l m->All2 R (l.map f) m
 |[],_,h=>by cases h;exact .nil
 |a::l,_,h=>by
  cases h with
  |cons h t=>exact .cons h (eO t)
theorem Br {P:Program} {I:Ip} {G:Nat->Prop} {t:Nat} {fs:Array Field} (hu:P.underlying t=some (.struct fs)) {ft:List (Nat×Nat)} (c:Gn P t=ft) (j: ∀p∈ft,G p.1) (ho:offs P 0 ft=true)
  (m:P.cellsOf t=(ft.map fun p=>P.cellsOf p.1).sum) (mk: ∀pvs:List (List PV),All2 (fun(p:Nat×Nat) q=> ∃y:I.C p.1,I.full p.1 y=q) ft pvs-> ∃x:I.C t,I.full t x=pvs.flatten):
  (∀f∈fs.toList,G f.type)/\(∀(i:Nat) f,fs.toList[i]? =some f->f.offset=((fs.toList.take i).map fun f=>P.cellsOf f.type).sum)/\P.cellsOf t=(fs.toList.map fun f=>P.cellsOf f.type).sum/\
  ∀pvs:List (List PV),All2 (fun(f:Field) p=> ∃y:I.C f.type,I.full f.type y=p) fs.toList pvs-> ∃x:I.C t,I.full t x=pvs.flatten:=by
 have c:fs.toList.map (fun f=>(f.type,f.offset))=ft:=by unfold Gn at c;rw[hu]at c;exact c
 refine⟨fun f hf=>j (f.type,f.offset) (by rw[<-c];exact Oa.2 ⟨f,hf,rfl⟩),fun i f hi=> ?_,?_,fun pvs h=>mk pvs ?_⟩
 ·have:=DN ho i (f.type,f.offset) (by rw[<-c,Ta,hi];rfl);simp only[Be]at d;rw[d,<-c,<-Xd,Ac];rfl
 ·rw[m,<-c,Ac];rfl
 ·rw[<-c];exact eO h
theorem tC{α β:Type}{g:α->Option β}: ∀{l:List α} {r:List β},l.mapM g=some r->All2 (fun a b=>g a=some b) l r
 |[],r,h=>by simp only[List.mapM_nil,Option.pure_def,Option.some.injEq]at h;subst h;exact .nil
 |a::l,r,h=>by rw[List.mapM_cons]at h;obtain⟨b,h1,h2⟩:=Ca.1 h;obtain⟨c,h3,h4⟩:=Ca.1 h2;simp only[Option.pure_def,Option.some.injEq]at h4;subst h4;exact .cons h1 (tC h3)
theorem All2.len{α β:Type}{R:α->β->Prop}{l:List α}{m:List β}(h:All2 R l m):l.length=m.length:=by
 induction h with
 |nil=>rfl
 |cons _ _ c=>simp[c]
theorem All2.at{α β:Type}{R:α->β->Prop}{l:List α}{m:List β}(h:All2 R l m): ∀{i:Nat} {a:α},l[i]? =some a-> ∃b,m[i]? =some b/\R a b:=by
 induction h with
 |nil=>intro i a h;cases h
 |cons h t d=>
  intro i a hi;cases i with
  |zero=>cases hi;exact⟨_,rfl,h⟩
  |c i=>exact d hi
def Bi(w:World)(cs:List Value)(pvs:List PV):Prop:=cs.length=pvs.length/\ ∀(j:Nat) v c,cs[j]? =some v->pvs[j]? =some c->RepP (fun b=>b<w.heap.size) w c v/\v.oneCell'=true
theorem Bi.one{w:World}{v:Value}{c:PV}(h:RepP (fun b=>b<w.heap.size) w c v)(ho:v.oneCell'=true):Bi w [v] [c]:=by
 refine⟨rfl,fun j u q hu f=> ?_⟩;cases j with
 |zero=>cases hu;cases f;exact⟨h,ho⟩
 |d j=>cases hu
theorem Bi.append{w:World}{a b:List Value}{p q:List PV}(h:Bi w a p)(g:Bi w b q):Bi w (a++b) (p++q):=by
 refine⟨by simp[h.1,g.1],fun j v c hv hp=> ?_⟩;by_cases d:j<a.length
 ·rw[Fb d]at hv;rw[Fb (by rw[<-h.1];exact d)]at hp;exact h.2 j v c hv hp
 ·rw[Xc (by omega)]at hv;rw[Xc (by have:=h.1;omega),<-h.1]at hp;exact g.2 _ v c hv hp
section
variable {P:Program} {I:Ip} {G:Nat->Prop} {bk:{H:Type}->DataW H->Nat}
theorem jS {H:Type} {D:Nat->List Value->Option (DataW H×List MemPlace)} {w:World}
  (hD: ∀t cs d ps,G t->D t cs=some (d,ps)-> ∃x:I.C t,Bi w cs (I.full t x)/\jh (I.full t x)<=bk d/\Lj (I.full t x)) (cs:List Value):
  ∀(fs:List Field) (off:Nat) (xs:List (DataW H×List MemPlace)),(∀f∈fs,G f.type)->(∀(i:Nat) f,fs[i]? =some f->f.offset=off+((fs.take i).map fun f=>P.cellsOf f.type).sum)->
   All2 (fun(f:Field) x=>D f.type ((cs.drop f.offset).take (P.cellsOf f.type))=some x) fs xs->
   ∃pvs:List (List PV),All2 (fun(f:Field) p=> ∃y:I.C f.type,I.full f.type y=p) fs pvs/\Bi w ((cs.drop off).take ((fs.map fun f=>P.cellsOf f.type).sum)) pvs.flatten/\jh pvs.flatten<=((xs.map (·.1)).map bk).sum/\Lj pvs.flatten
 |[],off,xs,_,_,h=>by
  cases h;refine⟨[], .nil,⟨by simp,fun j v O hv=>by simp at hv⟩,by simp[jh],trivial⟩
 |f::fs,off,xs,r,ho,h=>by
  cases h with
  | @cons _ x _ m h1 h2=>
   obtain⟨d,ps⟩:=x;have h0:f.offset=off:=by have:=ho 0 f rfl;simpa using c
   obtain⟨y,u,U,z⟩:=hD f.type _ d ps (r f (Jb ..)) h1;obtain⟨pvs,A,B,V,J⟩:=jS hD cs fs (off+P.cellsOf f.type) m (fun g L=>r g (Eb _ L)) (fun i g hi=>by
    have:=ho (i+1) g (by simpa using hi);rw[c];simp only[mf,aa,Mg];omega) h2
   refine⟨I.full f.type y::pvs, .cons ⟨y,rfl⟩ A,?_,?_,?_⟩
   ·rw[h0]at u;have e:(cs.drop off).take (((f::fs).map fun f=>P.cellsOf f.type).sum)=(cs.drop off).take (P.cellsOf f.type)++(cs.drop (off+P.cellsOf f.type)).take ((fs.map fun f=>P.cellsOf f.type).sum):=by rw[aa,Mg,List.take_add,Vf]
    rw[e,df];exact u.append B
   ·rw[df,OU];simp only[aa,Mg];omega
   ·rw[df];exact(sU _ _).2 ⟨z,J⟩
theorem VQ{w:World}{a:Addr}{v:Value}(h:w.cell? a=some v):a.spot=none/\a.block<w.heap.size:=by
 unfold World.cell? at h;split at h
 ·rename_i c t fr hb;refine⟨?_,(Ic.1 hb).1⟩;cases d:a.spot with
  |none=>rfl
  |some s=>rw[d]at h;cases h
 ·cases h
theorem UQ{w:World}{a:Addr}{n:Nat}{cs:List Value}(h:w.cells? 0 a n=some cs):cs.length=n/\ ∀(i:Nat) v,cs[i]? =some v->w.cell? (a.add i)=some v:=by
 unfold World.cells? at h;rw[La (Pb _)]at h;have h:=tC h;have hl:=h.len;rw[List.length_range]at hl;refine⟨hl.symm,fun i v hv=> ?_⟩;have hi:i<n:=by rw[hl];exact(Fa.1 hv).1
 obtain⟨b,h1,h2⟩:=h.at (i:=i) (a:=i) (by rw[List.getElem?_range hi]);rw[hv]at h1;cases h1;exact h2
theorem Y7{a:Addr}(n m:Nat)(h:(a.add n).spot=none):(a.add n).add m=⟨a.block,a.off+n+m,none⟩/\a.block=(a.add n).block:=by
 obtain⟨b,o,s⟩:=a;by_cases hn:n=0
 ·subst hn;have e:(⟨b,o,s⟩:Addr).add 0=⟨b,o,s⟩:=La rfl;rw[e]at h ⊢;have h:s=none:=h;subst h;refine⟨?_,rfl⟩;unfold Addr.add;by_cases hm:m=0
  ·subst hm;rw[La rfl];rfl
  ·rw[Ha hm];rfl
 ·have e:(⟨b,o,s⟩:Addr).add n=⟨b,o+n,none⟩:=Ha hn;rw[e];refine⟨?_,rfl⟩;unfold Addr.add;by_cases hm:m=0
  ·subst hm;rw[La rfl];rfl
  ·rw[Ha hm]
theorem OM {w:World} {e k:Nat} {a:Addr} {H:Type} {D:List Value->Option (DataW H×List MemPlace)} (hk:0<k)
  (hD: ∀cs d ps,D cs=some (d,ps)-> ∃x:I.C e,Bi w cs (I.full e x)/\jh (I.full e x)<=bk d/\Lj (I.full e x)) (hI: ∀x:I.C e,(I.full e x).length=k):
  ∀(n s:Nat) (r:List (DataW H×List MemPlace)),All2 (fun i x=>(w.cells? 0 (a.add (i*k)) k).bind D=some x) (List.range' s n) r->
   ∃l:List (I.C e),l.length=n/\Cr (l.map (I.full e))<=((r.map (·.1)).map bk).sum/\yF (l.map (I.full e))/\
    ∀(i:Nat) x (j:Nat) c,l[i]? =some x->(I.full e x)[j]? =some c-> ∃v,w.cell? ⟨a.block,a.off+(s+i)*k+j,none⟩=some v/\RepP (fun b=>b<w.heap.size) w c v/\v.oneCell'=true
 |0,s,r,h=>by
  cases h;exact⟨[],rfl,by simp[Cr],trivial,fun i x j c h=>by cases h⟩
 |n+1,s,r,h=>by
  rw[List.range'_succ]at h;cases h with
  | @cons _ x _ B h1 h2=>
   obtain⟨cs,g1,J⟩:=Ca.1 h1;obtain⟨d,ps⟩:=x;obtain⟨y,p,Y,L⟩:=hD cs d ps J;obtain⟨l,l1,l2,O,U⟩:=OM hk hD hI n (s+1) B h2;obtain⟨c1,c2⟩:=UQ g1;refine⟨y::l,by simp[l1],?_,⟨L,O⟩,fun i z j c u hp=> ?_⟩
   ·simp only[aa,Cr,Mg];omega
   ·cases i with
    |zero=>
     cases u;have V:j<cs.length:=by rw[p.1];exact(Fa.1 hp).1
     have hv:cs[j]? =some cs[j]:=Ma V;obtain⟨r1,r2⟩:=p.2 j _ _ hv hp;have hc:=c2 j _ hv;have h0:=c2 0 cs[0] (Ma (by omega));have f:=(VQ h0).1;have m:(a.add (s*k)).spot=none:=by have e0:(a.add (s*k)).add 0=a.add (s*k):=La rfl;rw[e0]at f;exact f
     refine⟨_,?_,r1,r2⟩;rw[jd,<-(Y7 (s*k) j m).1];exact hc
    |A i=> obtain⟨v,v1,v2,W⟩:=U i z j c u hp;refine⟨v,?_,v2,W⟩;rw[show s+(i+1)=s+1+i by omega];exact v1
theorem zEv{n:Int}(h1:IntKind.u8.min<=n)(h2:n<=IntKind.u8.max):[PV.at (.int .u8 (((UInt8.ofNat n.toNat).toNat:Nat):Int))]=[PV.at (.int .u8 n)]:=by
 have h1:(0:Int)<=n:=h1;have h2:n<=255:=h2;rw[UInt8.toNat_ofNat'];have:((n.toNat%2 ^ 8:Nat):Int)=n:=by omega
 rw[c]
theorem reads(hI:IpOK P I)(V:IpRd P I G)(hb:zAZ bk){H:Type}(enc:TypeId×Value->H)(w:World):
  ∀(p:Nat) (t:Nat) (cs:List Value) (d:DataW H) (ps:List MemPlace),G t->DataW.trod enc P w 0 (fun _=>true) true p t cs=some (d,ps)-> ∃x:I.C t,Bi w cs (I.full t x)/\jh (I.full t x)<=bk d/\Lj (I.full t x):=by
 intro p
 induction p with
 |zero=>intro t cs d ps _ h;cases h
 |a7 p ih=>
  intro t cs d ps W h;simp only[DataW.trod]at h;cases hu:P.underlying t with
  |none=>rw[hu]at h;simp at h
  |some u=>
   rw[hu]at h;rcases V.only t u W hu with⟨k,rfl⟩|rfl|rfl|⟨e,rfl⟩|⟨fs,rfl⟩
   ·split at h<;>(try (rename_i y;cases y;done))<;>(try (rename_i y _;cases y;done))<;>(try (cases h;done));rename_i k0 k' n y;cases y;split at h
    ·rename_i hc;cases h;obtain⟨rfl,O⟩:=hc;have A:=O;simp only[Lit.wf,Da,Cc]at A;obtain⟨x,m⟩:=V.int t _ W hu n A.1 A.2;refine⟨x,?_,?_,?_⟩
     ·rw[m];exact Bi.one (.at _ rfl) rfl
     ·rw[m];simp only[jh,bPV];exact hb.one _
     ·rw[m];simp only[Lit.wf,Da,Cc]at O;exact⟨O,trivial⟩
    ·cases h
   ·split at h<;>(try (rename_i y;cases y;done))<;>(try (rename_i y _;cases y;done))<;>(try (cases h;done));cases h;rename_i b _;obtain⟨x,m⟩:=V.bool t W hu b;refine⟨x,by rw[m];exact Bi.one (.at _ rfl) rfl,by rw[m];simp only[jh,bPV];exact hb.one _,by rw[m];exact⟨trivial,trivial⟩⟩
   ·split at h<;>(try (rename_i y;cases y;done))<;>(try (rename_i y _;cases y;done))<;>(try (cases h;done));rename_i s _;split at h
    ·cases h;obtain⟨x,m⟩:=V.str t W hu s.data.toList;refine⟨x,?_,?_,by rw[m];exact⟨trivial,trivial⟩⟩
     ·rw[m];have:Value.string s= .string ⟨s.data.toList.toArray⟩:=by cases s;simp
      rw[a8];exact Bi.one (.str _) rfl
     ·rw[m];simp only[jh,bPV,hb.str];omega
    ·cases h
   ·obtain⟨ge,hk,J⟩:=V.sl t e W hu;split at h<;>(try (rename_i y;cases y;done))<;>(try (rename_i y _;cases y;done))<;>(try (cases h;done))
    ·cases h;obtain⟨x,m⟩:=J [];refine⟨x,?_,?_,by rw[m];exact⟨trivial,trivial⟩⟩
     ·rw[m];exact Bi.one (.sl [] none 0 0 0 0 0 (fun _ _=>undef) rfl (Va _) (fun h=>by omega) (fun h=>by omega) (fun r hr=>by cases hr) (fun i row j x h=>by cases h) (fun i row j x h=>by cases h)) rfl
     ·rw[m];simp only[ic,jh,bPV,Cr];exact hb.one _
    ·rename_i e' a len cap y;cases y;split at h
     ·rename_i hc;obtain⟨B,h1,h2⟩:=Ca.1 h;obtain⟨rest,h3,h4⟩:=Lb.1 h2;cases h4;have h1:=tC h1;rw[List.range_eq_range']at h1;obtain⟨l,l1,l2,l3,l4⟩:=OM (I:=I) (bk:=bk) (w:=w) (e:=e) (a:=a) hk (fun cs d ps hd=>ih e cs d ps ge hd) (fun x=>hI.len e x) len 0 B h1;obtain⟨x,m⟩:=J l;refine⟨x,?_,?_,?_⟩
      ·rw[m];have L: ∀i x j Y,l[i]? =some x->(I.full e x)[j]? =some Y-> ∃v,w.cell? ⟨a.block,a.off+i*P.cellsOf e+j,none⟩=some v/\RepP (fun b=>b<w.heap.size) w Y v:=fun i x j Y h1 h2=>by obtain⟨v,v1,v2,_⟩:=l4 i x j Y h1 h2;exact⟨v,by simpa using v1,v2⟩
       have a3:0<len-> ∃v,w.cell? (a.add (0*P.cellsOf e))=some v:=by intro hl;have h0:=h1.at (i:=0) (a:=0) (by rw[<-List.range_eq_range',List.getElem?_range hl]);obtain⟨b,_,a5⟩:=h0;obtain⟨cs,g1,_⟩:=Ca.1 a5;obtain⟨c1,c2⟩:=UQ g1;have h0:=c2 0 (cs[0]'(by omega)) (Ma (by omega));have e0:(a.add (0*P.cellsOf e)).add 0=a.add (0*P.cellsOf e):=La rfl;rw[e0]at h0;exact⟨_,h0⟩
       have ha:0<len->a=⟨a.block,a.off,none⟩/\a.block<w.heap.size:=by intro hl;obtain⟨v,hv⟩:=a3 hl;rw[Nat.zero_mul]at hv;have e0:a.add 0=a:=La rfl;rw[e0]at hv;obtain⟨Z,q2⟩:=VQ hv;refine⟨?_,q2⟩;cases a;simp only at Z;subst Z;rfl
       refine Bi.one (.sl _ (some a) len cap (P.cellsOf e) a.block a.off (fun i j=>(w.cell? ⟨a.block,a.off+i*P.cellsOf e+j,none⟩).getD undef) (by simp[l1]) hc.2.1 (fun hl=>congrArg some (ha hl).1) (fun hl=>(ha hl).2) (fun row hr=> ?_) (fun i row j x hi hj=> ?_) (fun i row j x hi hj=> ?_)) rfl
       ·obtain⟨z,_,rfl⟩:=Oa.1 hr;exact hI.len e z
       ·rw[Ta]at hi;cases U:l[i]? with
        |none=>rw[U]at hi;cases hi
        |some z=> rw[U]at hi;cases hi;obtain⟨v,v1,_⟩:=L i z j x U hj;rw[v1];rfl
       ·rw[Ta]at hi;cases U:l[i]? with
        |none=>rw[U]at hi;cases hi
        |some z=> rw[U]at hi;cases hi;obtain⟨v,v1,v2⟩:=L i z j x U hj;rw[v1];exact v2
      ·rw[m];simp only[jh,bPV];have:=hb.slice (B.map (·.1)) (rest.map (·.1));omega
      ·rw[m];exact⟨l3,trivial⟩
     ·cases h
   ·obtain⟨gf,ho,a6,J⟩:=V.st t fs W hu;have h:(if cs.length=P.cellsOf t then(fs.toList.mapM fun f=>DataW.trod enc P w 0 (fun _=>true) true p f.type ((cs.drop f.offset).take (P.cellsOf f.type))).map fun xs=>(DataW.agg (xs.map (·.1)),xs.flatMap (·.2))else none)=some (d,ps):=by
     revert h;cases cs with
     |nil=>exact id
     |cons c cs=>
      cases cs with
      |nil=>cases c<;>exact id
      |cons c' cs=>exact id
    split at h
    ·rename_i hl;obtain⟨xs,h1,h2⟩:=Lb.1 h;cases h2;obtain⟨pvs,Z,q2,q3,q4⟩:=jS (P:=P) (I:=I) (G:=G) (bk:=bk) (D:=DataW.trod enc P w 0 (fun _=>true) true p) (w:=w) (fun t cs d ps=>ih t cs d ps) cs fs.toList 0 xs gf (fun i f hi=>by rw[ho i f hi];omega) (tC h1);obtain⟨x,m⟩:=J pvs Z;refine⟨x,?_,?_,by rw[m];exact q4⟩
     ·rw[m];rw[Pf,<-a6,<-hl,Mf]at q2;exact q2
     ·rw[m];have:=hb.agg (xs.map (·.1));omega
    ·cases h
end
open Go.RowKit Go.ChangeShapes Go.WideShapes
section
variable {P:Program} {I:Ip}
def noA:Asg:=fun _=> .free
theorem zCX{W:World}{c:PV}{v:Value}(h:RepP (fun b=>b<W.heap.size) W c v):RepP (Dom noA W) W c v:=
 h.mono (fun b hb=>⟨hb,fun id k e=>by cases e⟩) (fun b _=>rfl)
theorem zEz{W:World}{r:Reach}{base:Nat}{t:TypeId}{v:Value}{u:TypeDesc}{f:PV}(hu:P.underlying t=some u)(i: ∀fs,u≠ .struct fs)(ha: ∀n e,u≠ .array n e)(d:Value.okWide P W r base t v)(hr:Bi W v.cells.toList [f]):repT noA W (.c (.p f)) v:=by
 have d:Cell.okWide P W r base t v:=by unfold Value.okWide at d;rw[hu]at d;cases u<;>first|exact d|exact absurd rfl (i _)|exact absurd rfl (ha _ _)
 have hv:v.cells= #[v]:=by cases v<;>first|rfl|skip;exfalso;unfold Cell.okWide at d;rw[hu]at d;cases u<;>simp only[Cell.ok,hu]at d
 rw[hv]at hr;obtain⟨h1,h2⟩:=hr.2 0 v f rfl rfl;exact⟨h2,zCX h1⟩
theorem WZ{W:World}:Ej noA W [] #[]:=⟨rfl,fun j t h=>by cases h⟩
theorem J4{W:World}{t:TV}{ts:List TV}{v:Value}{vs:List Value}(h:repT noA W t v)(g:Ej noA W ts vs.toArray):Ej noA W (t::ts) (v::vs).toArray:=by
 refine⟨by have:=g.1;simpa using c,fun j x d=> ?_⟩;cases j with
 |zero=>cases d;exact⟨v,by simp,h⟩
 |f j=> obtain⟨u,h1,h2⟩:=g.2 j x (by simpa using d);exact⟨u,by simpa using h1,h2⟩
theorem kZ {con:Con I} (hc:zn P con) (hi:con.inS.objs=[]) (ho:con.outS=⟨[.bool],[]⟩) (hk:con.k=0) {x:(con.inS.sl I).T} {y:(con.outS.sl I).T} (A:con.F x=some y) {b:Bool} (B:((con.outS.sl I).enc y).1=[.c (.bool b)]) (u:((con.inS.sl I).enc x).2=[]) (z:((con.outS.sl I).enc y).2=[])
  {W:World} {vs:Array Value} (J:Glob (Dom noA W) W) (m:Ej noA W (((con.inS.sl I).enc x).1.map (trT (fun i=>i) (lk []))) vs):
  Calls P con.f vs W fun e r=>e= .returned (.bool b)/\Below W.heap.size W r:=by
 have h:=hc.ok x y A (fun i=>i) 0 (fun i j d=>by rw[hi]at d;simp at d) (fun i d=>by rw[hi]at d;simp at d) (fun j=>by rw[hi];simp);rw[u,z,B,hi,hk]at h;refine(h.ok noA (fun _=>none) W 0 vs ⟨fun id o ho=>by(cases ho),fun id _=> .inl rfl,fun i j b k k' h=>by(cases h),J⟩ (fun id _=>rfl) (fun j _=>rfl) m (fun p hp=>by cases hp)).mono fun e r ⟨v,L,ι',h1,h2,h3,h4⟩=> ?_;have hv:RepP (Dom ι' r) r (.at (.bool b)) v:=h2.2;cases hv;exact⟨L,h3.os,h3.tape,h3.output,h3.size,fun k hk=>h3.keep k ⟨hk,fun id n e=>by cases e⟩⟩
theorem VY {H:Type} {enc:TypeId×Value->H} {f:Func} {s:ChangeSpec} {d u i again:Bool} {W A:World} {args:Array Value} {v y:List (DataW H)} {c pa:List MemPlace} {tb:TypeId}
  (Z:DataW.Whole enc P f.params.toList s.vars d W args.toList v y c) (z:s.vars=[]) (B:f.resultTypes= #[tb]) (J:P.underlying tb=some .bool)
  (L:(s.fn H (v++y)).results=[.lit (.bool true)]) (a3:(s.fn H (v++y)).vars=[])
  (j: ∀r:Nat->Bool,(∀p∈c,r p.block=true)->DataW.TrodAll enc P A 0 r true f.params.toList args.toList (s.fn H (v++y)).args pa)
  (m:c=pa) (hb:Below W.heap.size W A):s.post enc P f d u i again W args (.bool true) A:=by
 have O: ∀p∈c,p.block<W.heap.size:=fun p hp=>Z.lt p hp;have U: ∀p∈c,(fun b=>decide (b<W.heap.size)) p.block=true:=fun p hp=>by simpa using O p hp
 have hr: ∀(b:Nat) (r:Nat->Bool) (hd:Bool),DataW.TrodAll enc P A b r hd f.resultTypes.toList ((Value.bool true).resultList f.resultTypes.size) (s.fn H (v++y)).results []:=by intro b r hd;rw[B,L];exact trodAll_cons_mk (shut_bool J _) trodAll_mk0
 have hv: ∀r:Nat->Bool,DataW.TrodVars enc P A r s.vars (s.fn H (v++y)).vars []:=by intro r;rw[z,a3];exact rfl
 refine⟨v,y,c,[],pa,[],Z,hr _ _ _,j _ U,hv _,World.keptBut_mono (fun p hp=>⟨hp, .inr (.inl (by rw[<-m];exact hp))⟩) (hb.frame (· ∈c)),fun _=> ?_⟩;obtain⟨_,_,_,_,_,hz,hn⟩:=Z;refine⟨ok_one B rfl (okWide_bool_mk J _),_,_,([]++pa)++[],⟨[]++pa,[],trodAll_append (j _ (fun _ _=>rfl)) (hr _ _ _),hv _,rfl,?_,?_⟩,?_⟩
 ·intro b off hp;have V:MemPlace.cell b off∈c:=by rw[m];simpa using hp
  rw[hb.frozen (O _ V)];exact hz b off V
 ·intro ha;have:=hn ha;rw[m]at Y;simpa using Y
 ·intro p hp _;rw[m];simpa using hp
theorem CU{H:Type}{enc:TypeId×Value->H}(hl:laidOutB P=true){W z:World}(hb:Below W.heap.size W z)(m:Nat->Bool): ∀(ts:List TypeId) (vs:List Value) (f:List (DataW H)) (ps:List MemPlace),(∀t∈ts,P.readableRec t=true/\t<P.types.size)->
  DataW.TrodAll enc P W 0 (fun _=>true) true ts vs f ps->(∀x∈ps,x.block<W.heap.size)->(∀x∈ps,m x.block=true)->DataW.TrodAll enc P z 0 m true ts vs f ps
 |[],vs,f,ps,_,h,_,_=>by
  cases vs<;>cases f<;>first|exact h|(cases h;done)
 |t::ts,vs,f,ps,ht,h,i,j=>by obtain⟨v,r,d,u,p,q,rfl,rfl,rfl,h1,h2⟩:=trodAll_cons h;have h3:=CU hl hb m ts r u q (fun t y=>ht t (Eb _ y)) h2 (fun x c=>i x (Af _ c)) (fun x c=>j x (Af _ c));obtain⟨r1,r2⟩:=ht t (Jb ..);exact⟨p,q,WideElems.Trod_stays hl r1 r2 h1 (fun x c=>hb.same (i x (Ae _ c))) (fun x c=>j x (Ae _ c)),h3,rfl⟩
end
def Le{α:Type}(a b:Option α):Prop:= ∀y,a=some y->b=some y
theorem Le.rfl{α:Type}{a:Option α}:Le a a:=fun _ h=>h
theorem Le.none{α:Type}{b:Option α}:Le none b:=fun _ h=>by cases h
theorem Le.bind{α β:Type}{a d:Option α}{f i:α->Option β}(h:Le a d)(hf: ∀x,Le (f x) (i x)):Le (ze a f) (ze d i):=by
 intro y j;cases a with
 |none=>cases j
 |some x=>rw[h x c.rfl];exact hf x y j
theorem Le.bif{α:Type}{c:Bool}{a d b b':Option α}(h:Le a d)(h':Le b b'):Le (bif c then a else b) (bif c then d else b'):=by
 cases c
 ·exact h'
 ·exact h
theorem Le.need{α:Type}{c:Bool}{a d:Option α}(h:Le a d):Le (Lv.need c a) (Lv.need c d):=by
 cases c
 ·exact Le.rfl
 ·exact h
theorem Le.cond{α:Type}{c:Bool}{a f:Option α}{d:α}(h:Le a f):Le (zu c a d) (zu c f d):=by
 cases c
 ·exact Le.rfl
 ·exact h
theorem Le.map{α β:Type}{a d:Option α}{f:α->β}(h:Le a d):Le (Option.map f a) (Option.map f d):=by
 intro y i;cases a with
 |none=>cases i
 |some x=>rw[h x c.rfl];exact i
theorem Le.join{X R:Type}{a f:Option (LX X R)}{k k':X->Option R}(h:Le a f)(hk: ∀x,Le (k x) (k' x)):Le (zW a k) (zW f k'):=by
 intro y d;cases a with
 |none=>cases d
 |some x=>
  rw[h x c.rfl];cases x with
  |out x=>exact hk x y d
  |ret r=>exact d
def Ti(n:Nat){S X R:Type}(step:S->Option (LO S X R))(s:S)(k:X->Option R):Option R:=
 match Qs step n s with
 |some (.out x)=>k x
 |some (.ret r)=>some r
 |none=>none
theorem oO{S X R:Type}{step c:S->Option (LO S X R)}(h: ∀s,Le (step s) (c s)): ∀(n:Nat) (s:S),Le (Qs step n s) (Qs c n s)
 |0,_=>Le.none
 |n+1,s=>by
  intro y d;simp only[Qs]at d ⊢;cases f:step s with
  |none=>rw[f]at d;cases d
  |some o=>
   rw[f]at d;rw[h s o f];cases o with
   |again i=>exact oO h n i y d
   |out x=>exact d
   |ret r=>exact d
theorem Le.loop{n:Nat}{S X R:Type}{step c:S->Option (LO S X R)}{s:S}{k k':X->Option R}(h: ∀s,Le (step s) (c s))(hk: ∀x,Le (k x) (k' x)):Le (Ti n step s k) (ZE c s k'):=by
 intro y d;unfold Ti at d;cases hi:Qs step n s with
 |none=>rw[hi]at d;cases d
 |some x=>
  rw[hi]at d;rw[Yp (dn (oO h n s x hi))];cases x with
  |out x=>exact hk x y d
  |ret r=>exact d
theorem Le.rec{X Y:Type}{B d:(X->Option Y)->X->Option Y}(h: ∀(S S':X->Option Y),(∀x,Le (S x) (S' x))-> ∀x,Le (B S x) (d S' x))(n:Nat)(x:X):Le (Jk B n x) (recE d x):=by
 have f: ∀(n k:Nat),n<=k-> ∀x,Le (Jk B n x) (Jk d k x):=by
  intro n
  induction n with
  |zero=>intro k _ x;exact Le.none
  |c n i=>
   intro k hk x;cases k with
   |zero=>omega
   |c k=>exact h _ _ (i k (by omega)) x
 intro y j;exact TM (N:=n) fun k hk=>f n k hk x y j
variable {I:Ip}
theorem zDg{s:Shp I}{r:VL I}{n:Nat}(h: ∀x,(r.enc x).length=n): ∀x,((VL.cons s r).enc x).length=n+1:=by obtain⟨T,u,d,e,m⟩:=s;obtain⟨f,c,i,e',m'⟩:=r;cases u<;>cases c<;>intro x<;>exact congrArg (· +1) (h _)
theorem oW: ∀(l:List Sh) (x:(vlOf I l).T),((vlOf I l).enc x).length=l.length
 |[],_=>rfl
 |s::l,x=>zDg (s:=s.shp I) (oW l) x
theorem zEo(s:StSh): ∀x:(s.sl I).T,((s.sl I).enc x).1.length=s.vals.length:=by have h:=oW (I:=I) s.vals;unfold StSh.sl;revert h;generalize vlOf I s.vals=v;generalize olOf I s.objs=o;obtain⟨T,u,d,e,m⟩:=v;obtain⟨f,c,i,e',m'⟩:=o;cases u<;>cases c<;>intro h x<;>exact h _
theorem zK{Q:Con I->Prop}: ∀c∈([]:List (Con I)),Q c:=fun c h=>by cases h
theorem memC{Q:Con I->Prop}{a:Con I}{l:List (Con I)}(h:Q a)(g: ∀c∈l,Q c): ∀c∈a::l,Q c:=fun c hc=>by
 rcases ma.1 hc with rfl|hc
 ·exact h
 ·exact g c hc
def chk(con:Con I)(A:Env0 I)(f:Go.Func):Bool:=Fj con&&(f.body.isSome&&(!(f.name== "runtime.NumGoroutine")&&(A.p==con.inS.objs.length&&Nat.ble con.inS.vals.length f.ntmps)))
theorem okC0 {P:Program} {T:TT} {fk:List (Nat×List Kd)} (d:P.follows .mixedOrders=true) (hI:IpOK P I) (j:TOK P T fk) {con:Con I} {f:Go.Func} {A:Env0 I} {exS:StSh} {c:Code} {rs:List ResultVar} (hb:c=match f.body with|some c=>c|none=> .skip) (hr:rs=f.results.toList)
  (m: ∀c∈A.S,zn P c) (hf:P.funcs[con.f]? =some f) (h:chk con A f=true) (p: ∀x,evF2 A T fk f.ntmps rs c con exS x=con.F x):zn P con:=by
 unfold chk at h;simp only[Da]at h;obtain⟨h1,h2,h3,h4,r⟩:=h;refine zow (exS:=exS) d hI m h1 j hf ?_ ?_ (by simpa using h3) (Ib.1 h4) (fun x=>by rw[zEo];exact Rc r) (fun x y h=>(p x).trans h)
 ·rw[hb];cases i:f.body with
  |none=>rw[i]at h2;cases h2
  |some c=>rfl
 ·rw[hr]
section
variable {P:Program} {I:Ip}
theorem U2 (hI:IpOK P I) {f t:Nat} {vals:List Sh} {F:((⟨vals,[]⟩:StSh).sl I).T->Option (List (I.C t))} (U:Fj (⟨f,⟨vals,[]⟩,[],⟨[.sl t],[]⟩,0,F⟩:Con I)=true)
  (h:zn P (⟨f,⟨vals,[]⟩,[],⟨[.own 0],[(0, .sl t)]⟩,1,F⟩:Con I)):zn P (⟨f,⟨vals,[]⟩,[],⟨[.sl t],[]⟩,0,F⟩:Con I)where
 wf:=U
 ok:=fun x y V ρ nx _ _ ad=>by
  have a5:=(h.ok x y V (fun i=>nx+i) nx (fun i j hi=>absurd hi (by simp)) (fun i hi=>absurd hi (by simp)) (fun j=>by simp)).fn;refine⟨a5,fun ι get w N vs hR W _ ha _=> ?_⟩;have hc:=h.ok x y V (fun i=>N+i) N (fun i j hi=>absurd hi (by simp)) (fun i hi=>absurd hi (by simp)) (fun j=>by simp);have hw:=wfIn hI U x;have a6:((⟨vals,[]⟩:StSh).sl I |>.enc x).2=[]:=by simpa using hw.keys
  have L:((⟨vals,[]⟩:StSh).sl I |>.enc x).1.map (trT (fun i=>N+i) (lk ((⟨vals,[]⟩:StSh).sl I |>.enc x).2))=((⟨vals,[]⟩:StSh).sl I |>.enc x).1.map (trT ρ (lk ((⟨vals,[]⟩:StSh).sl I |>.enc x).2)):=by refine Ya fun v a7=>NC fun i hi=> ?_;exact absurd (hw.r1 v a7 i hi) (Og i)
  have Y:get N=none:=by
   cases hg:get N with
   |none=>rfl
   |some o=> obtain⟨b,h1,_⟩:=hR.live N o hg;rw[W N (Va _)]at h1;cases h1
  have a8:=hc.ok ι get w N vs hR W (fun j _=>W _ (Sd _ _)) (by rw[L];exact ha) (fun p hp=>by rw[a6]at hp;cases hp);refine a8.mono fun e w' ⟨v,he,ι',A,q2,B,q4⟩=>⟨v,he,?_⟩;obtain⟨ys,O⟩: ∃ys:List (I.C t),ys=y:=⟨y,rfl⟩;replace A:Rel ι' (upd get [(N,some ⟨t,P.cellsOf t,ys.map fun z=>(I.full t z).map .p,none⟩)]) w':=by subst O;exact A
  replace q2:repL ι' w' (.v (.c (.osl N 0 ys.length))) v:=by subst O;exact q2
  have m: ∀b,Dom ι' w' b->Dom (fun id=>if id=N then .free else ι' id) w' b:=fun b hb=>⟨hb.1,fun id k hk=>by
   by_cases hi:id=N
   ·simp only[La hi]at hk;cases hk
   ·simp only[Ha hi]at hk;exact hb.2 id k hk⟩
  have d: ∀id b k,(fun id=>if id=N then Slot.free else ι' id) id= .live b k->id≠N/\ι' id= .live b k:=fun id b k hk=>by
   by_cases hi:id=N
   ·simp only[La hi]at hk;cases hk
   ·simp only[Ha hi]at hk;exact⟨hi,hk⟩
  refine⟨fun id=>if id=N then .free else ι' id,⟨fun id o ho=> ?_,fun id ho=> ?_,fun i j b k k' hi J=> ?_,?_⟩,?_,⟨B.os,B.tape,B.output,B.size,B.shape,fun b hb=>m b (B.dom b hb),B.keep,fun id hid=> ?_⟩,fun id hid _=> ?_⟩
  ·replace ho:get id=some o:=ho;have Z:id≠N:=fun e=>by rw[e,Y]at ho;cases ho
   obtain⟨b0,l0,m0⟩:=hR.live id o ho;obtain⟨b,l1,l2⟩:=A.live id o (by simp only[upd];rw[Ha Z];exact ho);refine⟨b,by simp only[Ha Z];exact l1,l2.1,?_⟩;rcases l2.2 with g|⟨g0,b',cur,fr,eb,g1,g2,g3,g4⟩|g
   ·exact .inl g
   ·refine .inr (.inl ⟨g0,b',cur,fr,eb,g1,g2,g3,fun i row j x hi J=> ?_⟩);obtain⟨u,a1,a2,a3⟩:=g4 i row j x hi J;refine⟨u,a1,a2,VP m (fun q hq=> ?_) a3⟩;have a9:q≠N:=by
     rcases m0.2 with⟨_,_,g⟩|⟨_,am,al,an,_,_,_,_,n4⟩|⟨g,_⟩
     ·rw[g]at hi;simp at hi
     ·obtain⟨u0,_,_,n5⟩:=n4 i row j x hi J;intro e;exact uz n5 q hq (by rw[e];exact W N (Va _))
     ·rw[g]at hi;simp at hi
    exact⟨by simp only[Ha a9];exact uz a3 q hq,fun b k hk=>(d q b k hk).2⟩
   ·exact .inr (.inr g)
  ·replace ho:get id=none:=ho;by_cases hi:id=N
   ·exact .inl (La hi)
   ·simp only[Ha hi];exact A.gone id (by simp only[upd];rw[Ha hi];exact ho)
  ·exact A.inj i j b k k' (d i _ _ hi).2 (d j _ _ J).2
  ·exact A.glob.dom m
  ·show repT _ w' (.c (.p (.sl (List.map (I.full t) (y:List (I.C t)))))) v;rw[<-O];obtain⟨c1,c2⟩:=q2;refine⟨c1,?_⟩;refine Fz.sound A (D:=fun i=>i=N) m (fun id b k hd hl=> ?_) (.osl N 0 ys.length _ (ys.map (I.full t)) rfl (La rfl) (Ra ..) (Nat.le_of_eq ((Be _).trans (Ra ..).symm)) (fun row hr=> ?_) (fun i row j x r z hi J hr hz=> ?_)) c2
   ·subst hd;refine⟨A.lt hl,fun ab k' hk=> ?_⟩;obtain⟨h1,h2⟩:=d ab _ _ hk;exact h1 (A.inj _ _ _ _ _ h2 hl)
   ·obtain⟨z,_,rfl⟩:=Oa.1 hr;exact hI.len _ _
   ·simp only[Ta,Be]at hi hr;cases hy:ys[i]? with
    |none=>rw[hy]at hi;cases hi
    |some z'=> rw[hy]at hi hr;cases hi;cases hr;rw[Ta]at J;rw[hz]at J;cases J;exact .p _
  ·by_cases hi:id=N
   ·exact absurd (W N (Va _)) (by rw[<-hi];exact hid)
   ·simp only[Ha hi];exact B.slots id hid
  ·by_cases hi:id=N
   ·exact La hi
   ·simp only[Ha hi];exact q4 id hid ((Nat.lt_or_gt_of_ne hi).elim .inl .inr)
end
section
variable {P:Program} {nt:Nat} {ops:List Oper}
def IsV(E:Operand->LV)(x:Operand)(t:TV):Prop:=E x= .v t\/E x= .opt true t
def Op1(P:Program)(E:Operand->LV)(get:Get)(nx:Nat)(op:Op)(val:LV)(rd:List Nat)(up:List (Nat×Option OB))(k:Nat):Prop:=
 ∃q:Prop,opR P [] E get nx op=⟨q,val,rd,up⟩/\q/\Zr [] E op=k
theorem opN{o:Oper}{s:TS}{val:LV}{rd:List Nat}{up:List (Nat×Option OB)}{k:Nat}(h:Op1 P (opd s.e) s.get s.next o.op val rd up k)(f:o.guard=none)(i: ∀d,o.dst=some d->d<nt):
  OpOK P nt ops o ⟨none,val,up,rd,s.next,k⟩ s:=by
 obtain⟨q,h1,h2,h3⟩:=h;have:=lS (P:=P) (nt:=nt) (ops:=ops) (o:=o) (s:=s) (g:=none) (by rw[f];rfl) i (fun _=>by rw[h1];exact h2);rw[h1,h3]at c;exact c
theorem opG{o:Oper}{s:TS}{val:LV}{rd:List Nat}{up:List (Nat×Option OB)}{k:Nat}{b:Bool}(h:Op1 P (opd s.e) s.get s.next o.op val rd up k)(f:qL ops s.e o.guard=some (some b))(i: ∀d,o.dst=some d->d<nt):
  OpOK P nt ops o ⟨some b,val,up,rd,s.next,k⟩ s:=by
 obtain⟨q,h1,h2,h3⟩:=h;have:=lS (P:=P) (nt:=nt) (ops:=ops) (o:=o) (s:=s) (g:=some b) f i (fun _=>by rw[h1];exact h2);rw[h1,h3]at c;exact c
theorem opF{o:Oper}{s:TS}(f:qL ops s.e o.guard=some (some false))(i: ∀d,o.dst=some d->d<nt)(t:TV):OpOK P nt ops o ⟨some false, .v t,[],[],s.next,0⟩ s:=by
 refine⟨i,rfl,fun ι a w e' get' N p r j ha hb m=> ?_⟩;have c:qL ops e' o.guard=qL ops s.e o.guard:=xz fun t ht=>ha t (by
  simp only[Wi,Gf,Bc,Cc]at ht ⊢;exact .inr ht)
 refine⟨fun h=>(by cases h),fun b h=> ?_,fun h=>absurd rfl h⟩;cases h;exact Xz j (by rw[c];exact f)
def Walk(P:Program)(nt:Nat)(ops:List Oper)(ρ:Nat->Nat):List Oper->List Fp->TS->(TS->Prop)->Prop
 |[],[],s,K=>K s
 |o::l,f::fs,s,K=> ∃r:RO,OpOK P nt ops o r s/\r.rd=f.1.map ρ/\r.up.map (·.1)=f.2.map ρ/\Walk P nt ops ρ l fs (Zi o r s) K
 |_,_,_,_=>False
theorem Walk.zs{ρ:Nat->Nat}{K:TS->Prop}: ∀{l:List Oper} {fs:List Fp} {s:TS},Walk P nt ops ρ l fs s K-> ∃zs:List (Oper×RO),zs.map (·.1)=l/\(∀(j:Nat) (o:Oper) (r:RO),zs[j]? =some (o,r)->OpOK P nt ops o r (runA (zs.take j) s))/\
   (∀(j:Nat) (o:Oper) (r:RO),zs[j]? =some (o,r)-> ∃f:Fp,fs[j]? =some f/\r.rd=f.1.map ρ/\r.up.map (·.1)=f.2.map ρ)/\K (runA zs s)
 |[],[],s,h=>⟨[],rfl,fun j o r c=>by simp at c,fun j o r c=>by simp at c,h⟩
 |[],_::_,s,h=>h.elim
 |_::_,[],s,h=>h.elim
 |o::l,f::fs,s,h=>by
  obtain⟨r,h1,h2,i,h3⟩:=h;obtain⟨zs,h4,u,v,y⟩:=h3.zs;refine⟨(o,r)::zs,by simp[h4],fun j o' m c=> ?_,fun j o' m c=> ?_,y⟩
  ·cases j with
   |zero=>simp at c;obtain⟨rfl,rfl⟩:=c;exact h1
   |d j=> have:=u j o' m (by simpa using c);simpa [runA] using p
  ·cases j with
   |zero=>simp at c;obtain⟨rfl,rfl⟩:=c;exact⟨f,rfl,h2,i⟩
   |d j=>simpa using v j o' m (by simpa using c)
theorem SW.reg{id:Nat}{c:Array Oper}{Q:Post}{e:Env}{lh:LH}(ρ:Nat->Nat)(fs:List Fp)(h:Walk P nt c.toList ρ c.toList fs ⟨e,lh.get,lh.next⟩ (fun s=>Q .normal s.e ⟨s.next,s.get⟩)):SW P nt (.region id c false) Q e lh:=by obtain⟨zs,h1,h2,_,h3⟩:=h.zs;exact VE (s0:=⟨e,lh.get,lh.next⟩) h1 ⟨h1,h2⟩ h3
theorem SW.regD (hm:P.follows .mixedOrders=true) {id:Nat} {c:Array Oper} {Q:Post} {e:Env} {lh:LH} (ρ:Nat->Nat) (N:Nat) (fs:List Fp) (hl:(fs.all fun f=>f.1.all (Nat.blt · N)&&f.2.all (Nat.blt · N))=true)
  (J: ∀i j,i<N->j<N->ρ i=ρ j->i=j) (L:Lr c.toList fs 0 c.toList []=true) (O:Ov c.toList=true)
  (h:Walk P nt c.toList ρ c.toList fs ⟨e,lh.get,lh.next⟩ (fun s=>Q .normal s.e ⟨s.next,s.get⟩)):SW P nt (.region id c true) Q e lh:=by
 obtain⟨zs,h1,h2,A,h3⟩:=h.zs;refine KS (s0:=⟨e,lh.get,lh.next⟩) hm ⟨h1,h2⟩ (fun i k x y r q p W U=> ?_) O h3;obtain⟨f,f1,f2,f3⟩:=A i x r p;obtain⟨g,g1,g2,g3⟩:=A k y q W;rcases uJ (ops:=c.toList) (fps:=fs) c.toList 0 [] rfl (fun k=>by simp) (fun m i h=>by simp at h) L i k x y f g (Ns h1 p) (Ns h1 W) f1 g1 U (Pb _)with h|⟨h,h'⟩
 ·exact .inl h
 refine .inr ⟨oP h,?_⟩;have B: ∀(f:List Nat×List Nat),f∈fs->(∀i∈f.1,i<N)/\(∀i∈f.2,i<N):=by intro f hf;have:=Xa.1 hl f hf;simp only[Da,Xa]at d;exact⟨fun i hi=>Zm.1 (d.1 i hi),fun i hi=>Zm.1 (d.2 i hi)⟩
 obtain⟨a1,a2⟩:=B f (Ua f1);obtain⟨b1,b2⟩:=B g (Ua g1);have z: ∀{u v:List Nat},(∀i∈u,i<N)->(∀i∈v,i<N)->wo u v=false-> ∀x∈u.map ρ,x ∉ v.map ρ:=by intro u v hu hv hi x p V;obtain⟨i,Y,rfl⟩:=Oa.1 p;obtain⟨j,Z,j2⟩:=Oa.1 V;have:=J i j (hu i Y) (hv j Z) j2.symm;subst d;exact jQ hi i Y Z
 simp only[fpB,Ke]at h';unfold aX;rw[f2,f3,g2,g3];refine⟨fun x p=>⟨z a2 b1 h'.1.1 x p,z a2 b2 h'.1.2 x p⟩,z b2 a1 h'.2⟩
section
variable {E:Operand->LV} {get:Get} {nx:Nat}
theorem Km{x:Operand}{t:TV}{k:TV->Res}{q:Prop}{v:LV}{rd:List Nat}{up:List (Nat×Option OB)}(h:IsV E x t)(hk:k t=⟨q,v,rd,up⟩)(c:q): ∃d,Zj (E x) k=⟨d,v,rd,up⟩/\d:=by
 rcases h with h|h
 ·rw[h];exact⟨q,hk,c⟩
 ·rw[h];exact⟨true=true/\q,by simp only[Zj,hk],rfl,c⟩
theorem oD{x y:Operand}{t u:TV}{k:TV->TV->Res}{q:Prop}{v:LV}{rd:List Nat}{up:List (Nat×Option OB)}(h:IsV E x t)(h2:IsV E y u)(hk:k t u=⟨q,v,rd,up⟩)(d:q):
  ∃c,(Zj (E x) fun a=>Zj (E y) fun b=>k a b)=⟨c,v,rd,up⟩/\c:=by
 obtain⟨f,h3,h4⟩:=Km (k:=fun b=>k t b) h2 hk d;exact Km (k:=fun a=>Zj (E y) fun b=>k a b) h h3 h4
theorem Op1.move(x:Operand):Op1 P E get nx (.move x) (E x) [] [] 0:=⟨True,rfl,trivial,rfl⟩
theorem Op1.assign(x:Operand):Op1 P E get nx (.assign x) (E x) [] [] 0:=⟨True,rfl,trivial,rfl⟩
theorem Op1.load{t id row cell:Nat}{x:Operand}{ob:OB}{cs:List CV}{c:CV}(f:IsV E x (.c (.optr id row cell)))(i:get id=some ob)(hr:ob.rows[row]? =some cs)(hc:cs[cell]? =some c){kd:Kd}(hk:kdOf P t=kd)(hb:kd≠ .bad:=by simp)(ha:kd.isAgg=false:=by rfl):
  Op1 P E get nx (.load t x) (.v (.c c)) [id] [] 0:=by
 obtain⟨q,h1,h2⟩:=Km (k:=fun a=>Lh (ti P t) get a) f (q:=True) (v:= .v (.c c)) (rd:=[id]) (up:=[]) (by
  have:(ti P t).kd=kd:=hk;simp only[Lh,i,hr,d,hc];cases kd<;>first|rfl|exact absurd rfl hb|(cases ha;done)) trivial
 exact⟨q,h1,h2,rfl⟩
theorem Op1.loadA{t id row cell:Nat}{x:Operand}{ob:OB}{cs:List CV}{fs:List (Nat×TypeId)}{n:Nat}(f:IsV E x (.c (.optr id row cell)))(i:get id=some ob)(hr:ob.rows[row]? =some cs)(hk:kdOf P t= .st fs)(hn:P.cellsOf t=n)(hc:cell+n<=cs.length):
  Op1 P E get nx (.load t x) (.v (.agg ((cs.drop cell).take n))) [id] [] 0:=by
 obtain⟨q,h1,h2⟩:=Km (k:=fun a=>Lh (ti P t) get a) f (q:=cell+(ti P t).sz<=cs.length) (v:= .v (.agg ((cs.drop cell).take n))) (rd:=[id]) (up:=[]) (by
  have:(ti P t).kd= .st fs:=hk;have h2:(ti P t).sz=n:=hn;simp only[Lh,i,hr,d,h2]) (by rw[show(ti P t).sz=n from hn];exact hc)
 exact⟨q,h1,h2,rfl⟩
theorem Op1.loadP{t:Nat}{x:Operand}{cs:List PV}{fs:List (Nat×TypeId)}{n:Nat}(f:IsV E x (.c (.p (.ptr cs))))(hk:kdOf P t= .st fs)(hn:P.cellsOf t=n)(hc:n<=cs.length):
  Op1 P E get nx (.load t x) (.v (.agg ((cs.take n).map .p))) [] [] 0:=by
 obtain⟨q,h1,h2⟩:=Km (k:=fun a=>Lh (ti P t) get a) f (q:=(ti P t).sz<=cs.length) (v:= .v (.agg ((cs.take n).map .p))) (rd:=[]) (up:=[]) (by
  have:(ti P t).kd= .st fs:=hk;have h2:(ti P t).sz=n:=hn;simp only[Lh,d,h2]) (by rw[show(ti P t).sz=n from hn];exact hc)
 exact⟨q,h1,h2,rfl⟩
theorem Op1.store{t id row cell:Nat}{x y:Operand}{ob:OB}{cs:List CV}{u:TV}{n:Nat}{kd:Kd}(d:IsV E x (.c (.optr id row cell)))(f:IsV E y u)(i:get id=some ob)(hr:ob.rows[row]? =some cs)(hk:kdOf P t=kd)(hn:P.cellsOf t=n)(hu:u.cells.length=n)(hc:cell+n<=cs.length)(hb:kd≠ .bad:=by simp):
  Op1 P E get nx (.store t x y) .any [id] [(id,some {ob with rows:=ob.rows.set row (cs.take cell++u.cells++cs.drop (cell+n))})] 0:=by
 have h3:(ti P t).kd=kd:=hk;have h4:(ti P t).sz=n:=hn;obtain⟨q,h1,h2⟩:=oD (k:=fun a b=>Qw (ti P t) get a b) d f (q:=u.cells.length=n/\cell+n<=cs.length/\kd≠ .bad) (v:= .any) (rd:=[id]) (up:=[(id,some {ob with rows:=ob.rows.set row (cs.take cell++u.cells++cs.drop (cell+n))})]) (by
  simp only[Qw,i,hr,h3,h4]) ⟨hu,hc,hb⟩
 exact⟨q,h1,h2,rfl⟩
theorem Op1.alloc{t n:Nat}{z:List CV}(d:Pg (ti P t).zero=z)(hn:P.cellsOf t=n)(hk:(ti P t).zok=true):Op1 P E get nx (.alloc t) (.v (.c (.optr nx 0 0))) [] [(nx,some ⟨t,n,[z],none⟩)] 1:=by subst d hn;exact⟨_,rfl,hk,rfl⟩
theorem Op1.bin{op:BinOp}{t u:Nat}{x y:Operand}{k:IntKind}{a b:Int}{val:LV}(d:IsV E x (.c (.p (.at (.int k a)))))(f:IsV E y (.c (.p (.at (.int k b)))))(hv: ∀fk kd,binR fk kd op (.c (.p (.at (.int k a)))) (.c (.p (.at (.int k b))))=⟨k=k/\True,val,[],[]⟩):
  Op1 P E get nx (.binOp op t x y u) val [] [] 0:=by
 obtain⟨q,h1,h2⟩:=oD (k:=fun a b=>binR (Ll P t) (kdOf P t) op a b) d f (hv _ _) ⟨rfl,trivial⟩;exact⟨q,h1,h2,rfl⟩
theorem Op1.lenO{c:Call}{x:Operand}{t id off n e:Nat}{ob:OB}(hc:c.callee= .builtin .len)(ha:c.args.toList=[x])(ht:c.argTypes.toList=[t])(d:IsV E x (.c (.osl id off n)))(f:get id=some ob)(hk:kdOf P t= .sl e):
  Op1 P E get nx (.call c) (.v (.c (.p (.at (.int .i64 n))))) [id] [] 0:=by
 obtain⟨q,h1,h2⟩:=Km (k:=fun x=>lenR get (kdOf P t) x) d (q:=True) (v:= .v (.c (.p (.at (.int .i64 n))))) (rd:=[id]) (up:=[]) (by simp only[lenR,hk,f]) trivial;exact⟨q,by simp only[opR,hc,ha,ht];exact h1,h2,by simp only[Zr,hc]⟩
theorem Op1.lenN{c:Call}{x:Operand}{t e:Nat}(hc:c.callee= .builtin .len)(ha:c.args.toList=[x])(ht:c.argTypes.toList=[t])(d:IsV E x (.c (.p (.at (.slice none 0 0)))))(hk:kdOf P t= .sl e):
  Op1 P E get nx (.call c) (.v (.c (.p (.at (.int .i64 0))))) [] [] 0:=by
 obtain⟨q,h1,h2⟩:=Km (k:=fun x=>lenR get (kdOf P t) x) d (q:=True) (v:= .v (.c (.p (.at (.int .i64 0))))) (rd:=[]) (up:=[]) (by simp only[lenR,hk];rfl) trivial;exact⟨q,by simp only[opR,hc,ha,ht];exact h1,h2,by simp only[Zr,hc]⟩
theorem Op1.lenS{c:Call}{x:Operand}{t e:Nat}{rows:List (List PV)}(hc:c.callee= .builtin .len)(ha:c.args.toList=[x])(ht:c.argTypes.toList=[t])(d:IsV E x (.c (.p (.sl rows))))(hk:kdOf P t= .sl e):
  Op1 P E get nx (.call c) (.v (.c (.p (.at (.int .i64 rows.length))))) [] [] 0:=by
 obtain⟨q,h1,h2⟩:=Km (k:=fun x=>lenR get (kdOf P t) x) d (q:=True) (v:= .v (.c (.p (.at (.int .i64 rows.length))))) (rd:=[]) (up:=[]) (by simp only[lenR,hk];rfl) trivial;exact⟨q,by simp only[opR,hc,ha,ht];exact h1,h2,by simp only[Zr,hc]⟩
theorem Op1.idxO{t id off n e k:Nat}{x y:Operand}{i:Int}{j:IntKind}{ob:OB}(m:IsV E x (.c (.osl id off n)))(r:IsV E y (.c (.p (.at (.int j i)))))(u:get id=some ob)(hk:kdOf P t= .sl e)(hn:P.cellsOf e=k)(d:ob.k=k)(f:0<k)(hi:0<=i/\i<n):
  Op1 P E get nx (.indexAddr t x y) (.v (.c (.optr id (off+i.toNat) 0))) [id] [] 0:=by
 obtain⟨q,h1,h2⟩:=oD (k:=fun a b=>Zz P get t a b) m r (q:=0<=i/\i<n/\0<P.cellsOf e/\ob.k=P.cellsOf e) (v:= .v (.c (.optr id (off+i.toNat) 0))) (rd:=[id]) (up:=[]) (by simp only[Zz,hk,u]) ⟨hi.1,hi.2,by rw[hn];exact f,by rw[hn,d]⟩;exact⟨q,h1,h2,rfl⟩
theorem Op1.idxS{t e k:Nat}{x y:Operand}{i:Int}{f:IntKind}{rows:List (List PV)}{row:List PV}(j:IsV E x (.c (.p (.sl rows))))(m:IsV E y (.c (.p (.at (.int f i)))))(hk:kdOf P t= .sl e)(hn:P.cellsOf e=k)(d:0<k)(hi:0<=i)(hr:rows[i.toNat]? =some row)(hl:row.length=k):
  Op1 P E get nx (.indexAddr t x y) (.v (.c (.p (.ptr row)))) [] [] 0:=by
 have r:=(Fa.1 hr).1;have u:rows.getD i.toNat []=row:=by rw[jc,hr];rfl
 obtain⟨q,h1,h2⟩:=oD (k:=fun a b=>Zz P get t a b) j m (q:=0<=i/\i<rows.length/\0<P.cellsOf e/\row.length=P.cellsOf e) (v:= .v (.c (.p (.ptr row)))) (rd:=[]) (up:=[]) (by simp only[Zz,hk,preC,u]) ⟨hi,by omega,by rw[hn];exact d,by rw[hn,hl]⟩;exact⟨q,h1,h2,rfl⟩
theorem Op1.fldO{t id row cell f off ty:Nat}{x:Operand}{fs:List (Nat×TypeId)}{ob:OB}(d:IsV E x (.c (.optr id row cell)))(i:get id=some ob)(hk:kdOf P t= .st fs)(hf:fs[f]? =some (off,ty))(j:P.cellsOf ty≠0):
  Op1 P E get nx (.fieldAddr t x f) (.v (.c (.optr id row (cell+off)))) [id] [] 0:=by
 obtain⟨q,h1,h2⟩:=Km (k:=fun a=>ZP P get t a f) d (q:=P.cellsOf ty≠0) (v:= .v (.c (.optr id row (cell+off)))) (rd:=[id]) (up:=[]) (by simp only[ZP,hk,hf,i]) j;exact⟨q,h1,h2,rfl⟩
end
end
section
variable {P:Program} {nt:Nat} {ops:List Oper} {E:Operand->LV} {get:Get} {nx:Nat}
theorem Op1.bs1{t e n:Nat}{x:Operand}{u:TV}(j:E x= .v u)(hk:kdOf P t= .sl e)(hn:P.cellsOf e=n)(hu:u.cells.length=n)(m:(ti P e).zero.length=n)(h0:0<n)(h1:n<=16777216)(d:(ti P e).zok=true):
  Op1 P E get nx (.buildSlice t 1 #[(0,x)]) (.v (.c (.osl nx 0 1))) [] [(nx,some ⟨e,n,[u.cells],none⟩)] 1:=by
 refine⟨true=true/\1*P.cellsOf e<=16777216/\0<P.cellsOf e/\(ti P e).zok=true,?_,⟨rfl,by rw[hn];omega,by rw[hn];exact h0,d⟩,rfl⟩;have hp:Ji E [(0,x)]=some (true,[(0,u.cells)]):=by simp only[Ji,j]
 have f:(Pg (ti P e).zero).length=n:=by unfold Pg;rw[Ra];exact m
 have hf:Gi (fun i=>some (i*P.cellsOf e,P.cellsOf e)) [(0,u.cells)] (List.replicate 1 (Pg (ti P e).zero)).flatten=some u.cells:=by simp only[Gi,Nat.zero_mul,hn,hu,Be,List.replicate_one,df,List.flatten_nil,Ab,f,Va,and_self,Td,Bg,Kc];rw[Re (by omega),Ab]
 have hc:chunks (P.cellsOf e) 1 u.cells=[u.cells]:=by simp only[chunks,hn];rw[Hd (by omega)]
 have p:=hf;rw[hn]at hc;simp only[opR,qV,hp,hk,hf];rw[hn,hc]
theorem dm{id:Nat}{ob:OB}{row:List CV}(d:get id=some ob)(hr:ob.rows=[row]):rowsOf get (.c (.osl id 0 1))=some ([row],[id]):=by simp only[rowsOf,d,hr,Pf];rfl
theorem Op1.appO {c:Call} {s x:Operand} {ts tx e e' n m id idx:Nat} {ob d:OB} {row:List CV} (hc:c.callee= .builtin .append) (ha:c.args.toList=[s,x]) (ht:c.argTypes.toList=[ts,tx]) (A:E s= .v (.c (.osl id 0 m))) (B:E x= .v (.c (.osl idx 0 1)))
  (J:get id=some ob) (f:get idx=some d) (hr:d.rows=[row]) (i:row.length=n) (hk:kdOf P ts= .sl e) (j:kdOf P tx= .sl e') (hn:P.cellsOf e=n) (h0:0<n) (p:ob.k=n) (u:ob.ty=e) (hm:m<=ob.rows.length) (y:d.k=n)
  (hb:(m+1)*(ti P e).by_<=140737488355328) (hl:m+1<=140737488355328) (z:(ti P e).zok=true):
  Op1 P E get nx (.call c) (.v (.c (.osl nx 0 (m+1)))) [id,idx] [(id,none),(nx,some ⟨e,n,ob.rows.take m++[row],none⟩)] 1:=by
 refine⟨ob.k=P.cellsOf e/\ob.ty=e/\m<=ob.rows.length/\appQ P get e tx [row] (.c (.osl idx 0 1)) m,?_,⟨by rw[hn];exact p,u,hm,by rw[hn];exact h0,fun r h=>by rw[Sa.1 h,hn];exact i,hb,hl,fun o ho=> ?_,by rw[j];trivial,z⟩,by simp only[Zr,hc]⟩
 ·simp only[opR,hc,ha,ht,A,B,Zj,Zd,hk,dm f hr,J,hn];rfl
 ·rw[f]at ho;cases ho;exact⟨by rw[hn];exact y,by rw[hr];exact Va _⟩
theorem Op1.appF {c:Call} {s x:Operand} {ts tx e e' n m id idx:Nat} {rows:List (List CV)} {d:OB} {row:List CV} (hc:c.callee= .builtin .append) (ha:c.args.toList=[s,x]) (ht:c.argTypes.toList=[ts,tx]) (y:E s= .v (.c (.osl id 0 m))) (z:E x= .v (.c (.osl idx 0 1)))
  (A:get id=some ⟨e,n,rows,none⟩) (f:get idx=some d) (hr:d.rows=[row]) (i:row.length=n) (hk:kdOf P ts= .sl e) (j:kdOf P tx= .sl e') (hn:P.cellsOf e=n) (h0:0<n) (hm:rows.length=m) (p:d.k=n)
  (hb:(m+1)*(ti P e).by_<=140737488355328) (hl:m+1<=140737488355328) (r:(ti P e).zok=true):
  Op1 P E get nx (.call c) (.v (.c (.osl nx 0 (m+1)))) [id,idx] [(id,none),(nx,some ⟨e,n,rows++[row],none⟩)] 1:=by
 have:=Op1.appO (P:=P) (nx:=nx) hc ha ht y z A f hr i hk j hn h0 rfl rfl (Nat.le_of_eq hm.symm) p hb hl r
 rwa [Hd (Nat.le_of_eq hm)]at u
theorem Op1.appN {c:Call} {s x:Operand} {ts tx e e' n idx:Nat} {d:OB} {row:List CV} (hc:c.callee= .builtin .append) (ha:c.args.toList=[s,x]) (ht:c.argTypes.toList=[ts,tx]) (y:E s= .v (.c (.p (.at (.slice none 0 0))))) (z:E x= .v (.c (.osl idx 0 1)))
  (f:get idx=some d) (hr:d.rows=[row]) (i:row.length=n) (hk:kdOf P ts= .sl e) (j:kdOf P tx= .sl e') (hn:P.cellsOf e=n) (h0:0<n) (m:d.k=n)
  (hb:(ti P e).by_<=140737488355328) (u:(ti P e).zok=true):
  Op1 P E get nx (.call c) (.v (.c (.osl nx 0 1))) [idx] [(nx,some ⟨e,n,[row],none⟩)] 1:=by
 refine⟨appQ P get e tx [row] (.c (.osl idx 0 1)) 0,?_,⟨by rw[hn];exact h0,fun r h=>by rw[Sa.1 h,hn];exact i,by simpa using hb,by simp,fun o ho=> ?_,by rw[j];trivial,u⟩,by simp only[Zr,hc]⟩
 ·simp only[opR,hc,ha,ht,y,z,Zj,Zd,hk,dm f hr,hn];rfl
 ·rw[f]at ho;cases ho;exact⟨by rw[hn];exact m,by rw[hr];exact Va _⟩
theorem Op1.cutO{t e n k id:Nat}{x y:Operand}{h:Int}{ob:OB}(i:E x= .v (.c (.osl id 0 n)))(j:E y= .v (.c (.p (.at (.int .i64 h)))))(m:get id=some ob)(hk:kdOf P t= .sl e)(hn:P.cellsOf e=k)(h0:0<k)(d:ob.k=k)(f:0<=h/\h<=n):
  Op1 P E get nx (.slice t x none (some y) none) (.v (.c (.osl id 0 h.toNat))) [id] [] 0:=by
 refine⟨(true&&true&&true)=true/\((none:Option Int)≠none->(some h)≠none)/\((0:Int)<=0/\0<=h/\h<=n/\(n:Int)<=n/\0<P.cellsOf e/\ob.k=P.cellsOf e),?_,⟨rfl,fun h=>absurd rfl h,by omega,f.1,f.2,by omega,by rw[hn];exact h0,by rw[hn,d]⟩,rfl⟩;simp only[opR,i,Zj,bndR,j,Mh,hk,m];simp
theorem Op1.loadW{t id row:Nat}{x:Operand}{ob:OB}{cs:List CV}{fs:List (Nat×TypeId)}{n:Nat}(f:IsV E x (.c (.optr id row 0)))(i:get id=some ob)(hr:ob.rows[row]? =some cs)(hk:kdOf P t= .st fs)(hn:P.cellsOf t=n)(hc:cs.length=n):
  Op1 P E get nx (.load t x) (.v (.agg cs)) [id] [] 0:=by
 have:=Op1.loadA (P:=P) (nx:=nx) f i hr hk hn (by omega)
 rwa [Pf,Hd (by omega)]at d
theorem Op1.storeX {t ty kk id row:Nat} {x y:Operand} {rows d:List (List CV)} {cs:List CV} {u:TV} {n:Nat} {kd:Kd} (i:IsV E x (.c (.optr id row 0))) (j:IsV E y u) (m:get id=some ⟨ty,kk,rows,none⟩) (hr:rows[row]? =some cs) (hk:kdOf P t=kd) (hn:P.cellsOf t=n)
  (hc:cs.length=n) (hu:u.cells.length=n) (p:rows.set row u.cells=d) (hb:kd≠ .bad:=by simp):Op1 P E get nx (.store t x y) .any [id] [(id,some ⟨ty,kk,d,none⟩)] 0:=by
 have:=Op1.store (P:=P) (nx:=nx) i j m hr hk hn hu (by omega) hb;subst p
 rwa [Bg,Kc,Be,Re (by omega),Ab]at f
theorem Op1.idxL{t id n e k j:Nat}{x y:Operand}{m:IntKind}{ob:OB}(r:IsV E x (.c (.osl id 0 n)))(u:IsV E y (.c (.p (.at (.int m ((j:Nat):Int))))))(z:get id=some ob)(hk:kdOf P t= .sl e)(hn:P.cellsOf e=k)(d:ob.k=k)(f:0<k)(hi:j<n):
  Op1 P E get nx (.indexAddr t x y) (.v (.c (.optr id j 0))) [id] [] 0:=by
 have:=Op1.idxO (P:=P) (nx:=nx) r u z hk hn d f ⟨by omega,by omega⟩
 rwa [jb,Be]at i
theorem Op1.pick{c a b:Operand}{x y z:Bool}{ga gb:Bool}(hc:E c= .v (.c (.p (.at (.bool z)))))(ha:Al (E a)=(ga,some x))(hb:Al (E b)=(gb,some y))(h1:z=true->ga=true)(h2:z=false->gb=true):
  Op1 P E get nx (.pick c a b) (.v (.c (.p (.at (.bool (cond z x y)))))) [] [] 0:=by
 refine⟨(z=true->ga=true)/\(z=false->gb=true),?_,⟨h1,h2⟩,rfl⟩;simp only[opR,Ul,hc,Zj,isBool,ha,hb,preC]
end
section
variable {P:Program} {nt:Nat} {ops:List Oper}
theorem Vy {Q:Exit->Act->World->Prop} {f:Nat} {c:Array Bool} {a:Act} {w:World} (p:Nat) (o0:Oper) (h1:c.getD p true=false) (h2:ops[p]? =some o0) (h3: ∀i∈direct o0,c.getD i false=true)
  (h: ∀j o,ops[j]? =some o->c.getD j true=false->(∀i∈direct o,c.getD i false=true)->
   if Region.wanted o (yielded ops.toArray a.tmps)=true then o.wp P a w (wpAny P .any ops.toArray Q f (c.setIfInBounds j true)) Q else wpAny P .any ops.toArray Q f (c.setIfInBounds j true) (a.put o.dst undef) w):
  wpAny P .any ops.toArray Q (f+1) c a w:=by
 refine⟨fun m=> ?_,fun j A=> ?_⟩
 ·exfalso;have:p∈Region.ready .any ops.toArray c:=by rw[mem_ready];refine⟨h1,o0,by simpa using h2,fun r u hb=>h3 _ ?_⟩;simp only[direct,Oa,Je];exact⟨r,⟨by simpa using u,hb⟩,rfl⟩
  rw[m]at d;simp at d
 ·rw[mem_ready]at A;obtain⟨k1,o,ho,hr⟩:=A;have:=h j o (by simpa using ho) k1 (fun i hi=>by
   simp only[direct,Oa,Je]at hi;obtain⟨r,⟨v,y⟩,rfl⟩:=hi;exact hr r (by simpa using v) y)
  unfold wpOp;simp only[ho];split at d
  ·rename_i z;rw[La z];exact .inl d
  ·rename_i z;rw[Ha z];exact d
theorem SW.anyBool (hm:P.follows .mixedOrders=true) {id:Nat} {o0 o1 o2 o3:Oper} {e:Env} {lh:LH} {Q:Post} (d0:direct o0=[]) (d1:direct o1=[0]) (d2:direct o2=[0]) (v:direct o3=[0,0,1,2])
  {r0 r1 r2 r1' r2' r3 r3':RO} (h0:OpOK P nt [o0,o1,o2,o3] o0 r0 ⟨e,lh.get,lh.next⟩)
  (h1:OpOK P nt [o0,o1,o2,o3] o1 r1 (Zi o0 r0 ⟨e,lh.get,lh.next⟩)) (h2:OpOK P nt [o0,o1,o2,o3] o2 r2 (Zi o1 r1 (Zi o0 r0 ⟨e,lh.get,lh.next⟩)))
  (h3:OpOK P nt [o0,o1,o2,o3] o3 r3 (Zi o2 r2 (Zi o1 r1 (Zi o0 r0 ⟨e,lh.get,lh.next⟩))))
  (U:OpOK P nt [o0,o1,o2,o3] o2 r2' (Zi o0 r0 ⟨e,lh.get,lh.next⟩)) (V:OpOK P nt [o0,o1,o2,o3] o1 r1' (Zi o2 r2' (Zi o0 r0 ⟨e,lh.get,lh.next⟩)))
  (W:OpOK P nt [o0,o1,o2,o3] o3 r3' (Zi o1 r1' (Zi o2 r2' (Zi o0 r0 ⟨e,lh.get,lh.next⟩))))
  (hQ:Q .normal (Zi o3 r3 (Zi o2 r2 (Zi o1 r1 (Zi o0 r0 ⟨e,lh.get,lh.next⟩)))).e ⟨(Zi o3 r3 (Zi o2 r2 (Zi o1 r1 (Zi o0 r0 ⟨e,lh.get,lh.next⟩)))).next,(Zi o3 r3 (Zi o2 r2 (Zi o1 r1 (Zi o0 r0 ⟨e,lh.get,lh.next⟩)))).get⟩)
  (Y:Q .normal (Zi o3 r3' (Zi o1 r1' (Zi o2 r2' (Zi o0 r0 ⟨e,lh.get,lh.next⟩)))).e ⟨(Zi o3 r3' (Zi o1 r1' (Zi o2 r2' (Zi o0 r0 ⟨e,lh.get,lh.next⟩)))).next,(Zi o3 r3' (Zi o1 r1' (Zi o2 r2' (Zi o0 r0 ⟨e,lh.get,lh.next⟩)))).get⟩):
  SW P nt (.region id #[o0,o1,o2,o3] true) Q e lh:=by
 intro ι a w u;refine wp_region_any hm ?_;have st:Stp ι w ι {w with drawn:=w.drawn+1}:=⟨rfl,rfl,rfl,Va _,fun _ _ h=>h,fun _ h=>h,fun _ _=>rfl,fun _ _=> .inl rfl⟩;have y:Now ι nt e lh a {w with drawn:=w.drawn+1}:=⟨⟨fun id o ho=>let⟨b,h1,h2⟩:=u.rel.live id o ho;⟨b,h1,h2.step st (fun _ _=>rfl)⟩,u.rel.gone,u.rel.inj,u.rel.glob.step st⟩,u.free,u.env.step st⟩;have z:StK lh.next ι w ι {w with drawn:=w.drawn+1}:=⟨st,fun id _ h=>h⟩;have c: ∀(o:Oper) (r:RO) (s:TS),s.next<=(Zi o r s).next:=fun o r s=>Sd _ _;show wpAny P .any [o0,o1,o2,o3].toArray _ 4 #[false,false,false,false] a {w with drawn:=w.drawn+1};generalize ({w with drawn:=w.drawn+1}:World)=w1 at y z;have last: ∀(s:TS) (o:Oper) (r:RO) (ι':Asg) (A:Act) (w':World),lh.next<=s.next->Now ι' nt s.e ⟨s.next,s.get⟩ A w'->StK lh.next ι w ι' w'->OpOK P nt [o0,o1,o2,o3] o3 r s->Q .normal (Zi o3 r s).e ⟨(Zi o3 r s).next,(Zi o3 r s).get⟩->
   wpAny P .any [o0,o1,o2,o3].toArray (fun x A w'=> ∃ι' e' i,Q x e' i/\Now ι' nt e' i A w'/\StK lh.next ι w ι' w'/\lh.next<=i.next) 1 #[true,true,true,false] A w':=by
  intro s o r ι' A w' B Z a5 a6 hq;refine Vy 3 o3 rfl rfl (by rw[v];simp) fun j o ho hl _=> ?_;rcases j with _|_|_|_|j
  ·cases hl
  ·cases hl
  ·cases hl
  ·cases ho;refine a6.step Z fun J a7 a8 k1 k2=> ?_;show wpAny P .any [o0,o1,o2,o3].toArray _ 0 #[true,true,true,true] a7 a8;refine⟨?_,J,_,_,hq,k1,a5.trans k2 B,Sb B (c o3 r s)⟩;rw[lg];intro j m;rw[mem_ready]at m;obtain⟨m,oo,a9,_⟩:=m;have:j<4:=by have:=(Ic.1 a9).1;simpa using d
   rcases j with _|_|_|_|j
   ·cases m
   ·cases m
   ·cases m
   ·cases m
   ·omega
  ·simp at ho
 refine Vy 0 o0 rfl rfl (by rw[d0];simp) fun j o ho hl f=> ?_;rcases j with _|_|_|_|j
 ·cases ho;refine h0.step y fun al a1 ab n1 k1=> ?_;show wpAny P .any [o0,o1,o2,o3].toArray _ 3 #[true,false,false,false] a1 ab;have K1:=z.trans k1 (Va lh.next);refine Vy 1 o1 rfl rfl (by rw[d1];simp) fun j o ho hl f=> ?_;rcases j with _|_|_|_|j
  ·cases hl
  ·cases ho;refine h1.step n1 fun ad a2 w2 n2 k2=> ?_;show wpAny P .any [o0,o1,o2,o3].toArray _ 2 #[true,true,false,false] a2 w2;have K2:=K1.trans k2 (c o0 r0 ⟨e,lh.get,lh.next⟩);refine Vy 2 o2 rfl rfl (by rw[d2];simp) fun j o ho hl f=> ?_;rcases j with _|_|_|_|j
   ·cases hl
   ·cases hl
   ·cases ho;refine h2.step n2 fun p L O n3 k3=> ?_;show wpAny P .any [o0,o1,o2,o3].toArray _ 1 #[true,true,true,false] L O;exact last _ o3 r3 p L O (Sb (c o0 r0 ⟨e,lh.get,lh.next⟩) (Sb (c o1 r1 _) (c o2 r2 _))) n3 (K2.trans k3 (Sb (c o0 r0 ⟨e,lh.get,lh.next⟩) (c o1 r1 _))) h3 hQ
   ·cases ho;have:=f 2 (by rw[v];simp);cases d
   ·simp at ho
  ·cases ho;refine U.step n1 fun ad a2 w2 n2 k2=> ?_;show wpAny P .any [o0,o1,o2,o3].toArray _ 2 #[true,false,true,false] a2 w2;have K2:=K1.trans k2 (c o0 r0 ⟨e,lh.get,lh.next⟩);refine Vy 1 o1 rfl rfl (by rw[d1];simp) fun j o ho hl f=> ?_;rcases j with _|_|_|_|j
   ·cases hl
   ·cases ho;refine V.step n2 fun p L O n3 k3=> ?_;show wpAny P .any [o0,o1,o2,o3].toArray _ 1 #[true,true,true,false] L O;exact last _ o3 r3' p L O (Sb (c o0 r0 ⟨e,lh.get,lh.next⟩) (Sb (c o2 r2' _) (c o1 r1' _))) n3 (K2.trans k3 (Sb (c o0 r0 ⟨e,lh.get,lh.next⟩) (c o2 r2' _))) W Y
   ·cases hl
   ·cases ho;have:=f 1 (by rw[v];simp);cases d
   ·simp at ho
  ·cases ho;have:=f 1 (by rw[v];simp);cases d
  ·simp at ho
 ·cases ho;have:=f 0 (by rw[d1];simp);cases d
 ·cases ho;have:=f 0 (by rw[d2];simp);cases d
 ·cases ho;have:=f 0 (by rw[v];simp);cases d
 ·simp at ho
end
section
variable {P:Program} {nt:Nat} {ops:List Oper} {ρ:Nat->Nat} {K:TS->Prop}
theorem Walk.n {o:Oper} {l:List Oper} {f:Fp} {fs:List Fp} {e:Env} {get:Get} {nx k d:Nat} {val:LV} {rd:List Nat} {up:List (Nat×Option OB)} (h:Op1 P (opd e) get nx o.op val rd up k) (c:o.dst=some d) (i:Nat.blt d nt=true) (j:o.guard=none)
  (h2:rd=f.1.map ρ) (h3:up.map (·.1)=f.2.map ρ) (h4:Walk P nt ops ρ l fs ⟨(d,val)::e,upd get up,nx+k⟩ K):Walk P nt ops ρ (o::l) (f::fs) ⟨e,get,nx⟩ K:=
 ⟨_,opN h j (fun m h'=>by rw[c]at h';cases h';exact Zm.1 i),h2,h3,by unfold Zi;rw[c];exact h4⟩
theorem Walk.n0 {o:Oper} {l:List Oper} {f:Fp} {fs:List Fp} {e:Env} {get:Get} {nx k:Nat} {val:LV} {rd:List Nat} {up:List (Nat×Option OB)} (h:Op1 P (opd e) get nx o.op val rd up k) (c:o.dst=none) (d:o.guard=none)
  (h2:rd=f.1.map ρ) (h3:up.map (·.1)=f.2.map ρ) (h4:Walk P nt ops ρ l fs ⟨e,upd get up,nx+k⟩ K):Walk P nt ops ρ (o::l) (f::fs) ⟨e,get,nx⟩ K:=
 ⟨_,opN h d (fun i h'=>by rw[c]at h';cases h'),h2,h3,by unfold Zi;rw[c];exact h4⟩
theorem Walk.end{e:Env}{get:Get}{nx:Nat}(h:K ⟨e,get,nx⟩):Walk P nt ops ρ [] [] ⟨e,get,nx⟩ K:=h
theorem upK{get:Get}{id j:Nat}{o:Option OB}{x:Option OB}(c:get id=x)(h:id≠j):upd get [(j,o)] id=x:=by simp only[upd];rw[Ha h];exact c
theorem upK2{get:Get}{id j c:Nat}{o o2:Option OB}{x:Option OB}(d:get id=x)(h:id≠j)(h2:id≠c):upd get [(j,o),(c,o2)] id=x:=by simp only[upd];rw[Ha h,Ha h2];exact d
theorem upS{get:Get}{j:Nat}{o:Option OB}:upd get [(j,o)] j=o:=La rfl
theorem upS2{get:Get}{j c:Nat}{o o2:Option OB}(h:c≠j):upd get [(j,o),(c,o2)] c=o2:=by show(if c=j then o else if c=c then o2 else get c)=o2;rw[Ha h,La rfl]
end
theorem Mj{l:List Nat}(h:l.Nodup): ∀i j,i<l.length->j<l.length->l.getD i 0=l.getD j 0->i=j:=by
 intro i j hi d e;rw[jc,jc,Ma hi,Ma d]at e;have e:l[i]=l[j]:=e;have c:=List.pairwise_iff_getElem.1 h;rcases Nat.lt_trichotomy i j with q|q|q
 ·exact absurd e (c i j hi d q)
 ·exact q
 ·exact absurd e.symm (c j i d hi q)
theorem at1{get:Get}{i j:Nat}{a b:OB}(hi:get i=some a)(c:get j=some b)(h:Nat.beq a.ty b.ty=false):i≠j:=fun e=>by subst e;rw[hi]at c;cases c;rw[Yf]at h;cases h
end Go.Lv
