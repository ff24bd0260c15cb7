/- The primitives of the plain texts of functions, and their laws. -/
import Derived.Test.YtcdeccnjlkkejaaGreatDoorLc
import Derived.IntWalk
import Derived.Lib.Index
import Derived.Lib.IndexMore
import Derived.Lib.IndexAny
import Derived.Lib.SlTrimSet
import Derived.Lib.TrimByte
import Derived.Lib.ItoaNum
import Derived.Test.YtcdeccnjlkkejaaGreatDoorLe
import Derived.Lib.Strings
import Derived.Lib.Bytealg
import GoSem.ClaimChange
import Derived.Below
import Derived.ChangeSame
import Derived.Carry
import Derived.ProofKit
import Derived.OpenShut
import Derived.Test.YtcdeccnjlkkejaaGreatDoorLd
set_option linter.unusedSimpArgs false
set_option linter.unusedVariables false
namespace Go.Lv
abbrev Str:=List UInt8
abbrev w8(n:Int):Int:=IntKind.i8.wrap n
abbrev w32(n:Int):Int:=IntKind.i32.wrap n
abbrev w64(n:Int):Int:=IntKind.i64.wrap n
abbrev wu8(n:Int):Int:=IntKind.u8.wrap n
abbrev wu32(n:Int):Int:=IntKind.u32.wrap n
abbrev wu64(n:Int):Int:=IntKind.u64.wrap n
def oh(k:IntKind)(x y:Int):Int:=k.wrap (BitVec.ofInt k.bits x &&& BitVec.ofInt k.bits y).toNat
def ibOr(k:IntKind)(x y:Int):Int:=k.wrap (BitVec.ofInt k.bits x ||| BitVec.ofInt k.bits y).toNat
def Ku(k:IntKind)(x y:Int):Int:=k.wrap (x*2 ^ (min y.toNat k.bits))
def Ah(k:IntKind)(x y:Int):Int:=x.fdiv (2 ^ (min y.toNat k.bits))
def Zq(n:Int):Option UInt8:=cond (decide (0<=n)&&decide (n<=255)) (some (UInt8.ofNat n.toNat)) none
theorem J2{n:Int}{b:UInt8}(h:Zq n=some b):n=((b.toNat:Nat):Int):=by
 unfold Zq at h;cases a:(decide (0<=n)&&decide (n<=255))with
 |false=>grind
 |true=> rw[a]at h;simp only[Ca,jb]at a;injection h with h;subst h;rw[UInt8.toNat_ofNat'];omega
@[simp] theorem zyI (b : UInt8) : Zq ((b.toNat : Nat) : Int) = some b := by
 unfold Zq;have:=Fb b;have h:(decide ((0:Int)<=((b.toNat:Nat):Int))&&decide (((b.toNat:Nat):Int)<=255))=true:=by simp only[Ca,jb];omega
 rw[h];simp
abbrev ze{α a:Type}(x:Option α)(f:α->Option a):Option a:=x.bind f
noncomputable def Zy{S X R:Type}(step:S->Option (LO S X R))(s:S)(k:X->Option R):Option R:=
 (Tg step s).bind fun
 | .out x=>k x
 | .ret r=>some r
def zS{X R:Type}(m:Option (LX X R))(k:X->Option R):Option R:=
 m.bind fun
 | .out x=>k x
 | .ret r=>some r
def Aj{X Y:Type}(B:(X->Option Y)->X->Option Y):Nat->X->Option Y
 |0,_=>none
 |n+1,x=>B (Aj B n) x
open Classical in
noncomputable def recE{X Y:Type}(B:(X->Option Y)->X->Option Y)(x:X):Option Y:=
 if h: ∃y,∃N,∀n,N<=n->Aj B n x=some y then some h.choose else none
theorem CL{X Y:Type}{B:(X->Option Y)->X->Option Y}{x:X}{y:Y}{N:Nat}(h: ∀n,N<=n->Aj B n x=some y):recE B x=some y:=by
 have a: ∃y,∃N,∀n,N<=n->Aj B n x=some y:=⟨y,N,h⟩;unfold recE;rw[dif_pos a];obtain⟨M,b⟩:=a.choose_spec;have c:=b (max N M) (mf ..)
 grind
theorem iC {X Y:Type} {B:(X->Option Y)->X->Option Y} (a:X->Nat) (ok:X->Prop) (f:X->Y)
  (j: ∀(S:X->Option Y) (x:X),ok x->(∀z,ok z->a z<a x->S z=some (f z))->B S x=some (f x)) {x:X} (g:ok x):recE B x=some (f x):=by
 have b: ∀(m:Nat) (n:Nat) (x:X),a x<m->m<=n->ok x->Aj B n x=some (f x):=by
  intro m
  induction m with
  |zero=>grind
  |succ m e=>
   intro n x k d c;cases n with
   |zero=>omega
   |succ n=>exact j _ x c fun z i h=>e n z (by omega) (by omega) i
 exact CL (N:=a x+1) fun n d=>b (a x+1) n x (by omega) d g
theorem xY{X Y:Type}{B:(X->Option Y)->X->Option Y}{x:X}{y:Y}(h:recE B x=some y): ∃n,Aj B n x=some y:=by
 unfold recE at h;split at h
 ·rename_i a;injection h with h;obtain⟨N,b⟩:=a.choose_spec;exact⟨N,by grind⟩
 ·cases h
theorem sH{S X R:Type}{step:S->Option (LO S X R)}: ∀{n m:Nat} {s:S} {x:LX X R},Qn step n s=some x->n<=m->Qn step m s=some x
 |0,_,_,_,h,_=>by cases h
 |n+1,0,_,_,_,a=>by omega
 |n+1,m+1,s,x,h,a=>by
  simp only[Qn]at h ⊢;split at h
  ·cases h
  ·exact sH h (by omega)
  ·exact h
  ·exact h
theorem Om{S X R:Type}{step:S->Option (LO S X R)}{s:S}{x:LX X R}{n:Nat}(h:Qn step n s=some x):Tg step s=some x:=by
 have a: ∃n x,Qn step n s=some x:=⟨n,x,h⟩;unfold Tg;rw[dif_pos a];have b:=a.choose_spec.choose_spec;have c:=sH h (Nat.le_max_left n a.choose);have d:=sH b (mf n a.choose)
 grind
theorem Qf {S X R:Type} {step:S->Option (LO S X R)} (Inv:S->Prop) (a:S->Nat) (r:LX X R)
  (h: ∀s,Inv s->(∃s',step s=some (.again s')/\Inv s'/\a s'<a s)\/(∃x,step s=some (.out x)/\r= .out x)\/(∃y,step s=some (.ret y)/\r= .ret y)) {s:S} (c:Inv s):Tg step s=some r:=by
 have b: ∀(m:Nat) (s:S),a s<m->Inv s->Qn step m s=some r:=by
  intro m
  induction m with
  |zero=>intro s h;omega
  |succ m d=>
   intro s e c;simp only[Qn]
   grind
 exact Om (b (a s+1) s (by omega) c)
theorem J7{S X R:Type}{step:S->Option (LO S X R)}{s s':S}{r:LX X R}(h:step s=some (.again s'))(h': ∃n,Qn step n s'=some r): ∃n,Qn step n s=some r:=by obtain⟨n,a⟩:=h';exact⟨n+1,by simp only[Qn,h];exact a⟩
theorem Qg{S X R:Type}{step:S->Option (LO S X R)}{s:S}{k:X->Option R}{x:X}(h:Tg step s=some (.out x)):Zy step s k=k x:=by unfold Zy;rw[h];rfl
theorem NH{S X R:Type}{step:S->Option (LO S X R)}{s:S}{k:X->Option R}{r:R}(h:Tg step s=some (.ret r)):Zy step s k=some r:=by unfold Zy;rw[h];rfl
@[simp] theorem zh {X R : Type} (x : X) (k : X -> Option R) : zS (some (.out x)) k = k x := rfl
@[simp] theorem zwJ {X R : Type} (r : R) (k : X -> Option R) : zS (some (.ret r)) k = some r := rfl
@[simp] theorem qA {R : Type} (x : Option R) : need true x = x := rfl
@[simp] theorem Zx {α : Type} (x : Option α) (d : α) : zu true x d = x := rfl
@[simp] theorem Qx {α : Type} (x : Option α) (d : α) : zu false x d = some d := rfl
theorem zy{R:Type}{b:Bool}(h:b=true)(x:Option R):need b x=x:=by rw[h];rfl
def LX.go{X R:Type}(r:LX X R)(k:X->Option R):Option R:=match r with| .out x=>k x| .ret y=>some y
@[simp] theorem zEo {X R : Type} (x : X) (k : X -> Option R) : (LX.out x : LX X R).go k = k x := rfl
@[simp] theorem go_ret {X R : Type} (y : R) (k : X -> Option R) : (LX.ret y : LX X R).go k = some y := rfl
theorem Ao{S X R:Type}{step:S->Option (LO S X R)}{s:S}{k:X->Option R}{r:LX X R}(h:Tg step s=some r):Zy step s k=r.go k:=by unfold Zy;rw[h];cases r<;>rfl
def Kk{α A X R:Type}(g:α->A->Option (LO A X R))(fin:A->Option (LX X R)):List α->A->Option (LX X R)
 |[],a=>fin a
 |v::l,a=>match g v a with
  |none=>none
  |some (.again b)=>Kk g fin l b
  |some (.out x)=>some (.out x)
  |some (.ret r)=>some (.ret r)
theorem QV{α:Type}{l:List α}{i:Nat}(h:i<l.length):geti l (i:Int)=some l[i]:=by
 unfold geti
 grind
theorem U5 {α A X R S:Type} {step:S->Option (LO S X R)} (l:List α) (st:Nat->A->S) (g:α->A->Option (LO A X R)) (fin:A->Option (LX X R)) (Inv:Nat->A->Prop)
  (u: ∀(i:Nat) (a:A) (h:i<l.length),Inv i a->step (st i a)=((g l[i] a).map fun
   | .again c=> .again (st (i+1) c)
   | .out x=> .out x
   | .ret r=> .ret r)/\ ∀c,g l[i] a=some (.again c)->Inv (i+1) c)
  (t: ∀a,Inv l.length a->step (st l.length a)=(fin a).map fun
   | .out x=> .out x
   | .ret r=> .ret r) {a:A} {r:LX X R} (v:Inv 0 a) (h:Kk g fin l a=some r):Tg step (st 0 a)=some r:=by
 have p: ∀(k:Nat) (i:Nat) (a:A),i+k=l.length->Inv i a->Kk g fin (l.drop i) a=some r-> ∃n,Qn step n (st i a)=some r:=by
  intro k
  induction k with
  |zero=>
   intro i a q j b;have q:i=l.length:=by omega
   subst q;rw[List.drop_length]at b;refine⟨1,?_⟩;simp only[Qn,t a j];simp only[Kk]at b;rw[b];cases r<;>rfl
  |succ k s=>
   intro i a q j b;have d:i<l.length:=by omega
   rw[Jb d]at b;simp only[Kk]at b;obtain⟨f,m⟩:=u i a d j;cases e:g l[i] a with
   |none=>grind
   |some o=>
    rw[e]at b f;cases o with
    |again c=>exact J7 f (s (i+1) c (by omega) (m c e) b)
    |out x=>cases b;exact⟨1,by simp only[Qn];rw[f];rfl⟩
    |ret y=>cases b;exact⟨1,by simp only[Qn];rw[f];rfl⟩
 obtain⟨n,w⟩:=p l.length 0 a (by omega) v (by simpa using h);exact Om w
theorem Tw {α A X R S:Type} {step:S->Option (LO S X R)} {k:X->Option R} (l:List α) (st:Nat->A->S) (g:α->A->Option (LO A X R)) (fin:A->Option (LX X R)) (Inv:Nat->A->Prop) {s0:S} {a:A} (h0:s0=st 0 a) (hi:Inv 0 a)
  (hg: ∀(i:Nat) (a:A) (h:i<l.length),Inv i a->step (st i a)=((g l[i] a).map fun
   | .again a'=> .again (st (i+1) a')
   | .out x=> .out x
   | .ret r=> .ret r)/\ ∀a',g l[i] a=some (.again a')->Inv (i+1) a')
  (hf: ∀a,Inv l.length a->step (st l.length a)=(fin a).map fun
   | .out x=> .out x
   | .ret r=> .ret r) {r:LX X R} (h:Kk g fin l a=some r):Zy step s0 k=r.go k:=by
 subst h0;have:=U5 l st g fin Inv hg hf hi h;unfold Zy;rw[this];cases r<;>rfl
theorem UW {α A X R S:Type} {step:S->Option (LO S X R)} {k:X->Option R} (l:List α) (st:Nat->A->S) (g:α->A->Option (LO A X R)) (fin:A->Option (LX X R)) {s0:S} {a:A} (b:s0=st 0 a)
  (e: ∀(i:Nat) (a:A) (h:i<l.length),step (st i a)=(g l[i] a).map fun
   | .again d=> .again (st (i+1) d)
   | .out x=> .out x
   | .ret r=> .ret r)
  (c: ∀a,step (st l.length a)=(fin a).map fun
   | .out x=> .out x
   | .ret r=> .ret r) {r:LX X R} (h:Kk g fin l a=some r):Zy step s0 k=r.go k:=
 Tw l st g fin (fun _ _=>True) b trivial (fun i a h _=>⟨e i a h,fun _ _=>trivial⟩) (fun a _=>c a) h
theorem Et{α A X R:Type}{g:α->A->Option (LO A X R)}{fin:A->Option (LX X R)}(f:A->α->A)(b: ∀v a,g v a=some (.again (f a v))): ∀(l:List α) (a:A),Kk g fin l a=fin (l.foldl f a)
 |[],a=>rfl
 |v::l,a=>by simp only[Kk,b,List.foldl_cons];exact Et f b l _
theorem xk{n:Int}(a: -9223372036854775808<=n)(h2:n<=9223372036854775807):IntKind.i64.wrap n=n:=IntWalk.i64_in n ⟨a,h2⟩
theorem pG{n m b:Nat}(h:(n+m)*b<=140737488355328):zX n m b=true:=Ma h
end Go.Lv

namespace Go.Proofs
def Cl.cleanS:List UInt8->List UInt8
 |[]=>[]
 |13::10::r=>10::Cl.cleanS r
 |c::r=>bif c==0 then 239::191::189::Cl.cleanS r else bif c==12||c==13 then 10::Cl.cleanS r else c::Cl.cleanS r
end Go.Proofs
namespace Go.Lv
def Tk(s:Str):Option (Str×Int):=some (if 4000<s.length then([],28)else(Proofs.Cl.cleanS s,0))
def short(l:Str):Bool:=decide (l.length<4294967281)
def mg(l:Str):Bool:=l.all fun b=>decide (b.toNat<128)
def Xk(x:Str×Str):Option Int:=need (short x.1) (some (Lib.index x.1 x.2))
def cutF(x:Str×Str):Option (Str×Str×Bool):=need (short x.1) (some (Lib.cut x.1 x.2))
def Gj(x:Str×Str):Option Str:=need (short x.2&&mg x.2) (some (Lib.trimLeftS x.1 x.2))
def ol(x:Str×Str):Option Str:=match x.2 with
 |[c]=>need (decide (c.toNat<128)&&short x.1) (some (Lib.trimRightB x.1 c))
 |_=>none
def QX(x:Str×Str):Option Int:=need (short x.1&&short x.2&&mg x.1&&mg x.2) (some (Lib.indexAny x.1 x.2))
def i64B(n:Int):Bool:=decide (-9223372036854775808<=n)&&decide (n<=9223372036854775807)
def bn(x:Int×Int):Option Str:=need (decide (x.2=10)&&i64B x.1) (some (Lib.itoa x.1))
def Io(x:(Int×Int)×Str):Option Str:=need (decide (x.1.2=10)&&decide (0<=x.1.1)&&decide (x.1.1<=9223372036854775807)&&short x.2) (some (x.2++Lib.decDigits x.1.1.toNat))
def hexD(n:Nat):UInt8:=UInt8.ofNat (if n<10 then 48+n else 87+n)
def hexS(n:Nat):Str:=if n<16 then [hexD n]else [hexD (n / 16),hexD (n%16)]
def Ho(x:(Int×Int)×Str):Option Str:=need (decide (x.1.2=16)&&decide (0<=x.1.1)&&decide (x.1.1<256)&&short x.2) (some (x.2++hexS x.1.1.toNat))
def Dw(x:Str×Int):Option Int:=some (Lib.indexByte x.1 x.2.toNat.toUInt8)
section
variable {I:Ip} {P:Program}
theorem bO{D:Nat->Prop}{w:World}{u v:Value}(h:RepP D w (.at u) v):v=u:=by cases h;rfl
theorem VI{D:Nat->Prop}{w:World}{l:List UInt8}{v:Value}(h:RepP D w (.str l) v):v= .string ⟨l.toArray⟩:=by cases h;rfl
theorem K4 {f:FuncId} {fn:Go.Func} (t:P.funcs[f]? =some fn) (A:(fn.name== "runtime.NumGoroutine")=false) (v:fn.body.isSome=true)
  (h: ∀(s:ByteArray) (c:Int) (w:World),Calls P f #[.string s, .int .u8 c] w fun e w'=>e= .returned (.int .i64 (Lib.indexByte s.data.toList c.toNat.toUInt8))/\w'=w):
  zn P (⟨f,⟨[.str, .int .u8],[]⟩,[],⟨[.int .i64],[]⟩,0,Dw⟩:Con I)where
 wf:=rfl
 ok:=fun x y b B C _ _ _=>by
  obtain⟨l,c⟩:=x;cases b;refine⟨⟨fn,t,A,v⟩,fun D r w N j u _ _ a _=> ?_⟩;obtain⟨d,a⟩:=a;obtain⟨o,p,_,g⟩:=a 0 _ rfl;obtain⟨z,q,_,i⟩:=a 1 _ rfl;have k:o= .string ⟨l.toArray⟩:=VI g;have m:z= .int .u8 c:=bO i;subst k;subst m;have n:j= #[.string ⟨l.toArray⟩, .int .u8 c]:=by
   have d:j.size=2:=d;apply Array.ext
   ·simp[d]
   ·grind
  subst n;refine(h ⟨l.toArray⟩ c w).mono ?_;rintro e w' ⟨rfl,rfl⟩;refine⟨_,rfl,Qc u ⟨rfl,?_⟩⟩;exact .at _ rfl
end
inductive All2 {α β:Type} (R:α->β->Prop):List α->List β->Prop where
 |nil:All2 R [] []
 |cons {a:α} {b:β} {l:List α} {m:List β} (h:R a b) (t:All2 R l m):All2 R (a::l) (b::m)
section
variable {I:Ip} {P:Program}
theorem aZ{X Y:Type}(B:(X->Option Y)->X->Option Y)(n:Nat):Aj B n=Nat.rec (motive:=fun _=>X->Option Y) (fun _=>Option.none) (fun _ S=>B S) n:=by
 induction n with
 |zero=>rfl
 |succ n a=>funext x;show B (Aj B n) x=B _ x;rw[a]
theorem zn.recE {f:Nat} {inS:StSh} {cst:List Nat} {outS:StSh} {k:Nat} (B:((inS.sl I).T->Option (outS.sl I).T)->(inS.sl I).T->Option (outS.sl I).T)
  (a:Ei (⟨f,inS,cst,outS,k,fun _=>Option.none⟩:Con I)=true) (c: ∀S,zn P (⟨f,inS,cst,outS,k,S⟩:Con I)->zn P (⟨f,inS,cst,outS,k,B S⟩:Con I)):zn P (⟨f,inS,cst,outS,k,Lv.recE B⟩:Con I):=
 zn.recf B a c fun x y h=>by obtain⟨n,b⟩:=xY h;exact⟨n,by rw[<-aZ];exact b⟩
end
mutual
/-- How many values and letters there are. -/
def bPV:PV->Nat
 | .at _=>1
 | .str l=>l.length+1
 | .sl rows=>Jp rows+1
 | .ptr cells=>jg cells+1
def Jp:List (List PV)->Nat
 |[]=>0
 |r::rs=>jg r+Jp rs
def jg:List PV->Nat
 |[]=>0
 |c::cs=>bPV c+jg cs
end
mutual
/-- Integers are in their kind's range. -/
def okPV:PV->Prop
 | .at (.int k n)=>k.min<=n/\n<=k.max
 | .at _=>True
 | .str _=>True
 | .sl rows=>WE rows
 | .ptr cells=>Li cells
def WE:List (List PV)->Prop
 |[]=>True
 |r::rs=>Li r/\WE rs
def Li:List PV->Prop
 |[]=>True
 |c::cs=>okPV c/\Li cs
end
theorem lT: ∀(a b:List PV),jg (a++b)=jg a+jg b
 |[],b=>by simp[jg]
 |x::a,b=>by simp only[ma,jg,lT a b];omega
theorem NT: ∀(a b:List PV),Li (a++b)↔Li a/\Li b
 |[],b=>by simp[Li]
 |x::a,b=>by simp only[ma,Li,NT a b,and_assoc]
structure zAt (bk:{H:Type}->DataW H->Nat):Prop where
 one: ∀{H:Type} (d:DataW H),1<=bk d
 str: ∀{H:Type} (l:List UInt8),bk (DataW.lit (H:=H) (.string l))=l.length+1
 slice: ∀{H:Type} (a b:List (DataW H)),(a.map bk).sum+1<=bk (.slice a b)
 agg: ∀{H:Type} (a:List (DataW H)),(a.map bk).sum+1<=bk (.agg a)
structure IpRd (P:Program) (I:Ip) (G:Nat->Prop):Prop where
 int: ∀t k,G t->P.underlying t=some (.int k)-> ∀n,k.min<=n->n<=k.max-> ∃x:I.C t,I.full t x=[.at (.int k n)]
 bool: ∀t,G t->P.underlying t=some .bool-> ∀b,∃x:I.C t,I.full t x=[.at (.bool b)]
 str: ∀t,G t->P.underlying t=some .string-> ∀l,∃x:I.C t,I.full t x=[.str l]
 sl: ∀t e,G t->P.underlying t=some (.slice e)->G e/\0<P.cellsOf e/\ ∀l:List (I.C e),∃x:I.C t,I.full t x=[.sl (l.map (I.full e))]
 st: ∀t fs,G t->P.underlying t=some (.struct fs)->(∀f∈fs.toList,G f.type)/\(∀(i:Nat) f,fs.toList[i]? =some f->f.offset=((fs.toList.take i).map fun f=>P.cellsOf f.type).sum)/\P.cellsOf t=(fs.toList.map fun f=>P.cellsOf f.type).sum/\
  ∀pvs:List (List PV),All2 (fun(f:Field) p=> ∃y:I.C f.type,I.full f.type y=p) fs.toList pvs-> ∃x:I.C t,I.full t x=pvs.flatten
 only: ∀t u,G t->P.underlying t=some u->(∃k,u= .int k)\/u= .bool\/u= .string\/(∃e,u= .slice e)\/(∃fs,u= .struct fs)
def offs(P:Program):Nat->List (Nat×Nat)->Bool
 |_,[]=>true
 |off,(t,o)::r=>Nat.beq o off&&offs P (off+P.cellsOf t) r
def jl(P:Program)(t:Nat):List (Nat×Nat):=match P.underlying t with
 |some (.struct fs)=>fs.toList.map fun f=>(f.type,f.offset)
 |_=>[]
theorem vK{P:Program}: ∀{l:List (Nat×Nat)} {off:Nat},offs P off l=true-> ∀(i:Nat) p,l[i]? =some p->p.2=off+((l.take i).map fun p=>P.cellsOf p.1).sum
 |[],off,_,i,p,h=>by cases h
 |(t,o)::r,off,h,i,p,hi=>by
  simp only[offs,Ca]at h;cases i with
  |zero=>cases hi;simpa using Cb h.1
  |succ i=> have:=vK h.2 i p (by simpa using hi);rw[this];simp only[xe,ja,Nf];omega
theorem ZY{α β:Type}{R:α->β->Prop}{a:α}{l:List α}{m:List β}(h:All2 R (a::l) m): ∃b m',m=b::m'/\R a b/\All2 R l m':=by
 cases h with
 |cons h t=>exact⟨_,_,rfl,h,t⟩
theorem kr{α β:Type}{R:α->β->Prop}{m:List β}(h:All2 R [] m):m=[]:=by cases h;rfl
theorem aN{α β γ:Type}{f:α->γ}{R:γ->β->Prop}: ∀{l:List α} {m:List β},All2 (fun a b=>R (f a) b) l m->All2 R (l.map f) m
 |[],_,h=>by cases h;exact .nil
 |a::l,_,h=>by
  cases h with
  |cons h t=>exact .cons h (aN t)
theorem Ep {P:Program} {I:Ip} {G:Nat->Prop} {t:Nat} {fs:Array Field} (hu:P.underlying t=some (.struct fs)) {ft:List (Nat×Nat)} (hft:jl P t=ft) (hg: ∀p∈ft,G p.1) (ho:offs P 0 ft=true)
  (hs:P.cellsOf t=(ft.map fun p=>P.cellsOf p.1).sum) (mk: ∀pvs:List (List PV),All2 (fun(p:Nat×Nat) q=> ∃y:I.C p.1,I.full p.1 y=q) ft pvs-> ∃x:I.C t,I.full t x=pvs.flatten):
  (∀f∈fs.toList,G f.type)/\(∀(i:Nat) f,fs.toList[i]? =some f->f.offset=((fs.toList.take i).map fun f=>P.cellsOf f.type).sum)/\P.cellsOf t=(fs.toList.map fun f=>P.cellsOf f.type).sum/\
  ∀pvs:List (List PV),All2 (fun(f:Field) p=> ∃y:I.C f.type,I.full f.type y=p) fs.toList pvs-> ∃x:I.C t,I.full t x=pvs.flatten:=by
 have hft:fs.toList.map (fun f=>(f.type,f.offset))=ft:=by unfold jl at hft;rw[hu]at hft;exact hft
 refine⟨fun f hf=>hg (f.type,f.offset) (by rw[<-hft];exact Ka.2 ⟨f,hf,rfl⟩),fun i f hi=> ?_,?_,fun pvs h=>mk pvs ?_⟩
 ·have:=vK ho i (f.type,f.offset) (by rw[<-hft,Ua,hi];rfl);simp only[Te]at this;rw[this,<-hft,<-jc,Ob];rfl
 ·rw[hs,<-hft,Ob];rfl
 ·rw[<-hft];exact aN h
theorem AC{α β:Type}{g:α->Option β}: ∀{l:List α} {r:List β},l.mapM g=some r->All2 (fun a b=>g a=some b) l r
 |[],r,h=>by simp only[List.mapM_nil,Option.pure_def,Option.some.injEq]at h;subst h;exact .nil
 |a::l,r,h=>by rw[List.mapM_cons]at h;obtain⟨b,h1,h2⟩:=Ba.1 h;obtain⟨r',h3,h4⟩:=Ba.1 h2;simp only[Option.pure_def,Option.some.injEq]at h4;subst h4;exact .cons h1 (AC h3)
theorem All2.len{α β:Type}{R:α->β->Prop}{l:List α}{m:List β}(h:All2 R l m):l.length=m.length:=by
 induction h with
 |nil=>rfl
 |cons _ _ ih=>simp[ih]
theorem All2.at{α β:Type}{R:α->β->Prop}{l:List α}{m:List β}(h:All2 R l m): ∀{i:Nat} {a:α},l[i]? =some a-> ∃b,m[i]? =some b/\R a b:=by
 induction h with
 |nil=>intro i a h;cases h
 |cons h t ih=>
  intro i a hi;cases i with
  |zero=>cases hi;exact⟨_,rfl,h⟩
  |succ i=>exact ih hi
def Bh(w:World)(cs:List Value)(pvs:List PV):Prop:=cs.length=pvs.length/\ ∀(j:Nat) v pv,cs[j]? =some v->pvs[j]? =some pv->RepP (fun b=>b<w.heap.size) w pv v/\v.oneCell'=true
theorem Bh.one{w:World}{v:Value}{pv:PV}(h:RepP (fun b=>b<w.heap.size) w pv v)(ho:v.oneCell'=true):Bh w [v] [pv]:=by
 refine⟨rfl,fun j u q hu hq=> ?_⟩;cases j with
 |zero=>cases hu;cases hq;exact⟨h,ho⟩
 |succ j=>cases hu
theorem Bh.append{w:World}{a b:List Value}{p q:List PV}(h:Bh w a p)(g:Bh w b q):Bh w (a++b) (p++q):=by
 refine⟨by simp[h.1,g.1],fun j v pv hv hp=> ?_⟩;by_cases hj:j<a.length
 ·rw[Sc hj]at hv;rw[Sc (by rw[<-h.1];exact hj)]at hp;exact h.2 j v pv hv hp
 ·rw[List.getElem?_append_right (by omega)]at hv;rw[List.getElem?_append_right (by have:=h.1;omega),<-h.1]at hp;exact g.2 _ v pv hv hp
section
variable {P:Program} {I:Ip} {G:Nat->Prop} {bk:{H:Type}->DataW H->Nat}
theorem tQ {H:Type} {D:Nat->List Value->Option (DataW H×List MemPlace)} {w:World}
  (hD: ∀t cs d ps,G t->D t cs=some (d,ps)-> ∃x:I.C t,Bh w cs (I.full t x)/\jg (I.full t x)<=bk d/\Li (I.full t x)) (cs:List Value):
  ∀(fs:List Field) (off:Nat) (xs:List (DataW H×List MemPlace)),(∀f∈fs,G f.type)->(∀(i:Nat) f,fs[i]? =some f->f.offset=off+((fs.take i).map fun f=>P.cellsOf f.type).sum)->
   All2 (fun(f:Field) x=>D f.type ((cs.drop f.offset).take (P.cellsOf f.type))=some x) fs xs->
   ∃pvs:List (List PV),All2 (fun(f:Field) p=> ∃y:I.C f.type,I.full f.type y=p) fs pvs/\Bh w ((cs.drop off).take ((fs.map fun f=>P.cellsOf f.type).sum)) pvs.flatten/\jg pvs.flatten<=((xs.map (·.1)).map bk).sum/\Li pvs.flatten
 |[],off,xs,_,_,h=>by
  cases h;refine⟨[], .nil,⟨by simp,fun j v pv hv=>by simp at hv⟩,by simp[jg],trivial⟩
 |f::fs,off,xs,hG,ho,h=>by
  cases h with
  | @cons _ x _ xs' h1 h2=>
   obtain⟨d,ps⟩:=x;have h0:f.offset=off:=by have:=ho 0 f rfl;simpa using this
   obtain⟨y,y1,y2,y3⟩:=hD f.type _ d ps (hG f (Nb ..)) h1;obtain⟨pvs,q1,q2,q3,q4⟩:=tQ hD cs fs (off+P.cellsOf f.type) xs' (fun g hg=>hG g (Eb _ hg)) (fun i g hi=>by
    have:=ho (i+1) g (by simpa using hi);rw[this];simp only[xe,ja,Nf];omega) h2
   refine⟨I.full f.type y::pvs, .cons ⟨y,rfl⟩ q1,?_,?_,?_⟩
   ·rw[h0]at y1;have e:(cs.drop off).take (((f::fs).map fun f=>P.cellsOf f.type).sum)=(cs.drop off).take (P.cellsOf f.type)++(cs.drop (off+P.cellsOf f.type)).take ((fs.map fun f=>P.cellsOf f.type).sum):=by rw[ja,Nf,List.take_add,We]
    rw[e,Yf];exact y1.append q2
   ·rw[Yf,lT];simp only[ja,Nf];omega
   ·rw[Yf];exact(NT _ _).2 ⟨y3,q4⟩
theorem TP{w:World}{a:Addr}{v:Value}(h:w.cell? a=some v):a.spot=none/\a.block<w.heap.size:=by
 unfold World.cell? at h;split at h
 ·rename_i c t fr hb;refine⟨?_,(Xe.1 hb).1⟩;cases hs:a.spot with
  |none=>rfl
  |some s=>rw[hs]at h;cases h
 ·cases h
theorem RP{w:World}{a:Addr}{n:Nat}{cs:List Value}(h:w.cells? 0 a n=some cs):cs.length=n/\ ∀(i:Nat) v,cs[i]? =some v->w.cell? (a.add i)=some v:=by
 unfold World.cells? at h;rw[La (Bc _)]at h;have h:=AC h;have hl:=h.len;rw[List.length_range]at hl;refine⟨hl.symm,fun i v hv=> ?_⟩;have hi:i<n:=by rw[hl];exact(Da.1 hv).1
 obtain⟨b,h1,h2⟩:=h.at (i:=i) (a:=i) (by rw[List.getElem?_range hi]);rw[hv]at h1;cases h1;exact h2
theorem jZ{a:Addr}(n m:Nat)(h:(a.add n).spot=none):(a.add n).add m=⟨a.block,a.off+n+m,none⟩/\a.block=(a.add n).block:=by
 obtain⟨b,o,s⟩:=a;by_cases hn:n=0
 ·subst hn;have e:(⟨b,o,s⟩:Addr).add 0=⟨b,o,s⟩:=La rfl;rw[e]at h ⊢;have h:s=none:=h;subst h;refine⟨?_,rfl⟩;unfold Addr.add;by_cases hm:m=0
  ·subst hm;rw[La rfl];rfl
  ·rw[Ga hm];rfl
 ·have e:(⟨b,o,s⟩:Addr).add n=⟨b,o+n,none⟩:=Ga hn;rw[e];refine⟨?_,rfl⟩;unfold Addr.add;by_cases hm:m=0
  ·subst hm;rw[La rfl];rfl
  ·rw[Ga hm]
theorem AL {w:World} {e k:Nat} {a:Addr} {H:Type} {D:List Value->Option (DataW H×List MemPlace)} (hk:0<k)
  (hD: ∀cs d ps,D cs=some (d,ps)-> ∃x:I.C e,Bh w cs (I.full e x)/\jg (I.full e x)<=bk d/\Li (I.full e x)) (hI: ∀x:I.C e,(I.full e x).length=k):
  ∀(n s:Nat) (r:List (DataW H×List MemPlace)),All2 (fun i x=>(w.cells? 0 (a.add (i*k)) k).bind D=some x) (List.range' s n) r->
   ∃l:List (I.C e),l.length=n/\Jp (l.map (I.full e))<=((r.map (·.1)).map bk).sum/\WE (l.map (I.full e))/\
    ∀(i:Nat) x (j:Nat) pv,l[i]? =some x->(I.full e x)[j]? =some pv-> ∃v,w.cell? ⟨a.block,a.off+(s+i)*k+j,none⟩=some v/\RepP (fun b=>b<w.heap.size) w pv v/\v.oneCell'=true
 |0,s,r,h=>by
  cases h;exact⟨[],rfl,by simp[Jp],trivial,fun i x j pv h=>by cases h⟩
 |n+1,s,r,h=>by
  rw[List.range'_succ]at h;cases h with
  | @cons _ x _ r' h1 h2=>
   obtain⟨cs,g1,g2⟩:=Ba.1 h1;obtain⟨d,ps⟩:=x;obtain⟨y,y1,y2,y3⟩:=hD cs d ps g2;obtain⟨l,l1,l2,l3,l4⟩:=AL hk hD hI n (s+1) r' h2;obtain⟨c1,c2⟩:=RP g1;refine⟨y::l,by simp[l1],?_,⟨y3,l3⟩,fun i z j pv hz hp=> ?_⟩
   ·simp only[ja,Jp,Nf];omega
   ·cases i with
    |zero=>
     cases hz;have hj:j<cs.length:=by rw[y1.1];exact(Da.1 hp).1
     have hv:cs[j]? =some cs[j]:=Ja hj;obtain⟨r1,r2⟩:=y1.2 j _ _ hv hp;have hc:=c2 j _ hv;have h0:=c2 0 cs[0] (Ja (by omega));have hs0:=(TP h0).1;have hsp:(a.add (s*k)).spot=none:=by have e0:(a.add (s*k)).add 0=a.add (s*k):=La rfl;rw[e0]at hs0;exact hs0
     refine⟨_,?_,r1,r2⟩;rw[Ae,<-(jZ (s*k) j hsp).1];exact hc
    |succ i=> obtain⟨v,v1,v2,v3⟩:=l4 i z j pv hz hp;refine⟨v,?_,v2,v3⟩;rw[show s+(i+1)=s+1+i by omega];exact v1
theorem zDW{n:Int}(h1:IntKind.u8.min<=n)(h2:n<=IntKind.u8.max):[PV.at (.int .u8 (((UInt8.ofNat n.toNat).toNat:Nat):Int))]=[PV.at (.int .u8 n)]:=by
 have h1:(0:Int)<=n:=h1;have h2:n<=255:=h2;rw[UInt8.toNat_ofNat'];have:((n.toNat%2 ^ 8:Nat):Int)=n:=by omega
 rw[this]
theorem reads(hI:IpOK P I)(hG:IpRd P I G)(hb:zAt bk){H:Type}(enc:TypeId×Value->H)(w:World):
  ∀(fuel:Nat) (t:Nat) (cs:List Value) (d:DataW H) (ps:List MemPlace),G t->DataW.trod enc P w 0 (fun _=>true) true fuel t cs=some (d,ps)-> ∃x:I.C t,Bh w cs (I.full t x)/\jg (I.full t x)<=bk d/\Li (I.full t x):=by
 intro fuel
 induction fuel with
 |zero=>intro t cs d ps _ h;cases h
 |succ fuel ih=>
  intro t cs d ps hg h;simp only[DataW.trod]at h;cases hu:P.underlying t with
  |none=>rw[hu]at h;simp at h
  |some u=>
   rw[hu]at h;rcases hG.only t u hg hu with⟨k,rfl⟩|rfl|rfl|⟨e,rfl⟩|⟨fs,rfl⟩
   ·split at h<;>(try (rename_i hh;cases hh;done))<;>(try (rename_i hh _;cases hh;done))<;>(try (cases h;done));rename_i k0 k' n hh;cases hh;split at h
    ·rename_i hc;cases h;obtain⟨rfl,hwf⟩:=hc;have hwf':=hwf;simp only[Lit.wf,Ca,jb]at hwf';obtain⟨x,hx⟩:=hG.int t _ hg hu n hwf'.1 hwf'.2;refine⟨x,?_,?_,?_⟩
     ·rw[hx];exact Bh.one (.at _ rfl) rfl
     ·rw[hx];simp only[jg,bPV];exact hb.one _
     ·rw[hx];simp only[Lit.wf,Ca,jb]at hwf;exact⟨hwf,trivial⟩
    ·cases h
   ·split at h<;>(try (rename_i hh;cases hh;done))<;>(try (rename_i hh _;cases hh;done))<;>(try (cases h;done));cases h;rename_i b _;obtain⟨x,hx⟩:=hG.bool t hg hu b;refine⟨x,by rw[hx];exact Bh.one (.at _ rfl) rfl,by rw[hx];simp only[jg,bPV];exact hb.one _,by rw[hx];exact⟨trivial,trivial⟩⟩
   ·split at h<;>(try (rename_i hh;cases hh;done))<;>(try (rename_i hh _;cases hh;done))<;>(try (cases h;done));rename_i s _;split at h
    ·cases h;obtain⟨x,hx⟩:=hG.str t hg hu s.data.toList;refine⟨x,?_,?_,by rw[hx];exact⟨trivial,trivial⟩⟩
     ·rw[hx];have:Value.string s= .string ⟨s.data.toList.toArray⟩:=by cases s;simp
      rw[this];exact Bh.one (.str _) rfl
     ·rw[hx];simp only[jg,bPV,hb.str];omega
    ·cases h
   ·obtain⟨ge,hk,hmk⟩:=hG.sl t e hg hu;split at h<;>(try (rename_i hh;cases hh;done))<;>(try (rename_i hh _;cases hh;done))<;>(try (cases h;done))
    ·cases h;obtain⟨x,hx⟩:=hmk [];refine⟨x,?_,?_,by rw[hx];exact⟨trivial,trivial⟩⟩
     ·rw[hx];exact Bh.one (.sl [] none 0 0 0 0 0 (fun _ _=>undef) rfl (Ya _) (fun h=>by omega) (fun h=>by omega) (fun r hr=>by cases hr) (fun i row j x h=>by cases h) (fun i row j x h=>by cases h)) rfl
     ·rw[hx];simp only[Oc,jg,bPV,Jp];exact hb.one _
    ·rename_i e' a len cap hh;cases hh;split at h
     ·rename_i hc;obtain⟨elems,h1,h2⟩:=Ba.1 h;obtain⟨rest,h3,h4⟩:=Yb.1 h2;cases h4;have h1:=AC h1;rw[List.range_eq_range']at h1;obtain⟨l,l1,l2,l3,l4⟩:=AL (I:=I) (bk:=bk) (w:=w) (e:=e) (a:=a) hk (fun cs d ps hd=>ih e cs d ps ge hd) (fun x=>hI.len e x) len 0 elems h1;obtain⟨x,hx⟩:=hmk l;refine⟨x,?_,?_,?_⟩
      ·rw[hx];have hall: ∀i x j pv,l[i]? =some x->(I.full e x)[j]? =some pv-> ∃v,w.cell? ⟨a.block,a.off+i*P.cellsOf e+j,none⟩=some v/\RepP (fun b=>b<w.heap.size) w pv v:=fun i x j pv h1 h2=>by obtain⟨v,v1,v2,_⟩:=l4 i x j pv h1 h2;exact⟨v,by simpa using v1,v2⟩
       have hne:0<len-> ∃v,w.cell? (a.add (0*P.cellsOf e))=some v:=by intro hl;have h0:=h1.at (i:=0) (a:=0) (by rw[<-List.range_eq_range',List.getElem?_range hl]);obtain⟨b,_,hb2⟩:=h0;obtain⟨cs,g1,_⟩:=Ba.1 hb2;obtain⟨c1,c2⟩:=RP g1;have h0:=c2 0 (cs[0]'(by omega)) (Ja (by omega));have e0:(a.add (0*P.cellsOf e)).add 0=a.add (0*P.cellsOf e):=La rfl;rw[e0]at h0;exact⟨_,h0⟩
       have ha:0<len->a=⟨a.block,a.off,none⟩/\a.block<w.heap.size:=by intro hl;obtain⟨v,hv⟩:=hne hl;rw[Nat.zero_mul]at hv;have e0:a.add 0=a:=La rfl;rw[e0]at hv;obtain⟨q1,q2⟩:=TP hv;refine⟨?_,q2⟩;cases a;simp only at q1;subst q1;rfl
       refine Bh.one (.sl _ (some a) len cap (P.cellsOf e) a.block a.off (fun i j=>(w.cell? ⟨a.block,a.off+i*P.cellsOf e+j,none⟩).getD undef) (by simp[l1]) hc.2.1 (fun hl=>congrArg some (ha hl).1) (fun hl=>(ha hl).2) (fun row hr=> ?_) (fun i row j x hi hj=> ?_) (fun i row j x hi hj=> ?_)) rfl
       ·obtain⟨z,_,rfl⟩:=Ka.1 hr;exact hI.len e z
       ·rw[Ua]at hi;cases hz:l[i]? with
        |none=>rw[hz]at hi;cases hi
        |some z=> rw[hz]at hi;cases hi;obtain⟨v,v1,_⟩:=hall i z j x hz hj;rw[v1];rfl
       ·rw[Ua]at hi;cases hz:l[i]? with
        |none=>rw[hz]at hi;cases hi
        |some z=> rw[hz]at hi;cases hi;obtain⟨v,v1,v2⟩:=hall i z j x hz hj;rw[v1];exact v2
      ·rw[hx];simp only[jg,bPV];have:=hb.slice (elems.map (·.1)) (rest.map (·.1));omega
      ·rw[hx];exact⟨l3,trivial⟩
     ·cases h
   ·obtain⟨gf,ho,hsz,hmk⟩:=hG.st t fs hg hu;have h:(if cs.length=P.cellsOf t then(fs.toList.mapM fun f=>DataW.trod enc P w 0 (fun _=>true) true fuel f.type ((cs.drop f.offset).take (P.cellsOf f.type))).map fun xs=>(DataW.agg (xs.map (·.1)),xs.flatMap (·.2))else none)=some (d,ps):=by
     revert h;cases cs with
     |nil=>exact id
     |cons c cs=>
      cases cs with
      |nil=>cases c<;>exact id
      |cons c' cs=>exact id
    split at h
    ·rename_i hl;obtain⟨xs,h1,h2⟩:=Yb.1 h;cases h2;obtain⟨pvs,q1,q2,q3,q4⟩:=tQ (P:=P) (I:=I) (G:=G) (bk:=bk) (D:=DataW.trod enc P w 0 (fun _=>true) true fuel) (w:=w) (fun t cs d ps=>ih t cs d ps) cs fs.toList 0 xs gf (fun i f hi=>by rw[ho i f hi];omega) (AC h1);obtain⟨x,hx⟩:=hmk pvs q1;refine⟨x,?_,?_,by rw[hx];exact q4⟩
     ·rw[hx];rw[Cf,<-hsz,<-hl,uf]at q2;exact q2
     ·rw[hx];have:=hb.agg (xs.map (·.1));omega
    ·cases h
end
open Go.RowKit Go.ChangeShapes Go.WideShapes
section
variable {P:Program} {I:Ip}
def noA:Asg:=fun _=> .free
theorem zCn{W:World}{a:PV}{v:Value}(h:RepP (fun b=>b<W.heap.size) W a v):RepP (Dom noA W) W a v:=
 h.mono (fun b c=>⟨c,fun id k e=>by cases e⟩) (fun b _=>rfl)
theorem zD0{W:World}{r:Reach}{b:Nat}{t:TypeId}{v:Value}{u:TypeDesc}{d:PV}(hu:P.underlying t=some u)(k: ∀j,u≠ .struct j)(l: ∀n e,u≠ .array n e)(a:Value.okWide P W r b t v)(f:Bh W v.cells.toList [d]):repT noA W (.c (.p d)) v:=by
 have a:Cell.okWide P W r b t v:=by unfold Value.okWide at a;rw[hu]at a;cases u<;>first|exact a|grind|grind
 have i:v.cells= #[v]:=by
  cases v<;>first|rfl|skip
  exfalso;unfold Cell.okWide at a;rw[hu]at a;cases u<;>simp only[Cell.ok,hu]at a
 rw[i]at f;obtain⟨g,h⟩:=f.2 0 v d rfl rfl;exact⟨h,zCn g⟩
theorem NY{W:World}:Ai noA W [] #[]:=⟨rfl,fun j t h=>by cases h⟩
theorem M3{W:World}{t:TV}{ts:List TV}{v:Value}{vs:List Value}(h:repT noA W t v)(g:Ai noA W ts vs.toArray):Ai noA W (t::ts) (v::vs).toArray:=by
 refine⟨by have:=g.1;simpa using this,fun j x hx=> ?_⟩;cases j with
 |zero=>grind
 |succ j=>
  obtain⟨u,h1,h2⟩:=g.2 j x (by simpa using hx)
  grind
theorem YZ {con:Con I} (z:zn P con) (hi:con.inS.objs=[]) (t:con.outS=⟨[.bool],[]⟩) (q:con.k=0) {x:(con.inS.sl I).T} {y:(con.outS.sl I).T} (u:con.F x=some y) {b:Bool} (A:((con.outS.sl I).enc y).1=[.c (.bool b)]) (s:((con.inS.sl I).enc x).2=[]) (m:((con.outS.sl I).enc y).2=[])
  {W:World} {vs:Array Value} (w:Glob (Dom noA W) W) (a:Ai noA W (((con.inS.sl I).enc x).1.map (trT (fun i=>i) (lk []))) vs):
  Calls P con.f vs W fun e g=>e= .returned (.bool b)/\Below W.heap.size W g:=by
 have h:=z.ok x y u (fun i=>i) 0 (fun i j l=>by grind) (fun i l=>by grind) (fun j=>by rw[hi];simp);rw[s,m,A,hi,q]at h;refine(h.ok noA (fun _=>none) W 0 vs ⟨fun id o t=>by(cases t),fun id _=> .inl rfl,fun i j b k J h=>by(cases h),w⟩ (fun id _=>rfl) (fun j _=>rfl) a (fun p E=>by cases E)).mono fun e g ⟨v,D,r,G,C,d,H⟩=> ?_;have B:RepP (Dom r g) g (.at (.bool b)) v:=C.2;cases B;exact⟨D,d.os,d.tape,d.output,d.size,fun k q=>d.keep k ⟨q,fun id n e=>by cases e⟩⟩
theorem dW {H:Type} {enc:TypeId×Value->H} {f:Func} {s:ChangeSpec} {e k c h:Bool} {W u:World} {args:Array Value} {j i:List (DataW H)} {a pa:List MemPlace} {tb:TypeId}
  (y:DataW.Whole enc P f.params.toList s.vars e W args.toList j i a) (l:s.vars=[]) (v:f.resultTypes= #[tb]) (t:P.underlying tb=some .bool)
  (o:(s.fn H (j++i)).results=[.lit (.bool true)]) (z:(s.fn H (j++i)).vars=[])
  (d: ∀g:Nat->Bool,(∀p∈a,g p.block=true)->DataW.TrodAll enc P u 0 g true f.params.toList args.toList (s.fn H (j++i)).args pa)
  (w:a=pa) (D:Below W.heap.size W u):s.post enc P f e k c h W args (.bool true) u:=by
 have x: ∀p∈a,p.block<W.heap.size:=fun p m=>y.lt p m;have q: ∀p∈a,(fun b=>decide (b<W.heap.size)) p.block=true:=fun p m=>by grind
 have A: ∀(b:Nat) (g:Nat->Bool) (B:Bool),DataW.TrodAll enc P u b g B f.resultTypes.toList ((Value.bool true).resultList f.resultTypes.size) (s.fn H (j++i)).results []:=by intro b g B;rw[v,o];exact trodAll_cons_mk (shut_bool t _) trodAll_mk0
 have C: ∀g:Nat->Bool,DataW.TrodVars enc P u g s.vars (s.fn H (j++i)).vars []:=by intro g;rw[l,z];exact rfl
 refine⟨j,i,a,[],pa,[],y,A _ _ _,d _ q,C _,World.keptBut_mono (fun p m=>⟨m, .inr (.inl (by grind))⟩) (D.frame (· ∈a)),fun _=> ?_⟩;obtain⟨_,_,_,_,_,E,F⟩:=y;refine⟨ok_one v rfl (okWide_bool_mk t _),_,_,([]++pa)++[],⟨[]++pa,[],trodAll_append (d _ (fun _ _=>rfl)) (A _ _ _),C _,rfl,?_,?_⟩,?_⟩
 ·intro b n m;have r:MemPlace.cell b n∈a:=by rw[w];simpa using m
  rw[D.frozen (x _ r)];exact E b n r
 ·grind
 ·grind
theorem wR{H:Type}{enc:TypeId×Value->H}(k:laidOutB P=true){W m:World}(n:Below W.heap.size W m)(f:Nat->Bool): ∀(ts:List TypeId) (vs:List Value) (e:List (DataW H)) (ps:List MemPlace),(∀t∈ts,P.readableRec t=true/\t<P.types.size)->
  DataW.TrodAll enc P W 0 (fun _=>true) true ts vs e ps->(∀x∈ps,x.block<W.heap.size)->(∀x∈ps,f x.block=true)->DataW.TrodAll enc P m 0 f true ts vs e ps
 |[],vs,e,ps,_,h,_,_=>by
  cases vs<;>cases e<;>first|exact h|(cases h;done)
 |t::ts,vs,e,ps,l,h,b,c=>by obtain⟨v,j,d,i,p,q,rfl,rfl,rfl,o,r⟩:=trodAll_cons h;have u:=wR k n f ts j i q (fun t g=>l t (Eb _ g)) r (fun x a=>b x (Ye _ a)) (fun x a=>c x (Ye _ a));obtain⟨w,s⟩:=l t (Nb ..);exact⟨p,q,WideElems.Trod_stays k w s o (fun x a=>n.same (b x (Md _ a))) (fun x a=>c x (Md _ a)),u,rfl⟩
end
def Le{α:Type}(a b:Option α):Prop:= ∀y,a=some y->b=some y
theorem Le.rfl{α:Type}{a:Option α}:Le a a:=fun _ h=>h
theorem Le.none{α:Type}{b:Option α}:Le none b:=fun _ h=>by cases h
theorem Le.bind{α g:Type}{a c:Option α}{f d:α->Option g}(h:Le a c)(e: ∀x,Le (f x) (d x)):Le (ze a f) (ze c d):=by
 intro y b;cases a with
 |none=>cases b
 |some x=>rw[h x _root_.rfl];exact e x y b
theorem Le.bif{α:Type}{c:Bool}{a e b d:Option α}(h:Le a e)(h':Le b d):Le (bif c then a else b) (bif c then e else d):=by
 grind
theorem Le.need{α:Type}{c:Bool}{a b:Option α}(h:Le a b):Le (Lv.need c a) (Lv.need c b):=by
 cases c
 ·exact Le.rfl
 ·exact h
theorem Le.cond{α:Type}{c:Bool}{a b:Option α}{d:α}(h:Le a b):Le (zu c a d) (zu c b d):=by
 cases c
 ·exact Le.rfl
 ·exact h
theorem Le.map{α d:Type}{a c:Option α}{f:α->d}(h:Le a c):Le (Option.map f a) (Option.map f c):=by
 intro y b;cases a with
 |none=>cases b
 |some x=>rw[h x _root_.rfl];exact b
theorem Le.join{X R:Type}{a d:Option (LX X R)}{k c:X->Option R}(h:Le a d)(e: ∀x,Le (k x) (c x)):Le (zS a k) (zS d c):=by
 intro y b;cases a with
 |none=>cases b
 |some x=>
  rw[h x _root_.rfl];cases x with
  |out x=>exact e x y b
  |ret r=>exact b
def Lh(n:Nat){S X R:Type}(step:S->Option (LO S X R))(s:S)(k:X->Option R):Option R:=
 match Qn step n s with
 |some (.out x)=>k x
 |some (.ret r)=>some r
 |none=>none
theorem WM{S X R:Type}{step a:S->Option (LO S X R)}(h: ∀s,Le (step s) (a s)): ∀(n:Nat) (s:S),Le (Qn step n s) (Qn a n s)
 |0,_=>Le.none
 |n+1,s=>by
  intro y b;simp only[Qn]at b ⊢;cases c:step s with
  |none=>grind
  |some o=>
   rw[c]at b;rw[h s o c];cases o with
   |again d=>exact WM h n d y b
   |out x=>exact b
   |ret r=>exact b
theorem Le.loop{n:Nat}{S X R:Type}{step a:S->Option (LO S X R)}{s:S}{k c:X->Option R}(h: ∀s,Le (step s) (a s))(e: ∀x,Le (k x) (c x)):Le (Lh n step s k) (Zy a s c):=by
 intro y b;unfold Lh at b;cases d:Qn step n s with
 |none=>grind
 |some x=>
  rw[d]at b;rw[Ao (Om (WM h n s x d))];cases x with
  |out x=>exact e x y b
  |ret r=>exact b
theorem Le.rec{X Y:Type}{B a:(X->Option Y)->X->Option Y}(h: ∀(S c:X->Option Y),(∀x,Le (S x) (c x))-> ∀x,Le (B S x) (a c x))(n:Nat)(x:X):Le (Aj B n x) (recE a x):=by
 have b: ∀(n k:Nat),n<=k-> ∀x,Le (Aj B n x) (Aj a k x):=by
  intro n
  induction n with
  |zero=>intro k _ x;exact Le.none
  |succ n e=>
   intro k d x;cases k with
   |zero=>omega
   |succ k=>exact h _ _ (e k (by omega)) x
 intro y f;exact CL (N:=n) fun k d=>b n k d x y f
variable {I:Ip}
theorem zCG{s:Shp I}{r:VL I}{n:Nat}(h: ∀x,(r.enc x).length=n): ∀x,((VL.cons s r).enc x).length=n+1:=by obtain⟨T,u,d,e,m⟩:=s;obtain⟨f,a,c,b,g⟩:=r;cases u<;>cases a<;>intro x<;>exact congrArg (· +1) (h _)
theorem bV: ∀(l:List Sh) (x:(vlOf I l).T),((vlOf I l).enc x).length=l.length
 |[],_=>rfl
 |s::l,x=>zCG (s:=s.shp I) (bV l) x
theorem zDO(s:StSh): ∀x:(s.sl I).T,((s.sl I).enc x).1.length=s.vals.length:=by have h:=bV (I:=I) s.vals;unfold StSh.sl;revert h;generalize vlOf I s.vals=v;generalize olOf I s.objs=o;obtain⟨T,u,d,e,m⟩:=v;obtain⟨f,a,c,b,g⟩:=o;cases u<;>cases a<;>intro h x<;>exact h _
theorem zJ{Q:Con I->Prop}: ∀c∈([]:List (Con I)),Q c:=fun c h=>by cases h
theorem memC{Q:Con I->Prop}{a:Con I}{l:List (Con I)}(h:Q a)(g: ∀c∈l,Q c): ∀c∈a::l,Q c:=fun c b=>by
 grind
def chk(con:Con I)(A:Env0 I)(f:Go.Func):Bool:=Ei con&&(f.body.isSome&&(!(f.name== "runtime.NumGoroutine")&&(A.p==con.inS.objs.length&&Nat.ble con.inS.vals.length f.ntmps)))
theorem okC0 {P:Program} {T:TT} {b:List (Nat×List Kd)} (a:P.follows .mixedOrders=true) (g:IpOK P I) (n:TOK P T b) {con:Con I} {f:Go.Func} {A:Env0 I} {exS:StSh} {c:Code} {rs:List ResultVar} (q:c=match f.body with|some c=>c|none=> .skip) (i:rs=f.results.toList)
  (e: ∀c∈A.S,zn P c) (l:P.funcs[con.f]? =some f) (h:chk con A f=true) (m: ∀x,evF2 A T b f.ntmps rs c con exS x=con.F x):zn P con:=by
 unfold chk at h;simp only[Ca]at h;obtain⟨d,o,k,j,p⟩:=h;refine zn8 (exS:=exS) a g e d n l ?_ ?_ (by simpa using k) (Rb.1 j) (fun x=>by rw[zDO];simp_all) (fun x y h=>(m x).trans h)
 ·grind
 ·rw[i]
section
variable {P:Program} {I:Ip}
theorem M4 (hI:IpOK P I) {f t:Nat} {vals:List Sh} {F:((⟨vals,[]⟩:StSh).sl I).T->Option (List (I.C t))} (L:Ei (⟨f,⟨vals,[]⟩,[],⟨[.sl t],[]⟩,0,F⟩:Con I)=true)
  (h:zn P (⟨f,⟨vals,[]⟩,[],⟨[.own 0],[(0, .sl t)]⟩,1,F⟩:Con I)):zn P (⟨f,⟨vals,[]⟩,[],⟨[.sl t],[]⟩,0,F⟩:Con I)where
 wf:=L
 ok:=fun x y R ρ nx _ _ a8=>by
  have a0:=(h.ok x y R (fun i=>nx+i) nx (fun i j a=>absurd a (by simp)) (fun i a=>absurd a (by simp)) (fun j=>by simp)).fn;refine⟨a0,fun ι n w N vs X Q _ ha _=> ?_⟩;have hc:=h.ok x y R (fun i=>N+i) N (fun i j a=>absurd a (by simp)) (fun i a=>absurd a (by simp)) (fun j=>by simp);have hw:=wfIn hI L x;have aa:((⟨vals,[]⟩:StSh).sl I |>.enc x).2=[]:=by simpa using hw.keys
  have a4:((⟨vals,[]⟩:StSh).sl I |>.enc x).1.map (trT (fun i=>N+i) (lk ((⟨vals,[]⟩:StSh).sl I |>.enc x).2))=((⟨vals,[]⟩:StSh).sl I |>.enc x).1.map (trT ρ (lk ((⟨vals,[]⟩:StSh).sl I |>.enc x).2)):=by refine Na fun v a5=>CB fun i a=> ?_;exact absurd (hw.r1 v a5 i a) (Rf i)
  have a7:n N=none:=by
   cases hg:n N with
   |none=>rfl
   |some o=> obtain⟨b,U,_⟩:=X.live N o hg;rw[Q N (Ya _)]at U;cases U
  have a6:=hc.ok ι n w N vs X Q (fun j _=>Q _ (Uc _ _)) (by grind) (fun p hp=>by grind);refine a6.mono fun e O ⟨v,he,l,s,Z,E,q4⟩=>⟨v,he,?_⟩;obtain⟨H,J⟩: ∃H:List (I.C t),H=y:=⟨y,rfl⟩;replace s:Rel l (upd n [(N,some ⟨t,P.cellsOf t,H.map fun z=>(I.full t z).map .p,none⟩)]) O:=by subst J;exact s
  replace Z:repL l O (.v (.c (.osl N 0 H.length))) v:=by subst J;exact Z
  have m: ∀b,Dom l O b->Dom (fun id=>if id=N then .free else l id) O b:=fun b S=>⟨S.1,fun id k G=>by
   by_cases a:id=N
   ·grind
   ·simp only[Ga a]at G;exact S.2 id k G⟩
  have d: ∀id b k,(fun id=>if id=N then Slot.free else l id) id= .live b k->id≠N/\l id= .live b k:=fun id b k G=>by
   grind
  refine⟨fun id=>if id=N then .free else l id,⟨fun id o K=> ?_,fun id K=> ?_,fun i j b k k' a B=> ?_,?_⟩,?_,⟨E.os,E.tape,E.output,E.size,E.shape,fun b S=>m b (E.dom b S),E.keep,fun id hid=> ?_⟩,fun id hid _=> ?_⟩
  ·replace K:n id=some o:=K;have ab:id≠N:=fun e=>by grind
   obtain⟨b0,l0,m0⟩:=X.live id o K;obtain⟨b,l1,l2⟩:=s.live id o (by simp only[upd];grind);refine⟨b,by grind,l2.1,?_⟩;rcases l2.2 with g|⟨g0,b',V,fr,eb,g1,g2,g3,g4⟩|g
   ·exact .inl g
   ·refine .inr (.inl ⟨g0,b',V,fr,eb,g1,g2,g3,fun i A j x a B=> ?_⟩);obtain⟨u,a1,a2,a3⟩:=g4 i A j x a B;refine⟨u,a1,a2,EP m (fun q hq=> ?_) a3⟩;have W:q≠N:=by
     rcases m0.2 with⟨_,_,g⟩|⟨_,ae,a9,ad,_,_,_,_,n4⟩|⟨g,_⟩
     ·grind
     ·obtain⟨u0,_,_,n5⟩:=n4 i A j x a B;intro e;exact Ry n5 q hq (by rw[e];exact Q N (Ya _))
     ·grind
    exact⟨by simp only[Ga W];exact Ry a3 q hq,fun b k G=>(d q b k G).2⟩
   grind
  ·replace K:n id=none:=K;by_cases a:id=N
   ·grind
   ·simp only[Ga a];exact s.gone id (by simp only[upd];grind)
  ·exact s.inj i j b k k' (d i _ _ a).2 (d j _ _ B).2
  ·exact s.glob.dom m
  ·show repT _ O (.c (.p (.sl (List.map (I.full t) (y:List (I.C t)))))) v;rw[<-J];obtain⟨c1,c2⟩:=Z;refine⟨c1,?_⟩;refine Fz.sound s (D:=fun i=>i=N) m (fun id b k hd hl=> ?_) (.osl N 0 H.length _ (H.map (I.full t)) rfl (La rfl) (Xa ..) (Nat.le_of_eq ((Te _).trans (Xa ..).symm)) (fun A M=> ?_) (fun i A j x r z a B M hz=> ?_)) c2
   ·subst hd;refine⟨s.lt hl,fun Y k' G=> ?_⟩;obtain⟨U,h2⟩:=d Y _ _ G;exact U (s.inj _ _ _ _ _ h2 hl)
   ·obtain⟨z,_,rfl⟩:=Ka.1 M;exact hI.len _ _
   ·simp only[Ua,Te]at a M;cases hy:H[i]? with
    |none=>grind
    |some z'=> rw[hy]at a M;cases a;cases M;rw[Ua]at B;rw[hz]at B;cases B;exact .p _
  ·by_cases a:id=N
   ·exact absurd (Q N (Ya _)) (by grind)
   ·simp only[Ga a];exact E.slots id hid
  ·grind
end
section
variable {P:Program} {nt:Nat} {ops:List Oper}
def IsV(E:Operand->LV)(x:Operand)(t:TV):Prop:=E x= .v t\/E x= .opt true t
def Op1(P:Program)(E:Operand->LV)(get:Get)(nx:Nat)(op:Op)(val:LV)(rd:List Nat)(up:List (Nat×Option OB))(k:Nat):Prop:=
 ∃q:Prop,opR P [] E get nx op=⟨q,val,rd,up⟩/\q/\Zz [] E op=k
theorem opN{o:Oper}{s:TS}{val:LV}{rd:List Nat}{up:List (Nat×Option OB)}{k:Nat}(h:Op1 P (opd s.e) s.get s.next o.op val rd up k)(a:o.guard=none)(b: ∀d,o.dst=some d->d<nt):
  OpOK P nt ops o ⟨none,val,up,rd,s.next,k⟩ s:=by
 obtain⟨q,f,c,i⟩:=h;have:=vQ (P:=P) (nt:=nt) (ops:=ops) (o:=o) (s:=s) (g:=none) (by rw[a];rfl) b (fun _=>by rw[f];exact c)
 grind
theorem opG{o:Oper}{s:TS}{val:LV}{rd:List Nat}{up:List (Nat×Option OB)}{k:Nat}{b:Bool}(h:Op1 P (opd s.e) s.get s.next o.op val rd up k)(a:qH ops s.e o.guard=some (some b))(c: ∀d,o.dst=some d->d<nt):
  OpOK P nt ops o ⟨some b,val,up,rd,s.next,k⟩ s:=by
 obtain⟨q,i,f,j⟩:=h;have:=vQ (P:=P) (nt:=nt) (ops:=ops) (o:=o) (s:=s) (g:=some b) a c (fun _=>by rw[i];exact f)
 grind
theorem opF{o:Oper}{s:TS}(r:qH ops s.e o.guard=some (some false))(j: ∀d,o.dst=some d->d<nt)(t:TV):OpOK P nt ops o ⟨some false, .v t,[],[],s.next,0⟩ s:=by
 refine⟨j,rfl,fun q a w g c N p n m k u i=> ?_⟩;have l:qH ops g o.guard=qH ops s.e o.guard:=Ky fun t f=>k t (by
  simp only[Uh,Fe,Vb,jb]at f ⊢;exact .inr f)
 refine⟨fun h=>(by cases h),fun b h=> ?_,fun h=>absurd rfl h⟩;cases h;exact Rx m (by grind)
def Walk(P:Program)(nt:Nat)(ops:List Oper)(ρ:Nat->Nat):List Oper->List Fp->TS->(TS->Prop)->Prop
 |[],[],s,K=>K s
 |o::l,f::a,s,K=> ∃r:RO,OpOK P nt ops o r s/\r.rd=f.1.map ρ/\r.up.map (·.1)=f.2.map ρ/\Walk P nt ops ρ l a (Ze o r s) K
 |_,_,_,_=>False
theorem Walk.zs{ρ:Nat->Nat}{K:TS->Prop}: ∀{l:List Oper} {fs:List Fp} {s:TS},Walk P nt ops ρ l fs s K-> ∃zs:List (Oper×RO),zs.map (·.1)=l/\(∀(j:Nat) (o:Oper) (r:RO),zs[j]? =some (o,r)->OpOK P nt ops o r (runA (zs.take j) s))/\
   (∀(j:Nat) (o:Oper) (r:RO),zs[j]? =some (o,r)-> ∃f:Fp,fs[j]? =some f/\r.rd=f.1.map ρ/\r.up.map (·.1)=f.2.map ρ)/\K (runA zs s)
 |[],[],s,h=>⟨[],rfl,fun j o r hj=>by simp at hj,fun j o r hj=>by simp at hj,h⟩
 |[],_::_,s,h=>h.elim
 |_::_,[],s,h=>h.elim
 |o::l,f::fs,s,h=>by
  obtain⟨r,h1,h2,h2',h3⟩:=h;obtain⟨zs,h4,h5,h6,h7⟩:=h3.zs;refine⟨(o,r)::zs,by simp[h4],fun j o' r' hj=> ?_,fun j o' r' hj=> ?_,h7⟩
  ·cases j with
   |zero=>simp at hj;obtain⟨rfl,rfl⟩:=hj;exact h1
   |succ j=> have:=h5 j o' r' (by simpa using hj);simpa [runA] using this
  grind
theorem SW.reg{id:Nat}{a:Array Oper}{Q:Post}{e:Env}{lh:LH}(ρ:Nat->Nat)(c:List Fp)(h:Walk P nt a.toList ρ a.toList c ⟨e,lh.get,lh.next⟩ (fun s=>Q .normal s.e ⟨s.next,s.get⟩)):SW P nt (.region id a false) Q e lh:=by obtain⟨g,b,f,_,d⟩:=h.zs;exact UD (s0:=⟨e,lh.get,lh.next⟩) b ⟨b,f⟩ d
theorem SW.regD (hm:P.follows .mixedOrders=true) {id:Nat} {opa:Array Oper} {Q:Post} {e:Env} {lh:LH} (ρ:Nat->Nat) (N:Nat) (fs:List Fp) (hl:(fs.all fun f=>f.1.all (Nat.blt · N)&&f.2.all (Nat.blt · N))=true)
  (hρ: ∀i j,i<N->j<N->ρ i=ρ j->i=j) (hdr:Mq opa.toList fs 0 opa.toList []=true) (hfw:Au opa.toList=true)
  (h:Walk P nt opa.toList ρ opa.toList fs ⟨e,lh.get,lh.next⟩ (fun s=>Q .normal s.e ⟨s.next,s.get⟩)):SW P nt (.region id opa true) Q e lh:=by
 obtain⟨zs,h1,h2,h2',h3⟩:=h.zs;refine sQ (s0:=⟨e,lh.get,lh.next⟩) hm ⟨h1,h2⟩ (fun i k x y r q hx hy hik=> ?_) hfw h3;obtain⟨f,f1,f2,f3⟩:=h2' i x r hx;obtain⟨g,g1,g2,g3⟩:=h2' k y q hy;rcases kI (ops:=opa.toList) (fps:=fs) opa.toList 0 [] rfl (fun k=>by simp) (fun m i h=>by simp at h) hdr i k x y f g (Nq h1 hx) (Nq h1 hy) f1 g1 hik (Bc _)with h|⟨h,h'⟩
 ·exact .inl h
 refine .inr ⟨wN h,?_⟩;have hlt: ∀(f:List Nat×List Nat),f∈fs->(∀i∈f.1,i<N)/\(∀i∈f.2,i<N):=by intro f hf;have:=Ta.1 hl f hf;simp only[Ca,Ta]at this;exact⟨fun i hi=>ZJ.1 (this.1 i hi),fun i hi=>ZJ.1 (this.2 i hi)⟩
 obtain⟨a1,a2⟩:=hlt f (Va f1);obtain⟨b1,b2⟩:=hlt g (Va g1);have key: ∀{u v:List Nat},(∀i∈u,i<N)->(∀i∈v,i<N)->Gn u v=false-> ∀x∈u.map ρ,x ∉ v.map ρ:=by intro u v hu hv hi x hx hx';obtain⟨i,i1,rfl⟩:=Ka.1 hx;obtain⟨j,j1,j2⟩:=Ka.1 hx';have:=hρ i j (hu i i1) (hv j j1) j2.symm;subst this;exact fO hi i i1 j1
 simp only[fpB,jd]at h';unfold VV;rw[f2,f3,g2,g3];refine⟨fun x hx=>⟨key a2 b1 h'.1.1 x hx,key a2 b2 h'.1.2 x hx⟩,key b2 a1 h'.2⟩
section
variable {E:Operand->LV} {get:Get} {nx:Nat}
theorem Al{x:Operand}{t:TV}{k:TV->Res}{q:Prop}{v:LV}{rd:List Nat}{up:List (Nat×Option OB)}(h:IsV E x t)(c:k t=⟨q,v,rd,up⟩)(b:q): ∃a,Zu (E x) k=⟨a,v,rd,up⟩/\a:=by
 rcases h with h|h
 ·rw[h];exact⟨q,c,b⟩
 ·rw[h];exact⟨true=true/\q,by simp only[Zu,c],rfl,b⟩
theorem xC{x y:Operand}{t u:TV}{k:TV->TV->Res}{q:Prop}{v:LV}{rd:List Nat}{up:List (Nat×Option OB)}(h:IsV E x t)(h2:IsV E y u)(d:k t u=⟨q,v,rd,up⟩)(f:q):
  ∃c,(Zu (E x) fun a=>Zu (E y) fun b=>k a b)=⟨c,v,rd,up⟩/\c:=by
 obtain⟨i,e,g⟩:=Al (k:=fun b=>k t b) h2 d f;exact Al (k:=fun a=>Zu (E y) fun b=>k a b) h e g
theorem Op1.move(x:Operand):Op1 P E get nx (.move x) (E x) [] [] 0:=⟨True,rfl,trivial,rfl⟩
theorem Op1.assign(x:Operand):Op1 P E get nx (.assign x) (E x) [] [] 0:=⟨True,rfl,trivial,rfl⟩
theorem Op1.load{t id row cell:Nat}{x:Operand}{ob:OB}{cs:List CV}{c:CV}(hx:IsV E x (.c (.optr id row cell)))(hg:get id=some ob)(hr:ob.rows[row]? =some cs)(hc:cs[cell]? =some c){kd:Kd}(hk:kdOf P t=kd)(hb:kd≠ .bad:=by simp)(ha:kd.isAgg=false:=by rfl):
  Op1 P E get nx (.load t x) (.v (.c c)) [id] [] 0:=by
 obtain⟨q,h1,h2⟩:=Al (k:=fun a=>Og (ti P t) get a) hx (q:=True) (v:= .v (.c c)) (rd:=[id]) (up:=[]) (by
  have:(ti P t).kd=kd:=hk;simp only[Og,hg,hr,this,hc];cases kd<;>first|rfl|grind|(cases ha;done)) trivial
 exact⟨q,h1,h2,rfl⟩
theorem Op1.loadA{t id row cell:Nat}{x:Operand}{ob:OB}{cs:List CV}{fs:List (Nat×TypeId)}{n:Nat}(hx:IsV E x (.c (.optr id row cell)))(hg:get id=some ob)(hr:ob.rows[row]? =some cs)(hk:kdOf P t= .st fs)(hn:P.cellsOf t=n)(hc:cell+n<=cs.length):
  Op1 P E get nx (.load t x) (.v (.agg ((cs.drop cell).take n))) [id] [] 0:=by
 obtain⟨q,h1,h2⟩:=Al (k:=fun a=>Og (ti P t) get a) hx (q:=cell+(ti P t).sz<=cs.length) (v:= .v (.agg ((cs.drop cell).take n))) (rd:=[id]) (up:=[]) (by
  have:(ti P t).kd= .st fs:=hk;have h2:(ti P t).sz=n:=hn;simp only[Og,hg,hr,this,h2]) (by rw[show(ti P t).sz=n from hn];exact hc)
 exact⟨q,h1,h2,rfl⟩
theorem Op1.loadP{t:Nat}{x:Operand}{cs:List PV}{fs:List (Nat×TypeId)}{n:Nat}(hx:IsV E x (.c (.p (.ptr cs))))(hk:kdOf P t= .st fs)(hn:P.cellsOf t=n)(hc:n<=cs.length):
  Op1 P E get nx (.load t x) (.v (.agg ((cs.take n).map .p))) [] [] 0:=by
 obtain⟨q,h1,h2⟩:=Al (k:=fun a=>Og (ti P t) get a) hx (q:=(ti P t).sz<=cs.length) (v:= .v (.agg ((cs.take n).map .p))) (rd:=[]) (up:=[]) (by
  have:(ti P t).kd= .st fs:=hk;have h2:(ti P t).sz=n:=hn;simp only[Og,this,h2]) (by rw[show(ti P t).sz=n from hn];exact hc)
 exact⟨q,h1,h2,rfl⟩
theorem Op1.store{t id row cell:Nat}{x y:Operand}{d:OB}{cs:List CV}{u:TV}{n:Nat}{e:Kd}(h:IsV E x (.c (.optr id row cell)))(i:IsV E y u)(l:get id=some d)(f:d.rows[row]? =some cs)(g:kdOf P t=e)(p:P.cellsOf t=n)(hu:u.cells.length=n)(m:cell+n<=cs.length)(r:e≠ .bad:=by simp):
  Op1 P E get nx (.store t x y) .any [id] [(id,some {d with rows:=d.rows.set row (cs.take cell++u.cells++cs.drop (cell+n))})] 0:=by
 have j:(ti P t).kd=e:=g;have s:(ti P t).sz=n:=p;obtain⟨q,w,o⟩:=xC (k:=fun a b=>Qs (ti P t) get a b) h i (q:=u.cells.length=n/\cell+n<=cs.length/\e≠ .bad) (v:= .any) (rd:=[id]) (up:=[(id,some {d with rows:=d.rows.set row (cs.take cell++u.cells++cs.drop (cell+n))})]) (by
  simp only[Qs,l,f,j,s]) ⟨hu,m,r⟩
 exact⟨q,w,o,rfl⟩
theorem Op1.alloc{t n:Nat}{z:List CV}(a:Tf (ti P t).zero=z)(d:P.cellsOf t=n)(b:(ti P t).zok=true):Op1 P E get nx (.alloc t) (.v (.c (.optr nx 0 0))) [] [(nx,some ⟨t,n,[z],none⟩)] 1:=by subst a d;exact⟨_,rfl,b,rfl⟩
theorem Op1.bin{op:BinOp}{t u:Nat}{x y:Operand}{k:IntKind}{a b:Int}{val:LV}(d:IsV E x (.c (.p (.at (.int k a)))))(e:IsV E y (.c (.p (.at (.int k b)))))(j: ∀h f,binR h f op (.c (.p (.at (.int k a)))) (.c (.p (.at (.int k b))))=⟨k=k/\True,val,[],[]⟩):
  Op1 P E get nx (.binOp op t x y u) val [] [] 0:=by
 obtain⟨q,i,g⟩:=xC (k:=fun a b=>binR (Uj P t) (kdOf P t) op a b) d e (j _ _) ⟨rfl,trivial⟩;exact⟨q,i,g,rfl⟩
theorem Op1.lenO{c:Call}{x:Operand}{t id off n e:Nat}{j:OB}(a:c.callee= .builtin .len)(g:c.args.toList=[x])(i:c.argTypes.toList=[t])(d:IsV E x (.c (.osl id off n)))(f:get id=some j)(b:kdOf P t= .sl e):
  Op1 P E get nx (.call c) (.v (.c (.p (.at (.int .i64 n))))) [id] [] 0:=by
 obtain⟨q,l,h⟩:=Al (k:=fun x=>lenR get (kdOf P t) x) d (q:=True) (v:= .v (.c (.p (.at (.int .i64 n))))) (rd:=[id]) (up:=[]) (by simp only[lenR,b,f]) trivial;exact⟨q,by simp only[opR,a,g,i];exact l,h,by simp only[Zz,a]⟩
theorem Op1.lenN{c:Call}{x:Operand}{t e:Nat}(a:c.callee= .builtin .len)(f:c.args.toList=[x])(h:c.argTypes.toList=[t])(d:IsV E x (.c (.p (.at (.slice none 0 0)))))(b:kdOf P t= .sl e):
  Op1 P E get nx (.call c) (.v (.c (.p (.at (.int .i64 0))))) [] [] 0:=by
 obtain⟨q,i,g⟩:=Al (k:=fun x=>lenR get (kdOf P t) x) d (q:=True) (v:= .v (.c (.p (.at (.int .i64 0))))) (rd:=[]) (up:=[]) (by simp only[lenR,b];rfl) trivial;exact⟨q,by simp only[opR,a,f,h];exact i,g,by simp only[Zz,a]⟩
theorem Op1.lenS{c:Call}{x:Operand}{t e:Nat}{rows:List (List PV)}(a:c.callee= .builtin .len)(f:c.args.toList=[x])(h:c.argTypes.toList=[t])(d:IsV E x (.c (.p (.sl rows))))(b:kdOf P t= .sl e):
  Op1 P E get nx (.call c) (.v (.c (.p (.at (.int .i64 rows.length))))) [] [] 0:=by
 obtain⟨q,i,g⟩:=Al (k:=fun x=>lenR get (kdOf P t) x) d (q:=True) (v:= .v (.c (.p (.at (.int .i64 rows.length))))) (rd:=[]) (up:=[]) (by simp only[lenR,b];rfl) trivial;exact⟨q,by simp only[opR,a,f,h];exact i,g,by simp only[Zz,a]⟩
theorem Op1.idxO{t id off n e k:Nat}{x y:Operand}{i:Int}{o:IntKind}{f:OB}(h:IsV E x (.c (.osl id off n)))(j:IsV E y (.c (.p (.at (.int o i)))))(l:get id=some f)(g:kdOf P t= .sl e)(s:P.cellsOf e=k)(d:f.k=k)(m:0<k)(hi:0<=i/\i<n):
  Op1 P E get nx (.indexAddr t x y) (.v (.c (.optr id (off+i.toNat) 0))) [id] [] 0:=by
 obtain⟨q,u,r⟩:=xC (k:=fun a b=>Zt P get t a b) h j (q:=0<=i/\i<n/\0<P.cellsOf e/\f.k=P.cellsOf e) (v:= .v (.c (.optr id (off+i.toNat) 0))) (rd:=[id]) (up:=[]) (by simp only[Zt,g,l]) ⟨hi.1,hi.2,by grind,by rw[s,d]⟩;exact⟨q,u,r,rfl⟩
theorem Op1.idxS{t e k:Nat}{x y:Operand}{i:Int}{o:IntKind}{rows:List (List PV)}{row:List PV}(h:IsV E x (.c (.p (.sl rows))))(j:IsV E y (.c (.p (.at (.int o i)))))(f:kdOf P t= .sl e)(s:P.cellsOf e=k)(n:0<k)(hi:0<=i)(d:rows[i.toNat]? =some row)(g:row.length=k):
  Op1 P E get nx (.indexAddr t x y) (.v (.c (.p (.ptr row)))) [] [] 0:=by
 have m:=(Da.1 d).1;have l:rows.getD i.toNat []=row:=by rw[Yd,d];rfl
 obtain⟨q,u,r⟩:=xC (k:=fun a b=>Zt P get t a b) h j (q:=0<=i/\i<rows.length/\0<P.cellsOf e/\row.length=P.cellsOf e) (v:= .v (.c (.p (.ptr row)))) (rd:=[]) (up:=[]) (by simp only[Zt,f,preC,l]) ⟨hi,by omega,by grind,by rw[s,g]⟩;exact⟨q,u,r,rfl⟩
theorem Op1.fldO{t id row cell f off ty:Nat}{x:Operand}{b:List (Nat×TypeId)}{l:OB}(g:IsV E x (.c (.optr id row cell)))(h:get id=some l)(d:kdOf P t= .st b)(e:b[f]? =some (off,ty))(j:P.cellsOf ty≠0):
  Op1 P E get nx (.fieldAddr t x f) (.v (.c (.optr id row (cell+off)))) [id] [] 0:=by
 obtain⟨q,m,i⟩:=Al (k:=fun a=>ZN P get t a f) g (q:=P.cellsOf ty≠0) (v:= .v (.c (.optr id row (cell+off)))) (rd:=[id]) (up:=[]) (by simp only[ZN,d,e,h]) j;exact⟨q,m,i,rfl⟩
end
end
section
variable {P:Program} {nt:Nat} {ops:List Oper} {E:Operand->LV} {get:Get} {nx:Nat}
theorem Op1.bs1{t e n:Nat}{x:Operand}{u:TV}(j:E x= .v u)(h:kdOf P t= .sl e)(a:P.cellsOf e=n)(hu:u.cells.length=n)(o:(ti P e).zero.length=n)(l:0<n)(p:n<=16777216)(d:(ti P e).zok=true):
  Op1 P E get nx (.buildSlice t 1 #[(0,x)]) (.v (.c (.osl nx 0 1))) [] [(nx,some ⟨e,n,[u.cells],none⟩)] 1:=by
 refine⟨true=true/\1*P.cellsOf e<=16777216/\0<P.cellsOf e/\(ti P e).zok=true,?_,⟨rfl,by rw[a];omega,by rw[a];exact l,d⟩,rfl⟩;have m:Gh E [(0,x)]=some (true,[(0,u.cells)]):=by simp only[Gh,j]
 have b:(Tf (ti P e).zero).length=n:=by unfold Tf;rw[Xa];exact o
 have f:Fh (fun i=>some (i*P.cellsOf e,P.cellsOf e)) [(0,u.cells)] (List.replicate 1 (Tf (ti P e).zero)).flatten=some u.cells:=by simp only[Fh,Nat.zero_mul,a,hu,Te,List.replicate_one,Yf,List.flatten_nil,Bb,b,Ya,and_self,yc,ug,Mc];rw[Ue (by omega),Bb]
 have g:chunks (P.cellsOf e) 1 u.cells=[u.cells]:=by simp only[chunks,a];rw[Od (by omega)]
 have k:=f;rw[a]at g;simp only[opR,qQ,m,h,f];rw[a,g]
theorem Ll{id:Nat}{a:OB}{row:List CV}(d:get id=some a)(b:a.rows=[row]):rowsOf get (.c (.osl id 0 1))=some ([row],[id]):=by simp only[rowsOf,d,b,Cf];rfl
theorem Op1.appO {c:Call} {s x:Operand} {ts tx e A n m id a:Nat} {b d:OB} {row:List CV} (l:c.callee= .builtin .append) (w:c.args.toList=[s,x]) (q:c.argTypes.toList=[ts,tx]) (K:E s= .v (.c (.osl id 0 m))) (u:E x= .v (.c (.osl a 0 1)))
  (F:get id=some b) (f:get a=some d) (G:d.rows=[row]) (z:row.length=n) (B:kdOf P ts= .sl e) (i:kdOf P tx= .sl A) (p:P.cellsOf e=n) (J:0<n) (C:b.k=n) (j:b.ty=e) (H:m<=b.rows.length) (D:d.k=n)
  (y:(m+1)*(ti P e).by_<=140737488355328) (t:m+1<=140737488355328) (g:(ti P e).zok=true):
  Op1 P E get nx (.call c) (.v (.c (.osl nx 0 (m+1)))) [id,a] [(id,none),(nx,some ⟨e,n,b.rows.take m++[row],none⟩)] 1:=by
 refine⟨b.k=P.cellsOf e/\b.ty=e/\m<=b.rows.length/\appQ P get e tx [row] (.c (.osl a 0 1)) m,?_,⟨by grind,j,H,by rw[p];exact J,fun r h=>by grind,y,t,fun o L=> ?_,by rw[i];trivial,g⟩,by simp only[Zz,l]⟩
 ·simp only[opR,l,w,q,K,u,Zu,z8,B,Ll f G,F,p];rfl
 grind
theorem Op1.appF {c:Call} {s x:Operand} {ts tx e r n m id b:Nat} {rows:List (List CV)} {a:OB} {row:List CV} (w:c.callee= .builtin .append) (p:c.args.toList=[s,x]) (j:c.argTypes.toList=[ts,tx]) (C:E s= .v (.c (.osl id 0 m))) (o:E x= .v (.c (.osl b 0 1)))
  (u:get id=some ⟨e,n,rows,none⟩) (d:get b=some a) (z:a.rows=[row]) (f:row.length=n) (t:kdOf P ts= .sl e) (i:kdOf P tx= .sl r) (y:P.cellsOf e=n) (B:0<n) (A:rows.length=m) (g:a.k=n)
  (q:(m+1)*(ti P e).by_<=140737488355328) (l:m+1<=140737488355328) (h:(ti P e).zok=true):
  Op1 P E get nx (.call c) (.v (.c (.osl nx 0 (m+1)))) [id,b] [(id,none),(nx,some ⟨e,n,rows++[row],none⟩)] 1:=by
 have:=Op1.appO (P:=P) (nx:=nx) w p j C o u d z f t i y B rfl rfl (Nat.le_of_eq A.symm) g q l h
 grind
theorem Op1.appN {c:Call} {s x:Operand} {ts tx e w n a:Nat} {b:OB} {row:List CV} (i:c.callee= .builtin .append) (q:c.args.toList=[s,x]) (l:c.argTypes.toList=[ts,tx]) (C:E s= .v (.c (.p (.at (.slice none 0 0))))) (m:E x= .v (.c (.osl a 0 1)))
  (d:get a=some b) (A:b.rows=[row]) (u:row.length=n) (y:kdOf P ts= .sl e) (g:kdOf P tx= .sl w) (j:P.cellsOf e=n) (B:0<n) (z:b.k=n)
  (t:(ti P e).by_<=140737488355328) (f:(ti P e).zok=true):
  Op1 P E get nx (.call c) (.v (.c (.osl nx 0 1))) [a] [(nx,some ⟨e,n,[row],none⟩)] 1:=by
 refine⟨appQ P get e tx [row] (.c (.osl a 0 1)) 0,?_,⟨by rw[j];exact B,fun r h=>by grind,by simpa using t,by simp,fun o D=> ?_,by rw[g];trivial,f⟩,by simp only[Zz,i]⟩
 ·simp only[opR,i,q,l,C,m,Zu,z8,y,Ll d A,j];rfl
 grind
theorem Op1.cutO{t e n k id:Nat}{x y:Operand}{h:Int}{b:OB}(i:E x= .v (.c (.osl id 0 n)))(l:E y= .v (.c (.p (.at (.int .i64 h)))))(m:get id=some b)(g:kdOf P t= .sl e)(d:P.cellsOf e=k)(j:0<k)(a:b.k=k)(f:0<=h/\h<=n):
  Op1 P E get nx (.slice t x none (some y) none) (.v (.c (.osl id 0 h.toNat))) [id] [] 0:=by
 refine⟨(true&&true&&true)=true/\((none:Option Int)≠none->(some h)≠none)/\((0:Int)<=0/\0<=h/\h<=n/\(n:Int)<=n/\0<P.cellsOf e/\b.k=P.cellsOf e),?_,⟨rfl,fun h=>absurd rfl h,by omega,f.1,f.2,by omega,by rw[d];exact j,by rw[d,a]⟩,rfl⟩;simp only[opR,i,Zu,bndR,l,Pg,g,m];simp
theorem Op1.loadW{t id row:Nat}{x:Operand}{a:OB}{cs:List CV}{e:List (Nat×TypeId)}{n:Nat}(d:IsV E x (.c (.optr id row 0)))(f:get id=some a)(h:a.rows[row]? =some cs)(b:kdOf P t= .st e)(g:P.cellsOf t=n)(i:cs.length=n):
  Op1 P E get nx (.load t x) (.v (.agg cs)) [id] [] 0:=by
 have:=Op1.loadA (P:=P) (nx:=nx) d f h b g (by omega)
 grind
theorem Op1.storeX {t ty kk id row:Nat} {x y:Operand} {rows a:List (List CV)} {cs:List CV} {u:TV} {n:Nat} {b:Kd} (e:IsV E x (.c (.optr id row 0))) (f:IsV E y u) (g:get id=some ⟨ty,kk,rows,none⟩) (j:rows[row]? =some cs) (d:kdOf P t=b) (h:P.cellsOf t=n)
  (l:cs.length=n) (hu:u.cells.length=n) (k:rows.set row u.cells=a) (i:b≠ .bad:=by simp):Op1 P E get nx (.store t x y) .any [id] [(id,some ⟨ty,kk,a,none⟩)] 0:=by
 have:=Op1.store (P:=P) (nx:=nx) e f g j d h hu (by omega) i
 grind
theorem Op1.idxL{t id n e k j:Nat}{x y:Operand}{l:IntKind}{d:OB}(g:IsV E x (.c (.osl id 0 n)))(h:IsV E y (.c (.p (.at (.int l ((j:Nat):Int))))))(i:get id=some d)(f:kdOf P t= .sl e)(m:P.cellsOf e=k)(a:d.k=k)(b:0<k)(hi:j<n):
  Op1 P E get nx (.indexAddr t x y) (.v (.c (.optr id j 0))) [id] [] 0:=by
 have:=Op1.idxO (P:=P) (nx:=nx) g h i f m a b ⟨by omega,by omega⟩
 grind
theorem Op1.pick{c a b:Operand}{x y z:Bool}{ga gb:Bool}(g:E c= .v (.c (.p (.at (.bool z)))))(d:Pj (E a)=(ga,some x))(e:Pj (E b)=(gb,some y))(f:z=true->ga=true)(h2:z=false->gb=true):
  Op1 P E get nx (.pick c a b) (.v (.c (.p (.at (.bool (cond z x y)))))) [] [] 0:=by
 refine⟨(z=true->ga=true)/\(z=false->gb=true),?_,⟨f,h2⟩,rfl⟩;simp only[opR,Jk,g,Zu,isBool,d,e,preC]
end
section
variable {P:Program} {nt:Nat} {ops:List Oper}
theorem fw {Q:Exit->Act->World->Prop} {c:Nat} {b:Array Bool} {a:Act} {w:World} (d:Nat) (f:Oper) (p:b.getD d true=false) (h2:ops[d]? =some f) (n: ∀i∈direct f,b.getD i false=true)
  (h: ∀j o,ops[j]? =some o->b.getD j true=false->(∀i∈direct o,b.getD i false=true)->
   if Region.wanted o (yielded ops.toArray a.tmps)=true then o.wp P a w (wpAny P .any ops.toArray Q c (b.setIfInBounds j true)) Q else wpAny P .any ops.toArray Q c (b.setIfInBounds j true) (a.put o.dst undef) w):
  wpAny P .any ops.toArray Q (c+1) b a w:=by
 refine⟨fun g=> ?_,fun j k=> ?_⟩
 ·exfalso;have:d∈Region.ready .any ops.toArray b:=by rw[mem_ready];refine⟨p,f,by simpa using h2,fun s e q=>n _ ?_⟩;simp only[direct,Ka,Gd];exact⟨s,⟨by simpa using e,q⟩,rfl⟩
  grind
 ·rw[mem_ready]at k;obtain⟨l,o,r,t⟩:=k;have:=h j o (by simpa using r) l (fun i m=>by
   simp only[direct,Ka,Gd]at m
   grind)
  unfold wpOp
  grind
theorem SW.anyBool (hm:P.follows .mixedOrders=true) {id:Nat} {o0 o1 o2 o3:Oper} {e:Env} {lh:LH} {Q:Post} (d0:direct o0=[]) (d1:direct o1=[0]) (d2:direct o2=[0]) (d3:direct o3=[0,0,1,2])
  {r0 r1 r2 r1' r2' r3 r3':RO} (h0:OpOK P nt [o0,o1,o2,o3] o0 r0 ⟨e,lh.get,lh.next⟩)
  (h1:OpOK P nt [o0,o1,o2,o3] o1 r1 (Ze o0 r0 ⟨e,lh.get,lh.next⟩)) (h2:OpOK P nt [o0,o1,o2,o3] o2 r2 (Ze o1 r1 (Ze o0 r0 ⟨e,lh.get,lh.next⟩)))
  (h3:OpOK P nt [o0,o1,o2,o3] o3 r3 (Ze o2 r2 (Ze o1 r1 (Ze o0 r0 ⟨e,lh.get,lh.next⟩))))
  (h2':OpOK P nt [o0,o1,o2,o3] o2 r2' (Ze o0 r0 ⟨e,lh.get,lh.next⟩)) (h1':OpOK P nt [o0,o1,o2,o3] o1 r1' (Ze o2 r2' (Ze o0 r0 ⟨e,lh.get,lh.next⟩)))
  (h3':OpOK P nt [o0,o1,o2,o3] o3 r3' (Ze o1 r1' (Ze o2 r2' (Ze o0 r0 ⟨e,lh.get,lh.next⟩))))
  (hQ:Q .normal (Ze o3 r3 (Ze o2 r2 (Ze o1 r1 (Ze o0 r0 ⟨e,lh.get,lh.next⟩)))).e ⟨(Ze o3 r3 (Ze o2 r2 (Ze o1 r1 (Ze o0 r0 ⟨e,lh.get,lh.next⟩)))).next,(Ze o3 r3 (Ze o2 r2 (Ze o1 r1 (Ze o0 r0 ⟨e,lh.get,lh.next⟩)))).get⟩)
  (hQ':Q .normal (Ze o3 r3' (Ze o1 r1' (Ze o2 r2' (Ze o0 r0 ⟨e,lh.get,lh.next⟩)))).e ⟨(Ze o3 r3' (Ze o1 r1' (Ze o2 r2' (Ze o0 r0 ⟨e,lh.get,lh.next⟩)))).next,(Ze o3 r3' (Ze o1 r1' (Ze o2 r2' (Ze o0 r0 ⟨e,lh.get,lh.next⟩)))).get⟩):
  SW P nt (.region id #[o0,o1,o2,o3] true) Q e lh:=by
 intro ι a w hN;refine wp_region_any hm ?_;have st:Stp ι w ι {w with drawn:=w.drawn+1}:=⟨rfl,rfl,rfl,Ya _,fun _ _ h=>h,fun _ h=>h,fun _ _=>rfl,fun _ _=> .inl rfl⟩;have hN1:Now ι nt e lh a {w with drawn:=w.drawn+1}:=⟨⟨fun id o ho=>let⟨b,h1,h2⟩:=hN.rel.live id o ho;⟨b,h1,h2.step st (fun _ _=>rfl)⟩,hN.rel.gone,hN.rel.inj,hN.rel.glob.step st⟩,hN.free,hN.env.step st⟩;have sk0:StK lh.next ι w ι {w with drawn:=w.drawn+1}:=⟨st,fun id _ h=>h⟩;have nle: ∀(o:Oper) (r:RO) (s:TS),s.next<=(Ze o r s).next:=fun o r s=>Uc _ _;show wpAny P .any [o0,o1,o2,o3].toArray _ 4 #[false,false,false,false] a {w with drawn:=w.drawn+1};generalize ({w with drawn:=w.drawn+1}:World)=w1 at hN1 sk0;have last: ∀(s:TS) (o:Oper) (r:RO) (ι':Asg) (a':Act) (w':World),lh.next<=s.next->Now ι' nt s.e ⟨s.next,s.get⟩ a' w'->StK lh.next ι w ι' w'->OpOK P nt [o0,o1,o2,o3] o3 r s->Q .normal (Ze o3 r s).e ⟨(Ze o3 r s).next,(Ze o3 r s).get⟩->
   wpAny P .any [o0,o1,o2,o3].toArray (fun x a' w'=> ∃ι' e' lh',Q x e' lh'/\Now ι' nt e' lh' a' w'/\StK lh.next ι w ι' w'/\lh.next<=lh'.next) 1 #[true,true,true,false] a' w':=by
  intro s o r ι' a' w' hle hN' hsk hok hq;refine fw 3 o3 rfl rfl (by rw[d3];simp) fun j o ho hl _=> ?_;rcases j with _|_|_|_|j
  ·cases hl
  ·cases hl
  ·cases hl
  ·cases ho;refine hok.step hN' fun ι'' a'' w'' k1 k2=> ?_;show wpAny P .any [o0,o1,o2,o3].toArray _ 0 #[true,true,true,true] a'' w'';refine⟨?_,ι'',_,_,hq,k1,hsk.trans k2 hle,Lb hle (nle o3 r s)⟩;rw[yf];intro j hj;rw[mem_ready]at hj;obtain⟨hj,oo,hoo,_⟩:=hj;have:j<4:=by have:=(Xe.1 hoo).1;simpa using this
   rcases j with _|_|_|_|j
   ·cases hj
   ·cases hj
   ·cases hj
   ·cases hj
   ·omega
  ·simp at ho
 refine fw 0 o0 rfl rfl (by rw[d0];simp) fun j o ho hl hd=> ?_;rcases j with _|_|_|_|j
 ·cases ho;refine h0.step hN1 fun ι1 a1 w1' n1 k1=> ?_;show wpAny P .any [o0,o1,o2,o3].toArray _ 3 #[true,false,false,false] a1 w1';have K1:=sk0.trans k1 (Ya lh.next);refine fw 1 o1 rfl rfl (by rw[d1];simp) fun j o ho hl hd=> ?_;rcases j with _|_|_|_|j
  ·cases hl
  ·cases ho;refine h1.step n1 fun ι2 a2 w2 n2 k2=> ?_;show wpAny P .any [o0,o1,o2,o3].toArray _ 2 #[true,true,false,false] a2 w2;have K2:=K1.trans k2 (nle o0 r0 ⟨e,lh.get,lh.next⟩);refine fw 2 o2 rfl rfl (by rw[d2];simp) fun j o ho hl hd=> ?_;rcases j with _|_|_|_|j
   ·cases hl
   ·cases hl
   ·cases ho;refine h2.step n2 fun ι3 a3 w3 n3 k3=> ?_;show wpAny P .any [o0,o1,o2,o3].toArray _ 1 #[true,true,true,false] a3 w3;exact last _ o3 r3 ι3 a3 w3 (Lb (nle o0 r0 ⟨e,lh.get,lh.next⟩) (Lb (nle o1 r1 _) (nle o2 r2 _))) n3 (K2.trans k3 (Lb (nle o0 r0 ⟨e,lh.get,lh.next⟩) (nle o1 r1 _))) h3 hQ
   ·simp_all
   ·simp at ho
  ·cases ho;refine h2'.step n1 fun ι2 a2 w2 n2 k2=> ?_;show wpAny P .any [o0,o1,o2,o3].toArray _ 2 #[true,false,true,false] a2 w2;have K2:=K1.trans k2 (nle o0 r0 ⟨e,lh.get,lh.next⟩);refine fw 1 o1 rfl rfl (by rw[d1];simp) fun j o ho hl hd=> ?_;rcases j with _|_|_|_|j
   ·cases hl
   ·cases ho;refine h1'.step n2 fun ι3 a3 w3 n3 k3=> ?_;show wpAny P .any [o0,o1,o2,o3].toArray _ 1 #[true,true,true,false] a3 w3;exact last _ o3 r3' ι3 a3 w3 (Lb (nle o0 r0 ⟨e,lh.get,lh.next⟩) (Lb (nle o2 r2' _) (nle o1 r1' _))) n3 (K2.trans k3 (Lb (nle o0 r0 ⟨e,lh.get,lh.next⟩) (nle o2 r2' _))) h3' hQ'
   ·cases hl
   ·simp_all
   ·simp at ho
  ·simp_all
  ·simp at ho
 ·simp_all
 ·simp_all
 ·simp_all
 ·simp at ho
end
section
variable {P:Program} {nt:Nat} {ops:List Oper} {ρ:Nat->Nat} {K:TS->Prop}
theorem Walk.n {o:Oper} {l:List Oper} {f:Fp} {b:List Fp} {e:Env} {get:Get} {nx k d:Nat} {val:LV} {rd:List Nat} {up:List (Nat×Option OB)} (h:Op1 P (opd e) get nx o.op val rd up k) (a:o.dst=some d) (j:Nat.blt d nt=true) (c:o.guard=none)
  (h2:rd=f.1.map ρ) (g:up.map (·.1)=f.2.map ρ) (i:Walk P nt ops ρ l b ⟨(d,val)::e,upd get up,nx+k⟩ K):Walk P nt ops ρ (o::l) (f::b) ⟨e,get,nx⟩ K:=
 ⟨_,opN h c (fun m p=>by simp_all),h2,g,by unfold Ze;rw[a];exact i⟩
theorem Walk.n0 {o:Oper} {l:List Oper} {f:Fp} {b:List Fp} {e:Env} {get:Get} {nx k:Nat} {val:LV} {rd:List Nat} {up:List (Nat×Option OB)} (h:Op1 P (opd e) get nx o.op val rd up k) (a:o.dst=none) (c:o.guard=none)
  (h2:rd=f.1.map ρ) (d:up.map (·.1)=f.2.map ρ) (g:Walk P nt ops ρ l b ⟨e,upd get up,nx+k⟩ K):Walk P nt ops ρ (o::l) (f::b) ⟨e,get,nx⟩ K:=
 ⟨_,opN h c (fun i j=>by grind),h2,d,by unfold Ze;rw[a];exact g⟩
theorem Walk.end{e:Env}{get:Get}{nx:Nat}(h:K ⟨e,get,nx⟩):Walk P nt ops ρ [] [] ⟨e,get,nx⟩ K:=h
theorem upK{get:Get}{id j:Nat}{o:Option OB}{x:Option OB}(a:get id=x)(h:id≠j):upd get [(j,o)] id=x:=by simp only[upd];grind
theorem upK2{get:Get}{id j a:Nat}{o b:Option OB}{x:Option OB}(c:get id=x)(h:id≠j)(h2:id≠a):upd get [(j,o),(a,b)] id=x:=by simp only[upd];grind
theorem upS{get:Get}{j:Nat}{o:Option OB}:upd get [(j,o)] j=o:=La rfl
theorem upS2{get:Get}{j a:Nat}{o b:Option OB}(h:a≠j):upd get [(j,o),(a,b)] a=b:=by
 show(if a=j then o else if a=a then b else get a)=b
 grind
end
theorem Mi{l:List Nat}(h:l.Nodup): ∀i j,i<l.length->j<l.length->l.getD i 0=l.getD j 0->i=j:=by
 intro i j c b e;rw[Yd,Yd,Ja c,Ja b]at e;have e:l[i]=l[j]:=e;have a:=List.pairwise_iff_getElem.1 h
 grind
theorem at1{get:Get}{i j:Nat}{a b:OB}(hi:get i=some a)(c:get j=some b)(h:Nat.beq a.ty b.ty=false):i≠j:=fun e=>by simp_all
end Go.Lv
