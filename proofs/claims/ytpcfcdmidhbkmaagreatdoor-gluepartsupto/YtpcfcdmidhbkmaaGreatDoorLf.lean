/- The primitives of the plain texts of functions, and their laws. -/
import Derived.Test.YtpcfcdmidhbkmaaGreatDoorLa
import Derived.IntWalk
import Derived.Lib.Index
import Derived.Lib.IndexMore
import Derived.Lib.IndexAny
import Derived.Lib.SlTrimSet
import Derived.Lib.TrimByte
import Derived.Lib.ItoaNum
import Derived.Test.YtpcfcdmidhbkmaaGreatDoorLe
import Derived.Below
import Derived.Lib.Strings
import Derived.Lib.Bytealg
import GoSem.ClaimChange
import Derived.ChangeSame
import Derived.Carry
import Derived.ProofKit
import Derived.OpenShut
set_option linter.unusedSimpArgs false
set_option linter.unusedVariables false
namespace Go.Lv
abbrev Str:=List UInt8
abbrev w8(n:Int):Int:=IntKind.i8.wrap n
abbrev w32(n:Int):Int:=IntKind.i32.wrap n
abbrev w64(n:Int):Int:=IntKind.i64.wrap n
abbrev wu8(n:Int):Int:=IntKind.u8.wrap n
abbrev wu32(n:Int):Int:=IntKind.u32.wrap n
abbrev wu64(n:Int):Int:=IntKind.u64.wrap n
def Ah(k:IntKind)(x y:Int):Int:=k.wrap (BitVec.ofInt k.bits x &&& BitVec.ofInt k.bits y).toNat
def ibOr(k:IntKind)(x y:Int):Int:=k.wrap (BitVec.ofInt k.bits x ||| BitVec.ofInt k.bits y).toNat
def Yl(k:IntKind)(x y:Int):Int:=k.wrap (x*2 ^ (min y.toNat k.bits))
def bg(k:IntKind)(x y:Int):Int:=x.fdiv (2 ^ (min y.toNat k.bits))
def Zq(n:Int):Option UInt8:=cond (decide (0<=n)&&decide (n<=255)) (some (UInt8.ofNat n.toNat)) none
theorem oW{n:Int}{b:UInt8}(h:Zq n=some b):n=((b.toNat:Nat):Int):=by
 unfold Zq at h;cases a:(decide (0<=n)&&decide (n<=255))with
 |false=>grind
 |true=> rw[a]at h;simp only[Ba,Jb]at a;injection h with h;subst h;rw[UInt8.toNat_ofNat'];omega
@[simp] theorem zvm (b : UInt8) : Zq ((b.toNat : Nat) : Int) = some b := by
 unfold Zq;have:=ma b;have h:(decide ((0:Int)<=((b.toNat:Nat):Int))&&decide (((b.toNat:Nat):Int)<=255))=true:=by simp only[Ba,Jb];omega
 rw[h];simp
abbrev ze{α a:Type}(x:Option α)(f:α->Option a):Option a:=x.bind f
noncomputable def ZP{S X R:Type}(step:S->Option (LO S X R))(s:S)(k:X->Option R):Option R:=
 (Ng step s).bind fun
 | .out x=>k x
 | .ret r=>some r
def zN{X R:Type}(m:Option (LX X R))(k:X->Option R):Option R:=
 m.bind fun
 | .out x=>k x
 | .ret r=>some r
theorem uF{S X R:Type}{step:S->Option (LO S X R)}: ∀{n m:Nat} {s:S} {x:LX X R},QH step n s=some x->n<=m->QH step m s=some x
 |0,_,_,_,h,_=>by cases h
 |n+1,0,_,_,_,a=>by omega
 |n+1,m+1,s,x,h,a=>by
  simp only[QH]at h ⊢;split at h
  ·cases h
  ·exact uF h (by omega)
  ·exact h
  ·exact h
theorem jm{S X R:Type}{step:S->Option (LO S X R)}{s:S}{x:LX X R}{n:Nat}(h:QH step n s=some x):Ng step s=some x:=by
 have a: ∃n x,QH step n s=some x:=⟨n,x,h⟩;unfold Ng;rw[dif_pos a];have b:=a.choose_spec.choose_spec;have c:=uF h (Nat.le_max_left n a.choose);have d:=uF b (Nat.le_max_right n a.choose)
 grind
theorem qO {S X R:Type} {step:S->Option (LO S X R)} (Inv:S->Prop) (a:S->Nat) (r:LX X R)
  (h: ∀s,Inv s->(∃s',step s=some (.again s')/\Inv s'/\a s'<a s)\/(∃x,step s=some (.out x)/\r= .out x)\/(∃y,step s=some (.ret y)/\r= .ret y)) {s:S} (c:Inv s):Ng step s=some r:=by
 have b: ∀(m:Nat) (s:S),a s<m->Inv s->QH step m s=some r:=by
  intro m
  induction m with
  |zero=>intro s h;omega
  |succ m d=>
   intro s e c;simp only[QH]
   grind
 exact jm (b (a s+1) s (by omega) c)
theorem qP{S X R:Type}{step:S->Option (LO S X R)}{s:S}{k:X->Option R}{x:X}(h:Ng step s=some (.out x)):ZP step s k=k x:=by unfold ZP;rw[h];rfl
theorem UF{S X R:Type}{step:S->Option (LO S X R)}{s:S}{k:X->Option R}{r:R}(h:Ng step s=some (.ret r)):ZP step s k=some r:=by unfold ZP;rw[h];rfl
@[simp] theorem zh {X R : Type} (x : X) (k : X -> Option R) : zN (some (.out x)) k = k x := rfl
@[simp] theorem zty {X R : Type} (r : R) (k : X -> Option R) : zN (some (.ret r)) k = some r := rfl
@[simp] theorem qg {R : Type} (x : Option R) : need true x = x := rfl
@[simp] theorem zU {α : Type} (x : Option α) (d : α) : zu true x d = x := rfl
@[simp] theorem ZX {α : Type} (x : Option α) (d : α) : zu false x d = some d := rfl
theorem zG{R:Type}{b:Bool}(h:b=true)(x:Option R):need b x=x:=by rw[h];rfl
def LX.go{X R:Type}(r:LX X R)(k:X->Option R):Option R:=match r with| .out x=>k x| .ret y=>some y
@[simp] theorem zBl {X R : Type} (x : X) (k : X -> Option R) : (LX.out x : LX X R).go k = k x := rfl
@[simp] theorem go_ret {X R : Type} (y : R) (k : X -> Option R) : (LX.ret y : LX X R).go k = some y := rfl
theorem gm{S X R:Type}{step:S->Option (LO S X R)}{s:S}{k:X->Option R}{r:LX X R}(h:Ng step s=some r):ZP step s k=r.go k:=by unfold ZP;rw[h];cases r<;>rfl
theorem lh{α:Type}{l:List α}{i:Nat}(h:i<l.length):geti l (i:Int)=some l[i]:=by
 unfold geti
 grind
theorem Sz{n:Int}(a: -9223372036854775808<=n)(h2:n<=9223372036854775807):IntKind.i64.wrap n=n:=IntWalk.i64_in n ⟨a,h2⟩
end Go.Lv

namespace Go.Proofs
def Cl.cleanS:List UInt8->List UInt8
 |[]=>[]
 |13::10::r=>10::Cl.cleanS r
 |c::r=>bif c==0 then 239::191::189::Cl.cleanS r else bif c==12||c==13 then 10::Cl.cleanS r else c::Cl.cleanS r
end Go.Proofs
namespace Go.Lv
def Rj(s:Str):Option (Str×Int):=some (if 4000<s.length then([],28)else(Proofs.Cl.cleanS s,0))
def short(l:Str):Bool:=decide (l.length<4294967281)
def Vg(l:Str):Bool:=l.all fun b=>decide (b.toNat<128)
def Sk(x:Str×Str):Option Int:=need (short x.1) (some (Lib.index x.1 x.2))
def cutF(x:Str×Str):Option (Str×Str×Bool):=need (short x.1) (some (Lib.cut x.1 x.2))
def Wh(x:Str×Str):Option Str:=need (short x.2&&Vg x.2) (some (Lib.trimLeftS x.1 x.2))
def ol(x:Str×Str):Option Str:=match x.2 with
 |[c]=>need (decide (c.toNat<128)&&short x.1) (some (Lib.trimRightB x.1 c))
 |_=>none
def Qw(x:Str×Str):Option Int:=need (short x.1&&short x.2&&Vg x.1&&Vg x.2) (some (Lib.indexAny x.1 x.2))
def i64B(n:Int):Bool:=decide (-9223372036854775808<=n)&&decide (n<=9223372036854775807)
def Gp(x:Int×Int):Option Str:=need (decide (x.2=10)&&i64B x.1) (some (Lib.itoa x.1))
def Tp(x:(Int×Int)×Str):Option Str:=need (decide (x.1.2=10)&&decide (0<=x.1.1)&&decide (x.1.1<=9223372036854775807)&&short x.2) (some (x.2++Lib.decDigits x.1.1.toNat))
def hexD(n:Nat):UInt8:=UInt8.ofNat (if n<10 then 48+n else 87+n)
def hexS(n:Nat):Str:=if n<16 then [hexD n]else [hexD (n / 16),hexD (n%16)]
def Rp(x:(Int×Int)×Str):Option Str:=need (decide (x.1.2=16)&&decide (0<=x.1.1)&&decide (x.1.1<256)&&short x.2) (some (x.2++hexS x.1.1.toNat))
open Go.RowKit
def Vx(x:Str×Int):Option Int:=some (Lib.indexByte x.1 x.2.toNat.toUInt8)
section
variable {I:Ip} {P:Program} {ι ι':Asg} {w w':World}
theorem jW{D:Nat->Prop}{u v:Value}(h:RepP D w (.at u) v):v=u:=by cases h;rfl
theorem EY{D:Nat->Prop}{l:List UInt8}{v:Value}(h:RepP D w (.str l) v):v= .string ⟨l.toArray⟩:=by cases h;rfl
theorem eu{T:Nat->Prop}(W:Wf ι w)(g:Below w.heap.size w w'):Stp T ι w ι w':=
 ⟨⟨fun b s h=>by rw[XG (g.block b (MK h))];exact h,fun b hb=>⟨Ac hb.1 g.size,hb.2⟩,fun b hb=>g.block b hb.1⟩,g.os,g.tape,g.output,g.size,fun _ _ _ _ _ e=>g.block _ (W.lt _ _ _ _ e).1,fun _ _=> .inl rfl,fun _ _ _=>rfl,fun _ _=>rfl,fun _ h=>h,fun b hx=>g.block b (W.xlt b (Ep hx))⟩
theorem CL(W:Wf ι w)(g:Below w.heap.size w w'):Wf ι w':=
 ⟨fun id b k n e=>let⟨h1,h2⟩:=W.lt id b k n e;⟨Ac h1 g.size,h2⟩,W.inj,W.glob.step (eu (T:=fun _=>False) W g),fun b hx=>Ac (W.xlt b hx) g.size⟩
theorem KG(h:w'=w):Below w.heap.size w w':=h▸Below.refl _ _
theorem Stp.trans{T:Nat->Prop}{ι1 ι2:Asg}{w1 w2:World}(h:Stp T ι w ι1 w1)(g:Stp T ι1 w1 ι2 w2):Stp T ι w ι2 w2:=by
 refine⟨⟨fun b s e=>g.shape b s (h.shape b s e),fun b hb=>g.dom b (h.dom b hb),fun b hb=>(g.keep b (h.dom b hb)).trans (h.keep b hb)⟩,g.os.trans h.os,g.tape.trans h.tape,g.output.trans h.output,ib h.size g.size,fun id b k n hT e=>(g.own id b k n hT ((h.fix id hT (by rw[e];simp)).trans e)).trans (h.own id b k n hT e),fun id h0=> ?_,fun id hT h0=> ?_,fun b hx=>(g.xs b (by rw[h.xs b hx];exact hx)).trans (h.xs b hx),fun b e=>h.xn b (g.xn b e),fun b hx=>(g.xkeep b (by rw[h.xs b hx];exact hx)).trans (h.xkeep b hx)⟩
 ·rcases h.slots id h0 with e|e|⟨b,k,n,rows,e1,e2,e3⟩
  ·rcases g.slots id (by rw[e];exact h0)with e'|e'|⟨b,k,n,rows,e1,e2,e3⟩
   ·exact .inl (e'.trans e)
   ·exact .inr (.inl e')
   ·exact .inr (.inr ⟨b,k,n,rows,e▸e1,e2,fun v hv=>e3 v (hv.step h.shape)⟩)
  ·rcases g.slots id (by rw[e];simp)with e'|e'|⟨_,_,_,_,e',_⟩
   ·exact .inr (.inl (e'.trans e))
   ·exact .inr (.inl e')
   ·rw[e]at e';cases e'
  ·rcases g.slots id (by rw[e2];simp)with e'|e'|⟨_,_,_,_,e',_⟩
   ·exact .inr (.inr ⟨b,k,n,rows,e1,e'.trans e2,fun v hv=>(e3 v hv).conv g.toConv⟩)
   ·exact .inr (.inl e')
   ·rw[e2]at e';cases e'
 ·rw[g.fix id hT (by rw[h.fix id hT h0];exact h0),h.fix id hT h0]
theorem Stp.wk{T T':Nat->Prop}(hT: ∀i,T i->T' i)(h:Stp T ι w ι' w'):Stp T' ι w ι' w':={h with own:=fun id b k n hn=>h.own id b k n fun ht=>hn (hT id ht),fix:=fun id hn=>h.fix id fun ht=>hn (hT id ht),xs:=fun b hb=>h.xs b (au hT hb),xkeep:=fun b hb=>h.xkeep b (au hT hb)}
theorem Done.below{w1:World}(W:Wf ι w)(g:Below w.heap.size w w1){nx:Nat}{res:OR I.C}{v:Value}(h:Done P ι w1 nx res v w'):Done P ι w nx res v w':=let⟨ι',S,r⟩:=h;⟨ι',(eu W g).trans S,r⟩
theorem Lp {f:FuncId} {fn:Go.Func} {ins outs:List Sh} {F:((⟨ins,[]⟩:StSh).sl I).T->Option ((⟨outs,[]⟩:StSh).sl I).T} (hI:IpOK P I) (hwf:Rl (⟨f,⟨ins,[]⟩,[],⟨outs,[]⟩,0,F⟩:Con I)=true) (hf:P.funcs[f]? =some fn) (hn:(fn.name== "runtime.NumGoroutine")=false) (hb:fn.body.isSome=true)
  (h: ∀x y,F x=some y-> ∀ι w vs,Wf ι w->Lg ι w (((⟨ins,[]⟩:StSh).sl I).enc x).1 vs->Calls P f vs w fun e w'=> ∃v,e= .returned v/\Below w.heap.size w w'/\RepL ι w' (resE (((⟨outs,[]⟩:StSh).sl I).enc y).1) v):zB P (⟨f,⟨ins,[]⟩,[],⟨outs,[]⟩,0,F⟩:Con I):=
 ⟨hwf,fun _ _ _=>⟨fn,hf,hn,hb⟩,fun x y hxy ι w vs W hfr _ hv=>(h x y hxy ι w vs W hv).mono fun e w' ⟨v,he,g,hr⟩=>⟨v,ι,he,eu W g,CL W g,hr,fun o ho=>(by
  have:(((⟨outs,[]⟩:StSh).sl I).enc y).2=[]:=List.map_eq_nil_iff.1 ((Nk (P:=P) hI ⟨outs,[]⟩).1 y);rw[this]at ho;cases ho),fun i _=>hfr i (Xd i)⟩⟩
theorem El{l:Str}{ts:List (ET I.C)}{vs:Array Value}{j:Nat}(h:Lg ι w ts vs)(hj:ts[j]? =some (.c (.str l))):vs[j]? =some (.string ⟨l.toArray⟩):=by obtain⟨u,hu,_,hr⟩:=h.2 j _ hj;rw[hu,EY (show RepP _ _ (.str l) u from hr)]
theorem Nt{k:IntKind}{n:Int}{ts:List (ET I.C)}{vs:Array Value}{j:Nat}(h:Lg ι w ts vs)(hj:ts[j]? =some (.c (.int k n))):vs[j]? =some (.int k n):=by obtain⟨u,hu,_,hr⟩:=h.2 j _ hj;rw[hu,jW (show RepP _ _ (.at (.int k n)) u from hr)]
theorem JR{vs:Array Value}{a:Value}(hs:vs.size=1)(h0:vs[0]? =some a):vs= #[a]:=by
 apply Array.ext
 ·simp[hs]
 ·intro i hi hi';obtain rfl:i=0:=(by omega);exact(Rb.1 h0).2
theorem Du{vs:Array Value}{a b:Value}(hs:vs.size=2)(h0:vs[0]? =some a)(h1:vs[1]? =some b):vs= #[a,b]:=by
 apply Array.ext
 ·simp[hs]
 ·intro i hi hi';have:i=0\/i=1:=by omega
  rcases this with rfl|rfl
  ·exact(Rb.1 h0).2
  ·exact(Rb.1 h1).2
theorem yo(l:Str):RepT (I:=I) ι w (.c (.str l)) (.string ⟨l.toArray⟩):=⟨rfl, .str l⟩
theorem FX (hI:IpOK P I) {f:FuncId} {fn:Go.Func} (hf:P.funcs[f]? =some fn) (hn:(fn.name== "runtime.NumGoroutine")=false) (hb:fn.body.isSome=true)
  (h: ∀(s:ByteArray) (c:Int) (w:World),Calls P f #[.string s, .int .u8 c] w fun e w'=>e= .returned (.int .i64 (Lib.indexByte s.data.toList c.toNat.toUInt8))/\w'=w):
  zB P (⟨f,⟨[.str, .int .u8],[]⟩,[],⟨[.int .i64],[]⟩,0,Vx⟩:Con I):=
 Lp hI rfl hf hn hb fun(l,c) y hxy ι w vs W hv=>by cases hxy;obtain rfl:=Du hv.1 (El (l:=l) hv rfl) (Nt (k:= .u8) (n:=c) hv rfl);exact(h ⟨l.toArray⟩ c w).mono fun e w' ⟨he,hw⟩=>⟨_,he,KG hw,qp _ _⟩
end
inductive All2 {α β:Type} (R:α->β->Prop):List α->List β->Prop where
 |nil:All2 R [] []
 |cons {a:α} {b:β} {l:List α} {m:List β} (h:R a b) (t:All2 R l m):All2 R (a::l) (b::m)
section
end
mutual
/-- How many values and letters there are. -/
def bPV:PV->Nat
 | .at _=>1
 | .str l=>l.length+1
 | .sl rows=>Ej rows+1
 | .ptr cells=>Qq cells+1
def Ej:List (List PV)->Nat
 |[]=>0
 |r::rs=>Qq r+Ej rs
def Qq:List PV->Nat
 |[]=>0
 |c::cs=>bPV c+Qq cs
end
mutual
/-- Integers are in their kind's range. -/
def okPV:PV->Prop
 | .at (.int k n)=>k.min<=n/\n<=k.max
 | .at _=>True
 | .str _=>True
 | .sl rows=>EC rows
 | .ptr cells=>Ih cells
def EC:List (List PV)->Prop
 |[]=>True
 |r::rs=>Ih r/\EC rs
def Ih:List PV->Prop
 |[]=>True
 |c::cs=>okPV c/\Ih cs
end
theorem UO: ∀(a b:List PV),Qq (a++b)=Qq a+Qq b
 |[],b=>by simp[Qq]
 |x::a,b=>by simp only[Ta,Qq,UO a b];omega
theorem OO: ∀(a b:List PV),Ih (a++b)↔Ih a/\Ih b
 |[],b=>by simp[Ih]
 |x::a,b=>by simp only[Ta,Ih,OO a b,and_assoc]
structure zwX (bk:{H:Type}->DataW H->Nat):Prop where
 one: ∀{H:Type} (d:DataW H),1<=bk d
 str: ∀{H:Type} (l:List UInt8),bk (DataW.lit (H:=H) (.string l))=l.length+1
 slice: ∀{H:Type} (a b:List (DataW H)),(a.map bk).sum+1<=bk (.slice a b)
 agg: ∀{H:Type} (a:List (DataW H)),(a.map bk).sum+1<=bk (.agg a)
structure IpRd (P:Program) (I:Ip) (G:Nat->Prop):Prop where
 int: ∀t k,G t->P.underlying t=some (.int k)-> ∀n,k.min<=n->n<=k.max-> ∃x:I.C t,I.full t x=[.at (.int k n)]
 bool: ∀t,G t->P.underlying t=some .bool-> ∀b,∃x:I.C t,I.full t x=[.at (.bool b)]
 str: ∀t,G t->P.underlying t=some .string-> ∀l,∃x:I.C t,I.full t x=[.str l]
 sl: ∀t e,G t->P.underlying t=some (.slice e)->G e/\0<P.cellsOf e/\ ∀l:List (I.C e),∃x:I.C t,I.full t x=[.sl (l.map (I.full e))]
 st: ∀t fs,G t->P.underlying t=some (.struct fs)->(∀f∈fs.toList,G f.type)/\(∀(i:Nat) f,fs.toList[i]? =some f->f.offset=((fs.toList.take i).map fun f=>P.cellsOf f.type).sum)/\P.cellsOf t=(fs.toList.map fun f=>P.cellsOf f.type).sum/\
  ∀pvs:List (List PV),All2 (fun(f:Field) p=> ∃y:I.C f.type,I.full f.type y=p) fs.toList pvs-> ∃x:I.C t,I.full t x=pvs.flatten
 only: ∀t u,G t->P.underlying t=some u->(∃k,u= .int k)\/u= .bool\/u= .string\/(∃e,u= .slice e)\/(∃fs,u= .struct fs)
def offs(P:Program):Nat->List (Nat×Nat)->Bool
 |_,[]=>true
 |off,(t,o)::r=>Nat.beq o off&&offs P (off+P.cellsOf t) r
def jr(P:Program)(t:Nat):List (Nat×Nat):=match P.underlying t with
 |some (.struct fs)=>fs.toList.map fun f=>(f.type,f.offset)
 |_=>[]
theorem vI{P:Program}: ∀{l:List (Nat×Nat)} {off:Nat},offs P off l=true-> ∀(i:Nat) p,l[i]? =some p->p.2=off+((l.take i).map fun p=>P.cellsOf p.1).sum
 |[],off,_,i,p,h=>by cases h
 |(t,o)::r,off,h,i,p,hi=>by
  simp only[offs,Ba]at h;cases i with
  |zero=>cases hi;simpa using Oa h.1
  |succ i=> have:=vI h.2 i p (by simpa using hi);rw[this];simp only[Dg,jc,List.sum_cons];omega
theorem aj{α β:Type}{R:α->β->Prop}{a:α}{l:List α}{m:List β}(h:All2 R (a::l) m): ∃b m',m=b::m'/\R a b/\All2 R l m':=by
 cases h with
 |cons h t=>exact⟨_,_,rfl,h,t⟩
theorem BF{α β:Type}{R:α->β->Prop}{m:List β}(h:All2 R [] m):m=[]:=by cases h;rfl
theorem FL{α β γ:Type}{f:α->γ}{R:γ->β->Prop}: ∀{l:List α} {m:List β},All2 (fun a b=>R (f a) b) l m->All2 R (l.map f) m
 |[],_,h=>by cases h;exact .nil
 |a::l,_,h=>by
  cases h with
  |cons h t=>exact .cons h (FL t)
theorem bA {P:Program} {I:Ip} {G:Nat->Prop} {t:Nat} {fs:Array Field} (hu:P.underlying t=some (.struct fs)) {ft:List (Nat×Nat)} (hft:jr P t=ft) (hg: ∀p∈ft,G p.1) (ho:offs P 0 ft=true)
  (hs:P.cellsOf t=(ft.map fun p=>P.cellsOf p.1).sum) (mk: ∀pvs:List (List PV),All2 (fun(p:Nat×Nat) q=> ∃y:I.C p.1,I.full p.1 y=q) ft pvs-> ∃x:I.C t,I.full t x=pvs.flatten):
  (∀f∈fs.toList,G f.type)/\(∀(i:Nat) f,fs.toList[i]? =some f->f.offset=((fs.toList.take i).map fun f=>P.cellsOf f.type).sum)/\P.cellsOf t=(fs.toList.map fun f=>P.cellsOf f.type).sum/\
  ∀pvs:List (List PV),All2 (fun(f:Field) p=> ∃y:I.C f.type,I.full f.type y=p) fs.toList pvs-> ∃x:I.C t,I.full t x=pvs.flatten:=by
 have hft:fs.toList.map (fun f=>(f.type,f.offset))=ft:=by unfold jr at hft;rw[hu]at hft;exact hft
 refine⟨fun f hf=>hg (f.type,f.offset) (by rw[<-hft];exact Kb.2 ⟨f,hf,rfl⟩),fun i f hi=> ?_,?_,fun pvs h=>mk pvs ?_⟩
 ·have:=vI ho i (f.type,f.offset) (by rw[<-hft,Ra,hi];rfl);simp only[Be]at this;rw[this,<-hft,<-Ye,List.map_map];rfl
 ·rw[hs,<-hft,List.map_map];rfl
 ·rw[<-hft];exact FL h
theorem Xy{α β:Type}{g:α->Option β}: ∀{l:List α} {r:List β},l.mapM g=some r->All2 (fun a b=>g a=some b) l r
 |[],r,h=>by simp only[List.mapM_nil,Option.pure_def,Option.some.injEq]at h;subst h;exact .nil
 |a::l,r,h=>by rw[List.mapM_cons]at h;obtain⟨b,h1,h2⟩:=Ca.1 h;obtain⟨r',h3,h4⟩:=Ca.1 h2;simp only[Option.pure_def,Option.some.injEq]at h4;subst h4;exact .cons h1 (Xy h3)
theorem All2.len{α β:Type}{R:α->β->Prop}{l:List α}{m:List β}(h:All2 R l m):l.length=m.length:=by
 induction h with
 |nil=>rfl
 |cons _ _ ih=>simp[ih]
theorem All2.at{α β:Type}{R:α->β->Prop}{l:List α}{m:List β}(h:All2 R l m): ∀{i:Nat} {a:α},l[i]? =some a-> ∃b,m[i]? =some b/\R a b:=by
 induction h with
 |nil=>intro i a h;cases h
 |cons h t ih=>
  intro i a hi;cases i with
  |zero=>cases hi;exact⟨_,rfl,h⟩
  |succ i=>exact ih hi
def Sg(w:World)(cs:List Value)(pvs:List PV):Prop:=cs.length=pvs.length/\ ∀(j:Nat) v pv,cs[j]? =some v->pvs[j]? =some pv->RepP (fun b=>b<w.heap.size) w pv v/\v.oneCell'=true
theorem Sg.one{w:World}{v:Value}{pv:PV}(h:RepP (fun b=>b<w.heap.size) w pv v)(ho:v.oneCell'=true):Sg w [v] [pv]:=by
 refine⟨rfl,fun j u q hu hq=> ?_⟩;cases j with
 |zero=>cases hu;cases hq;exact⟨h,ho⟩
 |succ j=>cases hu
theorem Sg.append{w:World}{a b:List Value}{p q:List PV}(h:Sg w a p)(g:Sg w b q):Sg w (a++b) (p++q):=by
 refine⟨by simp[h.1,g.1],fun j v pv hv hp=> ?_⟩;by_cases hj:j<a.length
 ·rw[og hj]at hv;rw[og (by rw[<-h.1];exact hj)]at hp;exact h.2 j v pv hv hp
 ·rw[List.getElem?_append_right (by omega)]at hv;rw[List.getElem?_append_right (by have:=h.1;omega),<-h.1]at hp;exact g.2 _ v pv hv hp
section
variable {P:Program} {I:Ip} {G:Nat->Prop} {bk:{H:Type}->DataW H->Nat}
theorem PN {H:Type} {D:Nat->List Value->Option (DataW H×List MemPlace)} {w:World}
  (hD: ∀t cs d ps,G t->D t cs=some (d,ps)-> ∃x:I.C t,Sg w cs (I.full t x)/\Qq (I.full t x)<=bk d/\Ih (I.full t x)) (cs:List Value):
  ∀(fs:List Field) (off:Nat) (xs:List (DataW H×List MemPlace)),(∀f∈fs,G f.type)->(∀(i:Nat) f,fs[i]? =some f->f.offset=off+((fs.take i).map fun f=>P.cellsOf f.type).sum)->
   All2 (fun(f:Field) x=>D f.type ((cs.drop f.offset).take (P.cellsOf f.type))=some x) fs xs->
   ∃pvs:List (List PV),All2 (fun(f:Field) p=> ∃y:I.C f.type,I.full f.type y=p) fs pvs/\Sg w ((cs.drop off).take ((fs.map fun f=>P.cellsOf f.type).sum)) pvs.flatten/\Qq pvs.flatten<=((xs.map (·.1)).map bk).sum/\Ih pvs.flatten
 |[],off,xs,_,_,h=>by
  cases h;refine⟨[], .nil,⟨by simp,fun j v pv hv=>by simp at hv⟩,by simp[Qq],trivial⟩
 |f::fs,off,xs,hG,ho,h=>by
  cases h with
  | @cons _ x _ xs' h1 h2=>
   obtain⟨d,ps⟩:=x;have h0:f.offset=off:=by have:=ho 0 f rfl;simpa using this
   obtain⟨y,y1,y2,y3⟩:=hD f.type _ d ps (hG f (Xb ..)) h1;obtain⟨pvs,q1,q2,q3,q4⟩:=PN hD cs fs (off+P.cellsOf f.type) xs' (fun g hg=>hG g (Fb _ hg)) (fun i g hi=>by
    have:=ho (i+1) g (by simpa using hi);rw[this];simp only[Dg,jc,List.sum_cons];omega) h2
   refine⟨I.full f.type y::pvs, .cons ⟨y,rfl⟩ q1,?_,?_,?_⟩
   ·rw[h0]at y1;have e:(cs.drop off).take (((f::fs).map fun f=>P.cellsOf f.type).sum)=(cs.drop off).take (P.cellsOf f.type)++(cs.drop (off+P.cellsOf f.type)).take ((fs.map fun f=>P.cellsOf f.type).sum):=by rw[jc,List.sum_cons,List.take_add,Je]
    rw[e,Af];exact y1.append q2
   ·rw[Af,UO];simp only[jc,List.sum_cons];omega
   ·rw[Af];exact(OO _ _).2 ⟨y3,q4⟩
theorem aM{w:World}{a:Addr}{v:Value}(h:w.cell? a=some v):a.spot=none/\a.block<w.heap.size:=by
 unfold World.cell? at h;split at h
 ·rename_i c t fr hb;refine⟨?_,(Rb.1 hb).1⟩;cases hs:a.spot with
  |none=>rfl
  |some s=>rw[hs]at h;cases h
 ·cases h
theorem YM{w:World}{a:Addr}{n:Nat}{cs:List Value}(h:w.cells? 0 a n=some cs):cs.length=n/\ ∀(i:Nat) v,cs[i]? =some v->w.cell? (a.add i)=some v:=by
 unfold World.cells? at h;rw[Ea (Xd _)]at h;have h:=Xy h;have hl:=h.len;rw[List.length_range]at hl;refine⟨hl.symm,fun i v hv=> ?_⟩;have hi:i<n:=by rw[hl];exact(Ma.1 hv).1
 obtain⟨b,h1,h2⟩:=h.at (i:=i) (a:=i) (by rw[List.getElem?_range hi]);rw[hv]at h1;cases h1;exact h2
theorem BX{a:Addr}(n m:Nat)(h:(a.add n).spot=none):(a.add n).add m=⟨a.block,a.off+n+m,none⟩/\a.block=(a.add n).block:=by
 obtain⟨b,o,s⟩:=a;by_cases hn:n=0
 ·subst hn;have e:(⟨b,o,s⟩:Addr).add 0=⟨b,o,s⟩:=Ea rfl;rw[e]at h ⊢;have h:s=none:=h;subst h;refine⟨?_,rfl⟩;unfold Addr.add;by_cases hm:m=0
  ·subst hm;rw[Ea rfl];rfl
  ·rw[Fa hm];rfl
 ·have e:(⟨b,o,s⟩:Addr).add n=⟨b,o+n,none⟩:=Fa hn;rw[e];refine⟨?_,rfl⟩;unfold Addr.add;by_cases hm:m=0
  ·subst hm;rw[Ea rfl];rfl
  ·rw[Fa hm]
theorem RI {w:World} {e k:Nat} {a:Addr} {H:Type} {D:List Value->Option (DataW H×List MemPlace)} (hk:0<k)
  (hD: ∀cs d ps,D cs=some (d,ps)-> ∃x:I.C e,Sg w cs (I.full e x)/\Qq (I.full e x)<=bk d/\Ih (I.full e x)) (hI: ∀x:I.C e,(I.full e x).length=k):
  ∀(n s:Nat) (r:List (DataW H×List MemPlace)),All2 (fun i x=>(w.cells? 0 (a.add (i*k)) k).bind D=some x) (List.range' s n) r->
   ∃l:List (I.C e),l.length=n/\Ej (l.map (I.full e))<=((r.map (·.1)).map bk).sum/\EC (l.map (I.full e))/\
    ∀(i:Nat) x (j:Nat) pv,l[i]? =some x->(I.full e x)[j]? =some pv-> ∃v,w.cell? ⟨a.block,a.off+(s+i)*k+j,none⟩=some v/\RepP (fun b=>b<w.heap.size) w pv v/\v.oneCell'=true
 |0,s,r,h=>by
  cases h;exact⟨[],rfl,by simp[Ej],trivial,fun i x j pv h=>by cases h⟩
 |n+1,s,r,h=>by
  rw[List.range'_succ]at h;cases h with
  | @cons _ x _ r' h1 h2=>
   obtain⟨cs,g1,g2⟩:=Ca.1 h1;obtain⟨d,ps⟩:=x;obtain⟨y,y1,y2,y3⟩:=hD cs d ps g2;obtain⟨l,l1,l2,l3,l4⟩:=RI hk hD hI n (s+1) r' h2;obtain⟨c1,c2⟩:=YM g1;refine⟨y::l,by simp[l1],?_,⟨y3,l3⟩,fun i z j pv hz hp=> ?_⟩
   ·simp only[jc,Ej,List.sum_cons];omega
   ·cases i with
    |zero=>
     cases hz;have hj:j<cs.length:=by rw[y1.1];exact(Ma.1 hp).1
     have hv:cs[j]? =some cs[j]:=Ua hj;obtain⟨r1,r2⟩:=y1.2 j _ _ hv hp;have hc:=c2 j _ hv;have h0:=c2 0 cs[0] (Ua (by omega));have hs0:=(aM h0).1;have hsp:(a.add (s*k)).spot=none:=by have e0:(a.add (s*k)).add 0=a.add (s*k):=Ea rfl;rw[e0]at hs0;exact hs0
     refine⟨_,?_,r1,r2⟩;rw[Nc,<-(BX (s*k) j hsp).1];exact hc
    |succ i=> obtain⟨v,v1,v2,v3⟩:=l4 i z j pv hz hp;refine⟨v,?_,v2,v3⟩;rw[show s+(i+1)=s+1+i by omega];exact v1
theorem zAY{n:Int}(h1:IntKind.u8.min<=n)(h2:n<=IntKind.u8.max):[PV.at (.int .u8 (((UInt8.ofNat n.toNat).toNat:Nat):Int))]=[PV.at (.int .u8 n)]:=by
 have h1:(0:Int)<=n:=h1;have h2:n<=255:=h2;rw[UInt8.toNat_ofNat'];have:((n.toNat%2 ^ 8:Nat):Int)=n:=by omega
 rw[this]
theorem reads(hI:IpOK P I)(hG:IpRd P I G)(hb:zwX bk){H:Type}(enc:TypeId×Value->H)(w:World):
  ∀(fuel:Nat) (t:Nat) (cs:List Value) (d:DataW H) (ps:List MemPlace),G t->DataW.trod enc P w 0 (fun _=>true) true fuel t cs=some (d,ps)-> ∃x:I.C t,Sg w cs (I.full t x)/\Qq (I.full t x)<=bk d/\Ih (I.full t x):=by
 intro fuel
 induction fuel with
 |zero=>intro t cs d ps _ h;cases h
 |succ fuel ih=>
  intro t cs d ps hg h;simp only[DataW.trod]at h;cases hu:P.underlying t with
  |none=>rw[hu]at h;simp at h
  |some u=>
   rw[hu]at h;rcases hG.only t u hg hu with⟨k,rfl⟩|rfl|rfl|⟨e,rfl⟩|⟨fs,rfl⟩
   ·split at h<;>(try (rename_i hh;cases hh;done))<;>(try (rename_i hh _;cases hh;done))<;>(try (cases h;done));rename_i k0 k' n hh;cases hh;split at h
    ·rename_i hc;cases h;obtain⟨rfl,hwf⟩:=hc;have hwf':=hwf;simp only[Lit.wf,Ba,Jb]at hwf';obtain⟨x,hx⟩:=hG.int t _ hg hu n hwf'.1 hwf'.2;refine⟨x,?_,?_,?_⟩
     ·rw[hx];exact Sg.one (.at _ rfl) rfl
     ·rw[hx];simp only[Qq,bPV];exact hb.one _
     ·rw[hx];simp only[Lit.wf,Ba,Jb]at hwf;exact⟨hwf,trivial⟩
    ·cases h
   ·split at h<;>(try (rename_i hh;cases hh;done))<;>(try (rename_i hh _;cases hh;done))<;>(try (cases h;done));cases h;rename_i b _;obtain⟨x,hx⟩:=hG.bool t hg hu b;refine⟨x,by rw[hx];exact Sg.one (.at _ rfl) rfl,by rw[hx];simp only[Qq,bPV];exact hb.one _,by rw[hx];exact⟨trivial,trivial⟩⟩
   ·split at h<;>(try (rename_i hh;cases hh;done))<;>(try (rename_i hh _;cases hh;done))<;>(try (cases h;done));rename_i s _;split at h
    ·cases h;obtain⟨x,hx⟩:=hG.str t hg hu s.data.toList;refine⟨x,?_,?_,by rw[hx];exact⟨trivial,trivial⟩⟩
     ·rw[hx];have:Value.string s= .string ⟨s.data.toList.toArray⟩:=by cases s;simp
      rw[this];exact Sg.one (.str _) rfl
     ·rw[hx];simp only[Qq,bPV,hb.str];omega
    ·cases h
   ·obtain⟨ge,hk,hmk⟩:=hG.sl t e hg hu;split at h<;>(try (rename_i hh;cases hh;done))<;>(try (rename_i hh _;cases hh;done))<;>(try (cases h;done))
    ·cases h;obtain⟨x,hx⟩:=hmk [];refine⟨x,?_,?_,by rw[hx];exact⟨trivial,trivial⟩⟩
     ·rw[hx];exact Sg.one (.sl [] none 0 0 0 0 0 (fun _ _=>undef) rfl (Va _) (fun h=>by omega) (fun h=>by omega) (fun r hr=>by cases hr) (fun i row j x h=>by cases h) (fun i row j x h=>by cases h)) rfl
     ·rw[hx];simp only[List.map_nil,Qq,bPV,Ej];exact hb.one _
    ·rename_i e' a len cap hh;cases hh;split at h
     ·rename_i hc;obtain⟨elems,h1,h2⟩:=Ca.1 h;obtain⟨rest,h3,h4⟩:=Na.1 h2;cases h4;have h1:=Xy h1;rw[List.range_eq_range']at h1;obtain⟨l,l1,l2,l3,l4⟩:=RI (I:=I) (bk:=bk) (w:=w) (e:=e) (a:=a) hk (fun cs d ps hd=>ih e cs d ps ge hd) (fun x=>hI.len e x) len 0 elems h1;obtain⟨x,hx⟩:=hmk l;refine⟨x,?_,?_,?_⟩
      ·rw[hx];have hall: ∀i x j pv,l[i]? =some x->(I.full e x)[j]? =some pv-> ∃v,w.cell? ⟨a.block,a.off+i*P.cellsOf e+j,none⟩=some v/\RepP (fun b=>b<w.heap.size) w pv v:=fun i x j pv h1 h2=>by obtain⟨v,v1,v2,_⟩:=l4 i x j pv h1 h2;exact⟨v,by simpa using v1,v2⟩
       have hne:0<len-> ∃v,w.cell? (a.add (0*P.cellsOf e))=some v:=by intro hl;have h0:=h1.at (i:=0) (a:=0) (by rw[<-List.range_eq_range',List.getElem?_range hl]);obtain⟨b,_,hb2⟩:=h0;obtain⟨cs,g1,_⟩:=Ca.1 hb2;obtain⟨c1,c2⟩:=YM g1;have h0:=c2 0 (cs[0]'(by omega)) (Ua (by omega));have e0:(a.add (0*P.cellsOf e)).add 0=a.add (0*P.cellsOf e):=Ea rfl;rw[e0]at h0;exact⟨_,h0⟩
       have ha:0<len->a=⟨a.block,a.off,none⟩/\a.block<w.heap.size:=by intro hl;obtain⟨v,hv⟩:=hne hl;rw[ve]at hv;have e0:a.add 0=a:=Ea rfl;rw[e0]at hv;obtain⟨q1,q2⟩:=aM hv;refine⟨?_,q2⟩;cases a;simp only at q1;subst q1;rfl
       refine Sg.one (.sl _ (some a) len cap (P.cellsOf e) a.block a.off (fun i j=>(w.cell? ⟨a.block,a.off+i*P.cellsOf e+j,none⟩).getD undef) (by simp[l1]) hc.2.1 (fun hl=>congrArg some (ha hl).1) (fun hl=>(ha hl).2) (fun row hr=> ?_) (fun i row j x hi hj=> ?_) (fun i row j x hi hj=> ?_)) rfl
       ·obtain⟨z,_,rfl⟩:=Kb.1 hr;exact hI.len e z
       ·rw[Ra]at hi;cases hz:l[i]? with
        |none=>rw[hz]at hi;cases hi
        |some z=> rw[hz]at hi;cases hi;obtain⟨v,v1,_⟩:=hall i z j x hz hj;rw[v1];rfl
       ·rw[Ra]at hi;cases hz:l[i]? with
        |none=>rw[hz]at hi;cases hi
        |some z=> rw[hz]at hi;cases hi;obtain⟨v,v1,v2⟩:=hall i z j x hz hj;rw[v1];exact v2
      ·rw[hx];simp only[Qq,bPV];have:=hb.slice (elems.map (·.1)) (rest.map (·.1));omega
      ·rw[hx];exact⟨l3,trivial⟩
     ·cases h
   ·obtain⟨gf,ho,hsz,hmk⟩:=hG.st t fs hg hu;have h:(if cs.length=P.cellsOf t then(fs.toList.mapM fun f=>DataW.trod enc P w 0 (fun _=>true) true fuel f.type ((cs.drop f.offset).take (P.cellsOf f.type))).map fun xs=>(DataW.agg (xs.map (·.1)),xs.flatMap (·.2))else none)=some (d,ps):=by
     revert h;cases cs with
     |nil=>exact id
     |cons c cs=>
      cases cs with
      |nil=>cases c<;>exact id
      |cons c' cs=>exact id
    split at h
    ·rename_i hl;obtain⟨xs,h1,h2⟩:=Na.1 h;cases h2;obtain⟨pvs,q1,q2,q3,q4⟩:=PN (P:=P) (I:=I) (G:=G) (bk:=bk) (D:=DataW.trod enc P w 0 (fun _=>true) true fuel) (w:=w) (fun t cs d ps=>ih t cs d ps) cs fs.toList 0 xs gf (fun i f hi=>by rw[ho i f hi];omega) (Xy h1);obtain⟨x,hx⟩:=hmk pvs q1;refine⟨x,?_,?_,by rw[hx];exact q4⟩
     ·rw[hx];rw[List.drop_zero,<-hsz,<-hl,List.take_length]at q2;exact q2
     ·rw[hx];have:=hb.agg (xs.map (·.1));omega
    ·cases h
end
open Go.RowKit Go.ChangeShapes Go.WideShapes
section
variable {P:Program} {I:Ip}
def noA:Asg:=⟨fun _=> .free,fun _=> .no⟩
theorem vP{W:World}{pv:PV}{v:Value}(h:RepP (fun b=>b<W.heap.size) W pv v):RepP (Dom noA W) W pv v:=
 h.mono (fun b hb=>⟨hb,rfl,fun id k n e=>by cases e⟩) (fun b _=>rfl)
theorem NH{W:World}{r:Reach}{base:Nat}{t:TypeId}{v:Value}{u:TypeDesc}{x:EV I.C}(hx:Mi x=true)(hu:P.underlying t=some u)(hs: ∀fs,u≠ .struct fs)(ha: ∀n e,u≠ .array n e)(hok:Value.okWide P W r base t v)(hr:Sg W v.cells.toList [pvE I x]):RepT noA W (.c x) v:=by
 have hok:Cell.okWide P W r base t v:=by unfold Value.okWide at hok;rw[hu]at hok;cases u<;>first|exact hok|exact absurd rfl (hs _)|exact absurd rfl (ha _ _)
 have hv:v.cells= #[v]:=by
  cases v<;>first|rfl|skip
  exfalso;unfold Cell.okWide at hok;rw[hu]at hok;cases u<;>simp only[Cell.ok,hu]at hok
 rw[hv]at hr;obtain⟨h1,h2⟩:=hr.2 0 v _ rfl rfl;exact⟨h2,(qM hx).2 (vP h1)⟩
theorem jU{W:World}:Lg (I:=I) noA W [] #[]:=⟨rfl,fun j t h=>by cases h⟩
theorem dM{W:World}{t:ET I.C}{ts:List (ET I.C)}{v:Value}{vs:List Value}(h:RepT noA W t v)(g:Lg noA W ts vs.toArray):Lg noA W (t::ts) (v::vs).toArray:=by
 refine⟨by have:=g.1;simpa using this,fun j x hx=> ?_⟩;cases j with
 |zero=>cases hx;exact⟨v,by simp,h⟩
 |succ j=> obtain⟨u,h1,h2⟩:=g.2 j x (by simpa using hx);exact⟨u,by simpa using h1,h2⟩
theorem kW {con:Con I} (hc:zB P con) {x:(con.inS.sl I).T} {y:(con.outS.sl I).T} (hF:con.F x=some y) {b:Bool} (hy:((con.outS.sl I).enc y).1=[.c (.bool b)]) (hin:((con.inS.sl I).enc x).2=[])
  {W:World} {vs:Array Value} (hg:Glob (Dom noA W) W) (hargs:Lg noA W ((con.inS.sl I).enc x).1 vs):
  Calls P con.f vs W fun e W'=>e= .returned (.bool b)/\Below W.heap.size W W':=by
 refine(hc.ok x y hF noA W vs ⟨fun i b k n e=>(by cases e),fun i j b k k' n n' e=>(by cases e),hg,fun b hb=>absurd rfl hb⟩ (fun _ _=>rfl) (fun o h=>by rw[hin]at h;cases h) hargs).mono fun e W' ⟨v,ι',he,S,_,hr,_,_⟩=> ?_;rw[hy]at hr;have hv:RepP (Dom ι' W') W' (.at (.bool b)) v:=hr.2;cases hv;exact⟨he,S.os,S.tape,S.output,S.size,fun k hk=>S.keep k ⟨hk,rfl,fun id k n e=>by cases e⟩⟩
theorem dV {H:Type} {enc:TypeId×Value->H} {f:Func} {s:ChangeSpec} {apart fresh handsOn again:Bool} {W W':World} {args:Array Value} {ds gs:List (DataW H)} {before pa:List MemPlace} {tb:TypeId}
  (hW:DataW.Whole enc P f.params.toList s.vars apart W args.toList ds gs before) (hvars:s.vars=[]) (hrt:f.resultTypes= #[tb]) (htb:P.underlying tb=some .bool)
  (hres:(s.fn H (ds++gs)).results=[.lit (.bool true)]) (hvs:(s.fn H (ds++gs)).vars=[])
  (hargs: ∀sp:Nat->Bool,(∀p∈before,sp p.block=true)->DataW.TrodAll enc P W' 0 sp true f.params.toList args.toList (s.fn H (ds++gs)).args pa)
  (hps:before=pa) (hb:Below W.heap.size W W'):s.post enc P f apart fresh handsOn again W args (.bool true) W':=by
 have hlt: ∀p∈before,p.block<W.heap.size:=fun p hp=>hW.lt p hp;have hold: ∀p∈before,(fun b=>decide (b<W.heap.size)) p.block=true:=fun p hp=>by simpa using hlt p hp
 have hr: ∀(b:Nat) (sp:Nat->Bool) (hd:Bool),DataW.TrodAll enc P W' b sp hd f.resultTypes.toList ((Value.bool true).resultList f.resultTypes.size) (s.fn H (ds++gs)).results []:=by intro b sp hd;rw[hrt,hres];exact trodAll_cons_mk (shut_bool htb _) trodAll_mk0
 have hv: ∀sp:Nat->Bool,DataW.TrodVars enc P W' sp s.vars (s.fn H (ds++gs)).vars []:=by intro sp;rw[hvars,hvs];exact rfl
 refine⟨ds,gs,before,[],pa,[],hW,hr _ _ _,hargs _ hold,hv _,World.keptBut_mono (fun p hp=>⟨hp, .inr (.inl (by rw[<-hps];exact hp))⟩) (hb.frame (· ∈before)),fun _=> ?_⟩;obtain⟨_,_,_,_,_,hz,hn⟩:=hW;refine⟨ok_one hrt rfl (okWide_bool_mk htb _),_,_,([]++pa)++[],⟨[]++pa,[],trodAll_append (hargs _ (fun _ _=>rfl)) (hr _ _ _),hv _,rfl,?_,?_⟩,?_⟩
 ·intro b off hp;have hin:MemPlace.cell b off∈before:=by rw[hps];simpa using hp
  rw[hb.frozen (hlt _ hin)];exact hz b off hin
 ·intro ha;have:=hn ha;rw[hps]at this;simpa using this
 ·intro p hp _;rw[hps];simpa using hp
theorem xN{H:Type}{enc:TypeId×Value->H}(hl:laidOutB P=true){W W':World}(hb:Below W.heap.size W W')(sp:Nat->Bool): ∀(ts:List TypeId) (vs:List Value) (ds:List (DataW H)) (ps:List MemPlace),(∀t∈ts,P.readableRec t=true/\t<P.types.size)->
  DataW.TrodAll enc P W 0 (fun _=>true) true ts vs ds ps->(∀x∈ps,x.block<W.heap.size)->(∀x∈ps,sp x.block=true)->DataW.TrodAll enc P W' 0 sp true ts vs ds ps
 |[],vs,ds,ps,_,h,_,_=>by
  cases vs<;>cases ds<;>first|exact h|(cases h;done)
 |t::ts,vs,ds,ps,ht,h,hlt,hsp=>by obtain⟨v,vs',d,ds',p,q,rfl,rfl,rfl,h1,h2⟩:=trodAll_cons h;have h3:=xN hl hb sp ts vs' ds' q (fun t ht'=>ht t (Fb _ ht')) h2 (fun x hx=>hlt x (Yf _ hx)) (fun x hx=>hsp x (Yf _ hx));obtain⟨r1,r2⟩:=ht t (Xb ..);exact⟨p,q,WideElems.Trod_stays hl r1 r2 h1 (fun x hx=>hb.same (hlt x (Oc _ hx))) (fun x hx=>hsp x (Oc _ hx)),h3,rfl⟩
end
def Le{α:Type}(a b:Option α):Prop:= ∀y,a=some y->b=some y
theorem Le.rfl{α:Type}{a:Option α}:Le a a:=fun _ h=>h
theorem Le.none{α:Type}{b:Option α}:Le none b:=fun _ h=>by cases h
theorem Le.bind{α g:Type}{a c:Option α}{f d:α->Option g}(h:Le a c)(e: ∀x,Le (f x) (d x)):Le (ze a f) (ze c d):=by
 intro y b;cases a with
 |none=>cases b
 |some x=>rw[h x _root_.rfl];exact e x y b
theorem Le.bif{α:Type}{c:Bool}{a e b d:Option α}(h:Le a e)(h':Le b d):Le (bif c then a else b) (bif c then e else d):=by
 grind
theorem Le.need{α:Type}{c:Bool}{a b:Option α}(h:Le a b):Le (Lv.need c a) (Lv.need c b):=by
 cases c
 ·exact Le.rfl
 ·exact h
theorem Le.cond{α:Type}{c:Bool}{a b:Option α}{d:α}(h:Le a b):Le (zu c a d) (zu c b d):=by
 cases c
 ·exact Le.rfl
 ·exact h
theorem Le.map{α d:Type}{a c:Option α}{f:α->d}(h:Le a c):Le (Option.map f a) (Option.map f c):=by
 intro y b;cases a with
 |none=>cases b
 |some x=>rw[h x _root_.rfl];exact b
theorem Le.join{X R:Type}{a d:Option (LX X R)}{k c:X->Option R}(h:Le a d)(e: ∀x,Le (k x) (c x)):Le (zN a k) (zN d c):=by
 intro y b;cases a with
 |none=>cases b
 |some x=>
  rw[h x _root_.rfl];cases x with
  |out x=>exact e x y b
  |ret r=>exact b
def Qt(n:Nat){S X R:Type}(step:S->Option (LO S X R))(s:S)(k:X->Option R):Option R:=
 match QH step n s with
 |some (.out x)=>k x
 |some (.ret r)=>some r
 |none=>none
theorem vJ{S X R:Type}{step a:S->Option (LO S X R)}(h: ∀s,Le (step s) (a s)): ∀(n:Nat) (s:S),Le (QH step n s) (QH a n s)
 |0,_=>Le.none
 |n+1,s=>by
  intro y b;simp only[QH]at b ⊢;cases c:step s with
  |none=>grind
  |some o=>
   rw[c]at b;rw[h s o c];cases o with
   |again d=>exact vJ h n d y b
   |out x=>exact b
   |ret r=>exact b
theorem Le.loop{n:Nat}{S X R:Type}{step a:S->Option (LO S X R)}{s:S}{k c:X->Option R}(h: ∀s,Le (step s) (a s))(e: ∀x,Le (k x) (c x)):Le (Qt n step s k) (ZP a s c):=by
 intro y b;unfold Qt at b;cases d:QH step n s with
 |none=>grind
 |some x=>
  rw[d]at b;rw[gm (jm (vJ h n s x d))];cases x with
  |out x=>exact e x y b
  |ret r=>exact b
section
variable {I:Ip} {P:Program}
theorem zB.le{f:Nat}{inS:StSh}{cst:List Nat}{outS:StSh}{k:Nat}{F G:(inS.sl I).T->Option (outS.sl I).T}(h:zB P (⟨f,inS,cst,outS,k,F⟩:Con I))(hl: ∀x,Le (G x) (F x)):zB P (⟨f,inS,cst,outS,k,G⟩:Con I):=
 ⟨h.wf,fun x y e=>h.fn x y (hl x y e),fun x y e=>h.ok x y (hl x y e)⟩
end
variable {I:Ip}
theorem dP{s:Shp I}{r:VL I}{n:Nat}(h: ∀x,(r.enc x).length=n): ∀x,((VL.cons s r).enc x).length=n+1:=by obtain⟨T,u,d,e,m⟩:=s;obtain⟨f,a,c,b,g⟩:=r;cases u<;>cases a<;>intro x<;>exact congrArg (· +1) (h _)
theorem RH: ∀(l:List Sh) (x:(vlOf I l).T),((vlOf I l).enc x).length=l.length
 |[],_=>rfl
 |s::l,x=>dP (s:=s.shp I) (RH l) x
theorem zAQ(s:StSh): ∀x:(s.sl I).T,((s.sl I).enc x).1.length=s.vals.length:=by have h:=RH (I:=I) s.vals;unfold StSh.sl;revert h;generalize vlOf I s.vals=v;generalize olOf I s.objs=o;obtain⟨T,u,d,e,m⟩:=v;obtain⟨f,a,c,b,g⟩:=o;cases u<;>cases a<;>intro h x<;>exact h _
theorem zT{Q:Con I->Prop}: ∀c∈([]:List (Con I)),Q c:=fun c h=>by cases h
theorem memC{Q:Con I->Prop}{a:Con I}{l:List (Con I)}(h:Q a)(g: ∀c∈l,Q c): ∀c∈a::l,Q c:=fun c b=>by
 grind
def chk(con:Con I)(A:Env0 I)(f:Go.Func):Bool:=Rl con&&(f.body.isSome&&(!(f.name== "runtime.NumGoroutine")&&(A.p==con.inS.objs.length&&Nat.ble con.inS.vals.length f.ntmps)))
theorem okC0 {P:Program} {T:TT} {b:List (Nat×List Kd)} (a:P.follows .mixedOrders=true) (g:IpOK P I) (n:TOK P T b) {con:Con I} {f:Go.Func} {A:Env0 I} {exS:StSh} {c:Code} {rs:List ResultVar} (q:c=match f.body with|some c=>c|none=> .skip) (i:rs=f.results.toList)
  (e: ∀c∈A.S,zB P c) (l:P.funcs[con.f]? =some f) (h:chk con A f=true) (m: ∀x,evF2 A T b f.ntmps rs c con exS x=con.F x):zB P con:=by
 unfold chk at h;simp only[Ba]at h;obtain⟨d,o,k,j,p⟩:=h;refine Y0 (exS:=exS) a g e d n l ?_ ?_ (by simpa using k) (Sa.1 j) (fun x=>by rw[zAQ];simp_all) (fun x y h=>(m x).trans h)
 ·grind
 ·rw[i]
section
end
end Go.Lv
