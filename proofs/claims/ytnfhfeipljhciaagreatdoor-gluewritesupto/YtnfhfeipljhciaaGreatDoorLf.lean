/- The primitives of the plain texts of functions, and their laws. -/
import Derived.Test.YtnfhfeipljhciaaGreatDoorLc
import Derived.IntWalk
import Derived.Lib.Index
import Derived.Lib.IndexMore
import Derived.Lib.IndexAny
import Derived.Lib.SlTrimSet
import Derived.Lib.TrimByte
import Derived.Lib.ItoaNum
import Derived.Test.YtnfhfeipljhciaaGreatDoorLe
import Derived.Lib.Strings
import Derived.Lib.Bytealg
import GoSem.ClaimChange
import Derived.Below
import Derived.ChangeSame
import Derived.Carry
import Derived.ProofKit
import Derived.OpenShut
set_option linter.unusedSimpArgs false
set_option linter.unusedVariables false
namespace Go.Lv
abbrev Str:=List UInt8
abbrev w8(n:Int):Int:=IntKind.i8.wrap n
abbrev w32(n:Int):Int:=IntKind.i32.wrap n
abbrev w64(n:Int):Int:=IntKind.i64.wrap n
abbrev wu8(n:Int):Int:=IntKind.u8.wrap n
abbrev wu32(n:Int):Int:=IntKind.u32.wrap n
abbrev wu64(n:Int):Int:=IntKind.u64.wrap n
def Gi(k:IntKind)(x y:Int):Int:=k.wrap (BitVec.ofInt k.bits x &&& BitVec.ofInt k.bits y).toNat
def ibOr(k:IntKind)(x y:Int):Int:=k.wrap (BitVec.ofInt k.bits x ||| BitVec.ofInt k.bits y).toNat
def Tu(k:IntKind)(x y:Int):Int:=k.wrap (x*2 ^ (min y.toNat k.bits))
def Oh(k:IntKind)(x y:Int):Int:=x.fdiv (2 ^ (min y.toNat k.bits))
def ZK(n:Int):Option UInt8:=cond (decide (0<=n)&&decide (n<=255)) (some (UInt8.ofNat n.toNat)) none
theorem kZ{n:Int}{b:UInt8}(h:ZK n=some b):n=((b.toNat:Nat):Int):=by
 unfold ZK at h;cases hc:(decide (0<=n)&&decide (n<=255))with
 |false=>rw[hc]at h;cases h
 |true=> rw[hc]at h;simp only[Da,ib]at hc;injection h with h;subst h;rw[UInt8.toNat_ofNat'];omega
@[simp] theorem zxC (b : UInt8) : ZK ((b.toNat : Nat) : Int) = some b := by
 unfold ZK;have:=Ib b;have h:(decide ((0:Int)<=((b.toNat:Nat):Int))&&decide (((b.toNat:Nat):Int)<=255))=true:=by simp only[Da,ib];omega
 rw[h];simp
abbrev ze{α β:Type}(x:Option α)(f:α->Option β):Option β:=x.bind f
noncomputable def Zp{S X R:Type}(step:S->Option (LO S X R))(s:S)(k:X->Option R):Option R:=
 (Gg step s).bind fun
 | .out x=>k x
 | .ret r=>some r
def zV{X R:Type}(m:Option (LX X R))(k:X->Option R):Option R:=
 m.bind fun
 | .out x=>k x
 | .ret r=>some r
def Jj{X Y:Type}(B:(X->Option Y)->X->Option Y):Nat->X->Option Y
 |0,_=>none
 |n+1,x=>B (Jj B n) x
open Classical in
noncomputable def recE{X Y:Type}(B:(X->Option Y)->X->Option Y)(x:X):Option Y:=
 if h: ∃y,∃N,∀n,N<=n->Jj B n x=some y then some h.choose else none
theorem yK{X Y:Type}{B:(X->Option Y)->X->Option Y}{x:X}{y:Y}{N:Nat}(h: ∀n,N<=n->Jj B n x=some y):recE B x=some y:=by have hx: ∃y,∃N,∀n,N<=n->Jj B n x=some y:=⟨y,N,h⟩;unfold recE;rw[dif_pos hx];obtain⟨M,hM⟩:=hx.choose_spec;have h1:=hM (max N M) (Nat.le_max_right ..);rw[h _ (Nat.le_max_left ..)]at h1;exact h1.symm
theorem uN {X Y:Type} {B:(X->Option Y)->X->Option Y} (μ:X->Nat) (ok:X->Prop) (f:X->Y)
  (hB: ∀(S:X->Option Y) (x:X),ok x->(∀z,ok z->μ z<μ x->S z=some (f z))->B S x=some (f x)) {x:X} (hx:ok x):recE B x=some (f x):=by
 have key: ∀(m:Nat) (n:Nat) (x:X),μ x<m->m<=n->ok x->Jj B n x=some (f x):=by
  intro m
  induction m with
  |zero=>intro n x h;omega
  |succ m ih=>
   intro n x hm hn hok;cases n with
   |zero=>omega
   |succ n=>exact hB _ x hok fun z hz hlt=>ih n z (by omega) (by omega) hz
 exact yK (N:=μ x+1) fun n hn=>key (μ x+1) n x (by omega) hn hx
theorem NY{X Y:Type}{B:(X->Option Y)->X->Option Y}{x:X}{y:Y}(h:recE B x=some y): ∃n,Jj B n x=some y:=by
 unfold recE at h;split at h
 ·rename_i hx;injection h with h;obtain⟨N,hN⟩:=hx.choose_spec;exact⟨N,by rw[hN N (Cb _),h]⟩
 ·cases h
theorem BI{S X R:Type}{step:S->Option (LO S X R)}: ∀{n m:Nat} {s:S} {x:LX X R},Qz step n s=some x->n<=m->Qz step m s=some x
 |0,_,_,_,h,_=>by cases h
 |n+1,0,_,_,_,hm=>by omega
 |n+1,m+1,s,x,h,hm=>by
  simp only[Qz]at h ⊢;split at h
  ·cases h
  ·exact BI h (by omega)
  ·exact h
  ·exact h
theorem Ol{S X R:Type}{step:S->Option (LO S X R)}{s:S}{x:LX X R}{n:Nat}(h:Qz step n s=some x):Gg step s=some x:=by have hx: ∃n x,Qz step n s=some x:=⟨n,x,h⟩;unfold Gg;rw[dif_pos hx];have h1:=hx.choose_spec.choose_spec;have h2:=BI h (Nat.le_max_left n hx.choose);have h3:=BI h1 (Nat.le_max_right n hx.choose);rw[h2]at h3;exact h3.symm
theorem ZG {S X R:Type} {step:S->Option (LO S X R)} (Inv:S->Prop) (μ:S->Nat) (r:LX X R)
  (h: ∀s,Inv s->(∃s',step s=some (.again s')/\Inv s'/\μ s'<μ s)\/(∃x,step s=some (.out x)/\r= .out x)\/(∃y,step s=some (.ret y)/\r= .ret y)) {s:S} (hs:Inv s):Gg step s=some r:=by
 have key: ∀(m:Nat) (s:S),μ s<m->Inv s->Qz step m s=some r:=by
  intro m
  induction m with
  |zero=>intro s h;omega
  |succ m ih=>
   intro s hm hs;simp only[Qz];rcases h s hs with⟨s',h1,h2,h3⟩|⟨x,h1,h2⟩|⟨y,h1,h2⟩
   ·rw[h1];exact ih s' (by omega) h2
   ·rw[h1,h2]
   ·rw[h1,h2]
 exact Ol (key (μ s+1) s (by omega) hs)
theorem FI{S X R:Type}{step:S->Option (LO S X R)}{s s':S}{r:LX X R}(h:step s=some (.again s'))(h': ∃n,Qz step n s'=some r): ∃n,Qz step n s=some r:=by obtain⟨n,hn⟩:=h';exact⟨n+1,by simp only[Qz,h];exact hn⟩
theorem zW{S X R:Type}{step:S->Option (LO S X R)}{s:S}{k:X->Option R}{x:X}(h:Gg step s=some (.out x)):Zp step s k=k x:=by unfold Zp;rw[h];rfl
theorem OH{S X R:Type}{step:S->Option (LO S X R)}{s:S}{k:X->Option R}{r:R}(h:Gg step s=some (.ret r)):Zp step s k=some r:=by unfold Zp;rw[h];rfl
@[simp] theorem zg {X R : Type} (x : X) (k : X -> Option R) : zV (some (.out x)) k = k x := rfl
@[simp] theorem zpz {X R : Type} (r : R) (k : X -> Option R) : zV (some (.ret r)) k = some r := rfl
@[simp] theorem Zf {R : Type} (x : Option R) : need true x = x := rfl
@[simp] theorem zG {α : Type} (x : Option α) (d : α) : zq true x d = x := rfl
@[simp] theorem zN {α : Type} (x : Option α) (d : α) : zq false x d = some d := rfl
theorem zk{R:Type}{b:Bool}(h:b=true)(x:Option R):need b x=x:=by rw[h];rfl
def LX.go{X R:Type}(r:LX X R)(k:X->Option R):Option R:=match r with| .out x=>k x| .ret y=>some y
@[simp] theorem zDc {X R : Type} (x : X) (k : X -> Option R) : (LX.out x : LX X R).go k = k x := rfl
@[simp] theorem go_ret {X R : Type} (y : R) (k : X -> Option R) : (LX.ret y : LX X R).go k = some y := rfl
theorem wo{S X R:Type}{step:S->Option (LO S X R)}{s:S}{k:X->Option R}{r:LX X R}(h:Gg step s=some r):Zp step s k=r.go k:=by unfold Zp;rw[h];cases r<;>rfl
theorem QJ{α:Type}{l:List α}{i:Nat}(h:i<l.length):geti l (i:Int)=some l[i]:=by
 unfold geti;have h0:decide ((0:Int)<=(i:Int))=true:=by simp
 rw[h0];simp[h]
theorem FC{n:Int}(h1: -9223372036854775808<=n)(h2:n<=9223372036854775807):IntKind.i64.wrap n=n:=IntWalk.i64_in n ⟨h1,h2⟩
end Go.Lv

namespace Go.Proofs
def Cl.cleanS:List UInt8->List UInt8
 |[]=>[]
 |13::10::r=>10::Cl.cleanS r
 |c::r=>bif c==0 then 239::191::189::Cl.cleanS r else bif c==12||c==13 then 10::Cl.cleanS r else c::Cl.cleanS r
end Go.Proofs
namespace Go.Lv
def Il(s:Str):Option (Str×Int):=some (if 4000<s.length then([],28)else(Proofs.Cl.cleanS s,0))
def short(l:Str):Bool:=decide (l.length<4294967281)
def Ih(l:Str):Bool:=l.all fun b=>decide (b.toNat<128)
def Gl(x:Str×Str):Option Int:=need (short x.1) (some (Lib.index x.1 x.2))
def cutF(x:Str×Str):Option (Str×Str×Bool):=need (short x.1) (some (Lib.cut x.1 x.2))
def Oj(x:Str×Str):Option Str:=need (short x.2&&Ih x.2) (some (Lib.trimLeftS x.1 x.2))
def ji(x:Str×Str):Option Str:=match x.2 with
 |[c]=>need (decide (c.toNat<128)&&short x.1) (some (Lib.trimRightB x.1 c))
 |_=>none
def QS(x:Str×Str):Option Int:=need (short x.1&&short x.2&&Ih x.1&&Ih x.2) (some (Lib.indexAny x.1 x.2))
def i64B(n:Int):Bool:=decide (-9223372036854775808<=n)&&decide (n<=9223372036854775807)
def Bj(x:Int×Int):Option Str:=need (decide (x.2=10)&&i64B x.1) (some (Lib.itoa x.1))
def Dj(x:(Int×Int)×Str):Option Str:=need (decide (x.1.2=10)&&decide (0<=x.1.1)&&decide (x.1.1<=9223372036854775807)&&short x.2) (some (x.2++Lib.decDigits x.1.1.toNat))
def hexD(n:Nat):UInt8:=UInt8.ofNat (if n<10 then 48+n else 87+n)
def hexS(n:Nat):Str:=if n<16 then [hexD n]else [hexD (n / 16),hexD (n%16)]
def uo(x:(Int×Int)×Str):Option Str:=need (decide (x.1.2=16)&&decide (0<=x.1.1)&&decide (x.1.1<256)&&short x.2) (some (x.2++hexS x.1.1.toNat))
def Cw(x:Str×Int):Option Int:=some (Lib.indexByte x.1 x.2.toNat.toUInt8)
section
variable {I:Ip} {P:Program}
theorem rO{D:Nat->Prop}{w:World}{u v:Value}(h:RepP D w (.at u) v):v=u:=by cases h;rfl
theorem yH{D:Nat->Prop}{w:World}{l:List UInt8}{v:Value}(h:RepP D w (.str l) v):v= .string ⟨l.toArray⟩:=by cases h;rfl
theorem bZ {f:FuncId} {fn:Go.Func} (hf:P.funcs[f]? =some fn) (hn:(fn.name== "runtime.NumGoroutine")=false) (hb:fn.body.isSome=true)
  (h: ∀(s:ByteArray) (c:Int) (w:World),Calls P f #[.string s, .int .u8 c] w fun e w'=>e= .returned (.int .i64 (Lib.indexByte s.data.toList c.toNat.toUInt8))/\w'=w):
  zn P (⟨f,⟨[.str, .int .u8],[]⟩,[],⟨[.int .i64],[]⟩,0,Cw⟩:Con I)where
 wf:=rfl
 ok:=fun x y hxy ρ nx _ _ _=>by
  obtain⟨l,c⟩:=x;cases hxy;refine⟨⟨fn,hf,hn,hb⟩,fun ι get w N vs hR _ _ ha _=> ?_⟩;obtain⟨hs,ha⟩:=ha;obtain⟨u0,hu0,_,hr0⟩:=ha 0 _ rfl;obtain⟨u1,hu1,_,hr1⟩:=ha 1 _ rfl;have e0:u0= .string ⟨l.toArray⟩:=yH hr0;have e1:u1= .int .u8 c:=rO hr1;subst e0;subst e1;have hv:vs= #[.string ⟨l.toArray⟩, .int .u8 c]:=by
   have hs:vs.size=2:=hs;apply Array.ext
   ·simp[hs]
   ·intro i hi hi';have:i=0\/i=1:=by omega
    rcases this with rfl|rfl
    ·exact(Lc.1 hu0).2
    ·exact(Lc.1 hu1).2
  subst hv;refine(h ⟨l.toArray⟩ c w).mono ?_;rintro e w' ⟨rfl,rfl⟩;refine⟨_,rfl,Qg hR ⟨rfl,?_⟩⟩;exact .at _ rfl
end
inductive All2 {α β:Type} (R:α->β->Prop):List α->List β->Prop where
 |nil:All2 R [] []
 |cons {a:α} {b:β} {l:List α} {m:List β} (h:R a b) (t:All2 R l m):All2 R (a::l) (b::m)
section
variable {I:Ip} {P:Program}
theorem xY{X Y:Type}(B:(X->Option Y)->X->Option Y)(n:Nat):Jj B n=Nat.rec (motive:=fun _=>X->Option Y) (fun _=>Option.none) (fun _ S=>B S) n:=by
 induction n with
 |zero=>rfl
 |succ n ih=>funext x;show B (Jj B n) x=B _ x;rw[ih]
theorem zn.recE {f:Nat} {inS:StSh} {cst:List Nat} {outS:StSh} {k:Nat} (B:((inS.sl I).T->Option (outS.sl I).T)->(inS.sl I).T->Option (outS.sl I).T)
  (hwf:Yi (⟨f,inS,cst,outS,k,fun _=>Option.none⟩:Con I)=true) (hB: ∀S,zn P (⟨f,inS,cst,outS,k,S⟩:Con I)->zn P (⟨f,inS,cst,outS,k,B S⟩:Con I)):zn P (⟨f,inS,cst,outS,k,Lv.recE B⟩:Con I):=
 zn.recf B hwf hB fun x y h=>by obtain⟨n,hn⟩:=NY h;exact⟨n,by rw[<-xY];exact hn⟩
end
mutual
/-- How many values and letters there are. -/
def bPV:PV->Nat
 | .at _=>1
 | .str l=>l.length+1
 | .sl rows=>Bl rows+1
 | .ptr cells=>Qp cells+1
def Bl:List (List PV)->Nat
 |[]=>0
 |r::rs=>Qp r+Bl rs
def Qp:List PV->Nat
 |[]=>0
 |c::cs=>bPV c+Qp cs
end
mutual
/-- Integers are in their kind's range. -/
def okPV:PV->Prop
 | .at (.int k n)=>k.min<=n/\n<=k.max
 | .at _=>True
 | .str _=>True
 | .sl rows=>sD rows
 | .ptr cells=>yh cells
def sD:List (List PV)->Prop
 |[]=>True
 |r::rs=>yh r/\sD rs
def yh:List PV->Prop
 |[]=>True
 |c::cs=>okPV c/\yh cs
end
theorem YS: ∀(a b:List PV),Qp (a++b)=Qp a+Qp b
 |[],b=>by simp[Qp]
 |x::a,b=>by simp only[ja,Qp,YS a b];omega
theorem vS: ∀(a b:List PV),yh (a++b)↔yh a/\yh b
 |[],b=>by simp[yh]
 |x::a,b=>by simp only[ja,yh,vS a b,and_assoc]
structure zzk (bk:{H:Type}->DataW H->Nat):Prop where
 one: ∀{H:Type} (d:DataW H),1<=bk d
 str: ∀{H:Type} (l:List UInt8),bk (DataW.lit (H:=H) (.string l))=l.length+1
 slice: ∀{H:Type} (a b:List (DataW H)),(a.map bk).sum+1<=bk (.slice a b)
 agg: ∀{H:Type} (a:List (DataW H)),(a.map bk).sum+1<=bk (.agg a)
structure IpRd (P:Program) (I:Ip) (G:Nat->Prop):Prop where
 int: ∀t k,G t->P.underlying t=some (.int k)-> ∀n,k.min<=n->n<=k.max-> ∃x:I.C t,I.full t x=[.at (.int k n)]
 bool: ∀t,G t->P.underlying t=some .bool-> ∀b,∃x:I.C t,I.full t x=[.at (.bool b)]
 str: ∀t,G t->P.underlying t=some .string-> ∀l,∃x:I.C t,I.full t x=[.str l]
 sl: ∀t e,G t->P.underlying t=some (.slice e)->G e/\0<P.cellsOf e/\ ∀l:List (I.C e),∃x:I.C t,I.full t x=[.sl (l.map (I.full e))]
 st: ∀t fs,G t->P.underlying t=some (.struct fs)->(∀f∈fs.toList,G f.type)/\(∀(i:Nat) f,fs.toList[i]? =some f->f.offset=((fs.toList.take i).map fun f=>P.cellsOf f.type).sum)/\P.cellsOf t=(fs.toList.map fun f=>P.cellsOf f.type).sum/\
  ∀pvs:List (List PV),All2 (fun(f:Field) p=> ∃y:I.C f.type,I.full f.type y=p) fs.toList pvs-> ∃x:I.C t,I.full t x=pvs.flatten
 only: ∀t u,G t->P.underlying t=some u->(∃k,u= .int k)\/u= .bool\/u= .string\/(∃e,u= .slice e)\/(∃fs,u= .struct fs)
def offs(P:Program):Nat->List (Nat×Nat)->Bool
 |_,[]=>true
 |off,(t,o)::r=>Nat.beq o off&&offs P (off+P.cellsOf t) r
def Bv(P:Program)(t:Nat):List (Nat×Nat):=match P.underlying t with
 |some (.struct fs)=>fs.toList.map fun f=>(f.type,f.offset)
 |_=>[]
theorem mK{P:Program}: ∀{l:List (Nat×Nat)} {off:Nat},offs P off l=true-> ∀(i:Nat) p,l[i]? =some p->p.2=off+((l.take i).map fun p=>P.cellsOf p.1).sum
 |[],off,_,i,p,h=>by cases h
 |(t,o)::r,off,h,i,p,hi=>by
  simp only[offs,Da]at h;cases i with
  |zero=>cases hi;simpa using Bb h.1
  |succ i=> have:=mK h.2 i p (by simpa using hi);rw[this];simp only[yf,Ab,List.sum_cons];omega
theorem il{α β:Type}{R:α->β->Prop}{a:α}{l:List α}{m:List β}(h:All2 R (a::l) m): ∃b m',m=b::m'/\R a b/\All2 R l m':=by
 cases h with
 |cons h t=>exact⟨_,_,rfl,h,t⟩
theorem dG{α β:Type}{R:α->β->Prop}{m:List β}(h:All2 R [] m):m=[]:=by cases h;rfl
theorem gN{α β γ:Type}{f:α->γ}{R:γ->β->Prop}: ∀{l:List α} {m:List β},All2 (fun a b=>R (f a) b) l m->All2 R (l.map f) m
 |[],_,h=>by cases h;exact .nil
 |a::l,_,h=>by
  cases h with
  |cons h t=>exact .cons h (gN t)
theorem LJ {P:Program} {I:Ip} {G:Nat->Prop} {t:Nat} {fs:Array Field} (hu:P.underlying t=some (.struct fs)) {ft:List (Nat×Nat)} (hft:Bv P t=ft) (hg: ∀p∈ft,G p.1) (ho:offs P 0 ft=true)
  (hs:P.cellsOf t=(ft.map fun p=>P.cellsOf p.1).sum) (mk: ∀pvs:List (List PV),All2 (fun(p:Nat×Nat) q=> ∃y:I.C p.1,I.full p.1 y=q) ft pvs-> ∃x:I.C t,I.full t x=pvs.flatten):
  (∀f∈fs.toList,G f.type)/\(∀(i:Nat) f,fs.toList[i]? =some f->f.offset=((fs.toList.take i).map fun f=>P.cellsOf f.type).sum)/\P.cellsOf t=(fs.toList.map fun f=>P.cellsOf f.type).sum/\
  ∀pvs:List (List PV),All2 (fun(f:Field) p=> ∃y:I.C f.type,I.full f.type y=p) fs.toList pvs-> ∃x:I.C t,I.full t x=pvs.flatten:=by
 have hft:fs.toList.map (fun f=>(f.type,f.offset))=ft:=by unfold Bv at hft;rw[hu]at hft;exact hft
 refine⟨fun f hf=>hg (f.type,f.offset) (by rw[<-hft];exact Oa.2 ⟨f,hf,rfl⟩),fun i f hi=> ?_,?_,fun pvs h=>mk pvs ?_⟩
 ·have:=mK ho i (f.type,f.offset) (by rw[<-hft,Va,hi];rfl);simp only[Ve]at this;rw[this,<-hft,<-Md,Vb];rfl
 ·rw[hs,<-hft,Vb];rfl
 ·rw[<-hft];exact gN h
theorem XB{α β:Type}{g:α->Option β}: ∀{l:List α} {r:List β},l.mapM g=some r->All2 (fun a b=>g a=some b) l r
 |[],r,h=>by simp only[List.mapM_nil,Option.pure_def,Option.some.injEq]at h;subst h;exact .nil
 |a::l,r,h=>by rw[List.mapM_cons]at h;obtain⟨b,h1,h2⟩:=Ha.1 h;obtain⟨r',h3,h4⟩:=Ha.1 h2;simp only[Option.pure_def,Option.some.injEq]at h4;subst h4;exact .cons h1 (XB h3)
theorem All2.len{α β:Type}{R:α->β->Prop}{l:List α}{m:List β}(h:All2 R l m):l.length=m.length:=by
 induction h with
 |nil=>rfl
 |cons _ _ ih=>simp[ih]
theorem All2.at{α β:Type}{R:α->β->Prop}{l:List α}{m:List β}(h:All2 R l m): ∀{i:Nat} {a:α},l[i]? =some a-> ∃b,m[i]? =some b/\R a b:=by
 induction h with
 |nil=>intro i a h;cases h
 |cons h t ih=>
  intro i a hi;cases i with
  |zero=>cases hi;exact⟨_,rfl,h⟩
  |succ i=>exact ih hi
def ng(w:World)(cs:List Value)(pvs:List PV):Prop:=cs.length=pvs.length/\ ∀(j:Nat) v pv,cs[j]? =some v->pvs[j]? =some pv->RepP (fun b=>b<w.heap.size) w pv v/\v.oneCell'=true
theorem ng.one{w:World}{v:Value}{pv:PV}(h:RepP (fun b=>b<w.heap.size) w pv v)(ho:v.oneCell'=true):ng w [v] [pv]:=by
 refine⟨rfl,fun j u q hu hq=> ?_⟩;cases j with
 |zero=>cases hu;cases hq;exact⟨h,ho⟩
 |succ j=>cases hu
theorem ng.append{w:World}{a b:List Value}{p q:List PV}(h:ng w a p)(g:ng w b q):ng w (a++b) (p++q):=by
 refine⟨by simp[h.1,g.1],fun j v pv hv hp=> ?_⟩;by_cases hj:j<a.length
 ·rw[xc hj]at hv;rw[xc (by rw[<-h.1];exact hj)]at hp;exact h.2 j v pv hv hp
 ·rw[Rc (by omega)]at hv;rw[Rc (by have:=h.1;omega),<-h.1]at hp;exact g.2 _ v pv hv hp
section
variable {P:Program} {I:Ip} {G:Nat->Prop} {bk:{H:Type}->DataW H->Nat}
theorem RQ {H:Type} {D:Nat->List Value->Option (DataW H×List MemPlace)} {w:World}
  (hD: ∀t cs d ps,G t->D t cs=some (d,ps)-> ∃x:I.C t,ng w cs (I.full t x)/\Qp (I.full t x)<=bk d/\yh (I.full t x)) (cs:List Value):
  ∀(fs:List Field) (off:Nat) (xs:List (DataW H×List MemPlace)),(∀f∈fs,G f.type)->(∀(i:Nat) f,fs[i]? =some f->f.offset=off+((fs.take i).map fun f=>P.cellsOf f.type).sum)->
   All2 (fun(f:Field) x=>D f.type ((cs.drop f.offset).take (P.cellsOf f.type))=some x) fs xs->
   ∃pvs:List (List PV),All2 (fun(f:Field) p=> ∃y:I.C f.type,I.full f.type y=p) fs pvs/\ng w ((cs.drop off).take ((fs.map fun f=>P.cellsOf f.type).sum)) pvs.flatten/\Qp pvs.flatten<=((xs.map (·.1)).map bk).sum/\yh pvs.flatten
 |[],off,xs,_,_,h=>by
  cases h;refine⟨[], .nil,⟨by simp,fun j v pv hv=>by simp at hv⟩,by simp[Qp],trivial⟩
 |f::fs,off,xs,hG,ho,h=>by
  cases h with
  | @cons _ x _ xs' h1 h2=>
   obtain⟨d,ps⟩:=x;have h0:f.offset=off:=by have:=ho 0 f rfl;simpa using this
   obtain⟨y,y1,y2,y3⟩:=hD f.type _ d ps (hG f (Kb ..)) h1;obtain⟨pvs,q1,q2,q3,q4⟩:=RQ hD cs fs (off+P.cellsOf f.type) xs' (fun g hg=>hG g (Rb _ hg)) (fun i g hi=>by
    have:=ho (i+1) g (by simpa using hi);rw[this];simp only[yf,Ab,List.sum_cons];omega) h2
   refine⟨I.full f.type y::pvs, .cons ⟨y,rfl⟩ q1,?_,?_,?_⟩
   ·rw[h0]at y1;have e:(cs.drop off).take (((f::fs).map fun f=>P.cellsOf f.type).sum)=(cs.drop off).take (P.cellsOf f.type)++(cs.drop (off+P.cellsOf f.type)).take ((fs.map fun f=>P.cellsOf f.type).sum):=by rw[Ab,List.sum_cons,List.take_add,We]
    rw[e,bf];exact y1.append q2
   ·rw[bf,YS];simp only[Ab,List.sum_cons];omega
   ·rw[bf];exact(vS _ _).2 ⟨y3,q4⟩
theorem RP{w:World}{a:Addr}{v:Value}(h:w.cell? a=some v):a.spot=none/\a.block<w.heap.size:=by
 unfold World.cell? at h;split at h
 ·rename_i c t fr hb;refine⟨?_,(Lc.1 hb).1⟩;cases hs:a.spot with
  |none=>rfl
  |some s=>rw[hs]at h;cases h
 ·cases h
theorem PP{w:World}{a:Addr}{n:Nat}{cs:List Value}(h:w.cells? 0 a n=some cs):cs.length=n/\ ∀(i:Nat) v,cs[i]? =some v->w.cell? (a.add i)=some v:=by
 unfold World.cells? at h;rw[Ka (Ac _)]at h;have h:=XB h;have hl:=h.len;rw[List.length_range]at hl;refine⟨hl.symm,fun i v hv=> ?_⟩;have hi:i<n:=by rw[hl];exact(La.1 hv).1
 obtain⟨b,h1,h2⟩:=h.at (i:=i) (a:=i) (by rw[List.getElem?_range hi]);rw[hv]at h1;cases h1;exact h2
theorem JZ{a:Addr}(n m:Nat)(h:(a.add n).spot=none):(a.add n).add m=⟨a.block,a.off+n+m,none⟩/\a.block=(a.add n).block:=by
 obtain⟨b,o,s⟩:=a;by_cases hn:n=0
 ·subst hn;have e:(⟨b,o,s⟩:Addr).add 0=⟨b,o,s⟩:=Ka rfl;rw[e]at h ⊢;have h:s=none:=h;subst h;refine⟨?_,rfl⟩;unfold Addr.add;by_cases hm:m=0
  ·subst hm;rw[Ka rfl];rfl
  ·rw[Ja hm];rfl
 ·have e:(⟨b,o,s⟩:Addr).add n=⟨b,o+n,none⟩:=Ja hn;rw[e];refine⟨?_,rfl⟩;unfold Addr.add;by_cases hm:m=0
  ·subst hm;rw[Ka rfl];rfl
  ·rw[Ja hm]
theorem vK {w:World} {e k:Nat} {a:Addr} {H:Type} {D:List Value->Option (DataW H×List MemPlace)} (hk:0<k)
  (hD: ∀cs d ps,D cs=some (d,ps)-> ∃x:I.C e,ng w cs (I.full e x)/\Qp (I.full e x)<=bk d/\yh (I.full e x)) (hI: ∀x:I.C e,(I.full e x).length=k):
  ∀(n s:Nat) (r:List (DataW H×List MemPlace)),All2 (fun i x=>(w.cells? 0 (a.add (i*k)) k).bind D=some x) (List.range' s n) r->
   ∃l:List (I.C e),l.length=n/\Bl (l.map (I.full e))<=((r.map (·.1)).map bk).sum/\sD (l.map (I.full e))/\
    ∀(i:Nat) x (j:Nat) pv,l[i]? =some x->(I.full e x)[j]? =some pv-> ∃v,w.cell? ⟨a.block,a.off+(s+i)*k+j,none⟩=some v/\RepP (fun b=>b<w.heap.size) w pv v/\v.oneCell'=true
 |0,s,r,h=>by
  cases h;exact⟨[],rfl,by simp[Bl],trivial,fun i x j pv h=>by cases h⟩
 |n+1,s,r,h=>by
  rw[List.range'_succ]at h;cases h with
  | @cons _ x _ r' h1 h2=>
   obtain⟨cs,g1,g2⟩:=Ha.1 h1;obtain⟨d,ps⟩:=x;obtain⟨y,y1,y2,y3⟩:=hD cs d ps g2;obtain⟨l,l1,l2,l3,l4⟩:=vK hk hD hI n (s+1) r' h2;obtain⟨c1,c2⟩:=PP g1;refine⟨y::l,by simp[l1],?_,⟨y3,l3⟩,fun i z j pv hz hp=> ?_⟩
   ·simp only[Ab,Bl,List.sum_cons];omega
   ·cases i with
    |zero=>
     cases hz;have hj:j<cs.length:=by rw[y1.1];exact(La.1 hp).1
     have hv:cs[j]? =some cs[j]:=Na hj;obtain⟨r1,r2⟩:=y1.2 j _ _ hv hp;have hc:=c2 j _ hv;have h0:=c2 0 cs[0] (Na (by omega));have hs0:=(RP h0).1;have hsp:(a.add (s*k)).spot=none:=by have e0:(a.add (s*k)).add 0=a.add (s*k):=Ka rfl;rw[e0]at hs0;exact hs0
     refine⟨_,?_,r1,r2⟩;rw[Pd,<-(JZ (s*k) j hsp).1];exact hc
    |succ i=> obtain⟨v,v1,v2,v3⟩:=l4 i z j pv hz hp;refine⟨v,?_,v2,v3⟩;rw[show s+(i+1)=s+1+i by omega];exact v1
theorem zCL{n:Int}(h1:IntKind.u8.min<=n)(h2:n<=IntKind.u8.max):[PV.at (.int .u8 (((UInt8.ofNat n.toNat).toNat:Nat):Int))]=[PV.at (.int .u8 n)]:=by
 have h1:(0:Int)<=n:=h1;have h2:n<=255:=h2;rw[UInt8.toNat_ofNat'];have:((n.toNat%2 ^ 8:Nat):Int)=n:=by omega
 rw[this]
theorem reads(hI:IpOK P I)(hG:IpRd P I G)(hb:zzk bk){H:Type}(enc:TypeId×Value->H)(w:World):
  ∀(fuel:Nat) (t:Nat) (cs:List Value) (d:DataW H) (ps:List MemPlace),G t->DataW.trod enc P w 0 (fun _=>true) true fuel t cs=some (d,ps)-> ∃x:I.C t,ng w cs (I.full t x)/\Qp (I.full t x)<=bk d/\yh (I.full t x):=by
 intro fuel
 induction fuel with
 |zero=>intro t cs d ps _ h;cases h
 |succ fuel ih=>
  intro t cs d ps hg h;simp only[DataW.trod]at h;cases hu:P.underlying t with
  |none=>rw[hu]at h;simp at h
  |some u=>
   rw[hu]at h;rcases hG.only t u hg hu with⟨k,rfl⟩|rfl|rfl|⟨e,rfl⟩|⟨fs,rfl⟩
   ·split at h<;>(try (rename_i hh;cases hh;done))<;>(try (rename_i hh _;cases hh;done))<;>(try (cases h;done));rename_i k0 k' n hh;cases hh;split at h
    ·rename_i hc;cases h;obtain⟨rfl,hwf⟩:=hc;have hwf':=hwf;simp only[Lit.wf,Da,ib]at hwf';obtain⟨x,hx⟩:=hG.int t _ hg hu n hwf'.1 hwf'.2;refine⟨x,?_,?_,?_⟩
     ·rw[hx];exact ng.one (.at _ rfl) rfl
     ·rw[hx];simp only[Qp,bPV];exact hb.one _
     ·rw[hx];simp only[Lit.wf,Da,ib]at hwf;exact⟨hwf,trivial⟩
    ·cases h
   ·split at h<;>(try (rename_i hh;cases hh;done))<;>(try (rename_i hh _;cases hh;done))<;>(try (cases h;done));cases h;rename_i b _;obtain⟨x,hx⟩:=hG.bool t hg hu b;refine⟨x,by rw[hx];exact ng.one (.at _ rfl) rfl,by rw[hx];simp only[Qp,bPV];exact hb.one _,by rw[hx];exact⟨trivial,trivial⟩⟩
   ·split at h<;>(try (rename_i hh;cases hh;done))<;>(try (rename_i hh _;cases hh;done))<;>(try (cases h;done));rename_i s _;split at h
    ·cases h;obtain⟨x,hx⟩:=hG.str t hg hu s.data.toList;refine⟨x,?_,?_,by rw[hx];exact⟨trivial,trivial⟩⟩
     ·rw[hx];have:Value.string s= .string ⟨s.data.toList.toArray⟩:=by cases s;simp
      rw[this];exact ng.one (.str _) rfl
     ·rw[hx];simp only[Qp,bPV,hb.str];omega
    ·cases h
   ·obtain⟨ge,hk,hmk⟩:=hG.sl t e hg hu;split at h<;>(try (rename_i hh;cases hh;done))<;>(try (rename_i hh _;cases hh;done))<;>(try (cases h;done))
    ·cases h;obtain⟨x,hx⟩:=hmk [];refine⟨x,?_,?_,by rw[hx];exact⟨trivial,trivial⟩⟩
     ·rw[hx];exact ng.one (.sl [] none 0 0 0 0 0 (fun _ _=>undef) rfl (Cb _) (fun h=>by omega) (fun h=>by omega) (fun r hr=>by cases hr) (fun i row j x h=>by cases h) (fun i row j x h=>by cases h)) rfl
     ·rw[hx];simp only[Xc,Qp,bPV,Bl];exact hb.one _
    ·rename_i e' a len cap hh;cases hh;split at h
     ·rename_i hc;obtain⟨elems,h1,h2⟩:=Ha.1 h;obtain⟨rest,h3,h4⟩:=Fb.1 h2;cases h4;have h1:=XB h1;rw[List.range_eq_range']at h1;obtain⟨l,l1,l2,l3,l4⟩:=vK (I:=I) (bk:=bk) (w:=w) (e:=e) (a:=a) hk (fun cs d ps hd=>ih e cs d ps ge hd) (fun x=>hI.len e x) len 0 elems h1;obtain⟨x,hx⟩:=hmk l;refine⟨x,?_,?_,?_⟩
      ·rw[hx];have hall: ∀i x j pv,l[i]? =some x->(I.full e x)[j]? =some pv-> ∃v,w.cell? ⟨a.block,a.off+i*P.cellsOf e+j,none⟩=some v/\RepP (fun b=>b<w.heap.size) w pv v:=fun i x j pv h1 h2=>by obtain⟨v,v1,v2,_⟩:=l4 i x j pv h1 h2;exact⟨v,by simpa using v1,v2⟩
       have hne:0<len-> ∃v,w.cell? (a.add (0*P.cellsOf e))=some v:=by intro hl;have h0:=h1.at (i:=0) (a:=0) (by rw[<-List.range_eq_range',List.getElem?_range hl]);obtain⟨b,_,hb2⟩:=h0;obtain⟨cs,g1,_⟩:=Ha.1 hb2;obtain⟨c1,c2⟩:=PP g1;have h0:=c2 0 (cs[0]'(by omega)) (Na (by omega));have e0:(a.add (0*P.cellsOf e)).add 0=a.add (0*P.cellsOf e):=Ka rfl;rw[e0]at h0;exact⟨_,h0⟩
       have ha:0<len->a=⟨a.block,a.off,none⟩/\a.block<w.heap.size:=by intro hl;obtain⟨v,hv⟩:=hne hl;rw[Nat.zero_mul]at hv;have e0:a.add 0=a:=Ka rfl;rw[e0]at hv;obtain⟨q1,q2⟩:=RP hv;refine⟨?_,q2⟩;cases a;simp only at q1;subst q1;rfl
       refine ng.one (.sl _ (some a) len cap (P.cellsOf e) a.block a.off (fun i j=>(w.cell? ⟨a.block,a.off+i*P.cellsOf e+j,none⟩).getD undef) (by simp[l1]) hc.2.1 (fun hl=>congrArg some (ha hl).1) (fun hl=>(ha hl).2) (fun row hr=> ?_) (fun i row j x hi hj=> ?_) (fun i row j x hi hj=> ?_)) rfl
       ·obtain⟨z,_,rfl⟩:=Oa.1 hr;exact hI.len e z
       ·rw[Va]at hi;cases hz:l[i]? with
        |none=>rw[hz]at hi;cases hi
        |some z=> rw[hz]at hi;cases hi;obtain⟨v,v1,_⟩:=hall i z j x hz hj;rw[v1];rfl
       ·rw[Va]at hi;cases hz:l[i]? with
        |none=>rw[hz]at hi;cases hi
        |some z=> rw[hz]at hi;cases hi;obtain⟨v,v1,v2⟩:=hall i z j x hz hj;rw[v1];exact v2
      ·rw[hx];simp only[Qp,bPV];have:=hb.slice (elems.map (·.1)) (rest.map (·.1));omega
      ·rw[hx];exact⟨l3,trivial⟩
     ·cases h
   ·obtain⟨gf,ho,hsz,hmk⟩:=hG.st t fs hg hu;have h:(if cs.length=P.cellsOf t then(fs.toList.mapM fun f=>DataW.trod enc P w 0 (fun _=>true) true fuel f.type ((cs.drop f.offset).take (P.cellsOf f.type))).map fun xs=>(DataW.agg (xs.map (·.1)),xs.flatMap (·.2))else none)=some (d,ps):=by
     revert h;cases cs with
     |nil=>exact id
     |cons c cs=>
      cases cs with
      |nil=>cases c<;>exact id
      |cons c' cs=>exact id
    split at h
    ·rename_i hl;obtain⟨xs,h1,h2⟩:=Fb.1 h;cases h2;obtain⟨pvs,q1,q2,q3,q4⟩:=RQ (P:=P) (I:=I) (G:=G) (bk:=bk) (D:=DataW.trod enc P w 0 (fun _=>true) true fuel) (w:=w) (fun t cs d ps=>ih t cs d ps) cs fs.toList 0 xs gf (fun i f hi=>by rw[ho i f hi];omega) (XB h1);obtain⟨x,hx⟩:=hmk pvs q1;refine⟨x,?_,?_,by rw[hx];exact q4⟩
     ·rw[hx];rw[ve,<-hsz,<-hl,Re]at q2;exact q2
     ·rw[hx];have:=hb.agg (xs.map (·.1));omega
    ·cases h
end
open Go.RowKit Go.ChangeShapes Go.WideShapes
section
variable {P:Program} {I:Ip}
def noA:Asg:=fun _=> .free
theorem xK{W:World}{pv:PV}{v:Value}(h:RepP (fun b=>b<W.heap.size) W pv v):RepP (Dom noA W) W pv v:=
 h.mono (fun b hb=>⟨hb,fun id k e=>by cases e⟩) (fun b _=>rfl)
theorem jU{W:World}{r:Reach}{base:Nat}{t:TypeId}{v:Value}{u:TypeDesc}{pv:PV}(hu:P.underlying t=some u)(hs: ∀fs,u≠ .struct fs)(ha: ∀n e,u≠ .array n e)(hok:Value.okWide P W r base t v)(hr:ng W v.cells.toList [pv]):repT noA W (.c (.p pv)) v:=by
 have hok:Cell.okWide P W r base t v:=by unfold Value.okWide at hok;rw[hu]at hok;cases u<;>first|exact hok|exact absurd rfl (hs _)|exact absurd rfl (ha _ _)
 have hv:v.cells= #[v]:=by cases v<;>first|rfl|skip;exfalso;unfold Cell.okWide at hok;rw[hu]at hok;cases u<;>simp only[Cell.ok,hu]at hok
 rw[hv]at hr;obtain⟨h1,h2⟩:=hr.2 0 v pv rfl rfl;exact⟨h2,xK h1⟩
theorem zCP{W:World}{r:Reach}{base:Nat}{t:TypeId}{v:Value}{fs:Array Field}{pvs:List PV}(hu:P.underlying t=some (.struct fs))(hok:Value.okWide P W r base t v)(hr:ng W v.cells.toList pvs):repT noA W (.agg (pvs.map .p)) v:=by
 unfold Value.okWide at hok;rw[hu]at hok;obtain⟨cs,rfl,_,_⟩:=hok;have hr:ng W cs.toList pvs:=hr;refine⟨cs,rfl,by rw[Sa,<-hr.1,Wd],fun j x hx=> ?_⟩;rw[Va]at hx;cases hp:pvs[j]? with
 |none=>rw[hp]at hx;cases hx
 |some pv=>
  rw[hp]at hx;cases hx;have hj:j<cs.toList.length:=by rw[hr.1];exact(La.1 hp).1
  have hv:cs.toList[j]? =some cs.toList[j]:=Na hj;obtain⟨h1,h2⟩:=hr.2 j _ pv hv hp;exact⟨_,by rw[<-Yd];exact hv,h2,xK h1⟩
theorem uW{W:World}:Ai noA W [] #[]:=⟨rfl,fun j t h=>by cases h⟩
theorem WH{W:World}{t:TV}{ts:List TV}{v:Value}{vs:List Value}(h:repT noA W t v)(g:Ai noA W ts vs.toArray):Ai noA W (t::ts) (v::vs).toArray:=by
 refine⟨by have:=g.1;simpa using this,fun j x hx=> ?_⟩;cases j with
 |zero=>cases hx;exact⟨v,by simp,h⟩
 |succ j=> obtain⟨u,h1,h2⟩:=g.2 j x (by simpa using hx);exact⟨u,by simpa using h1,h2⟩
theorem wY {con:Con I} (hc:zn P con) (hi:con.inS.objs=[]) (ho:con.outS=⟨[.bool],[]⟩) (hk:con.k=0) {x:(con.inS.sl I).T} {y:(con.outS.sl I).T} (hF:con.F x=some y) {b:Bool} (hy:((con.outS.sl I).enc y).1=[.c (.bool b)]) (hin:((con.inS.sl I).enc x).2=[]) (hyo:((con.outS.sl I).enc y).2=[])
  {W:World} {vs:Array Value} (hg:Glob (Dom noA W) W) (hargs:Ai noA W (((con.inS.sl I).enc x).1.map (trT (fun i=>i) (lk []))) vs):
  Calls P con.f vs W fun e W'=>e= .returned (.bool b)/\Below W.heap.size W W':=by
 have h:=hc.ok x y hF (fun i=>i) 0 (fun i j hi'=>by rw[hi]at hi';simp at hi') (fun i hi'=>by rw[hi]at hi';simp at hi') (fun j=>by rw[hi];simp);rw[hin,hyo,hy,hi,hk]at h;refine(h.ok noA (fun _=>none) W 0 vs ⟨fun id o ho=>by(cases ho),fun id _=> .inl rfl,fun i j b k k' h=>by(cases h),hg⟩ (fun id _=>rfl) (fun j _=>rfl) hargs (fun p hp=>by cases hp)).mono fun e W' ⟨v,he,ι',h1,h2,h3,h4⟩=> ?_;have hv:RepP (Dom ι' W') W' (.at (.bool b)) v:=h2.2;cases hv;exact⟨he,h3.os,h3.tape,h3.output,h3.size,fun k hk=>h3.keep k ⟨hk,fun id n e=>by cases e⟩⟩
theorem FW {H:Type} {enc:TypeId×Value->H} {f:Func} {s:ChangeSpec} {apart fresh handsOn again:Bool} {W W':World} {args:Array Value} {ds gs:List (DataW H)} {before pa:List MemPlace} {tb:TypeId}
  (hW:DataW.Whole enc P f.params.toList s.vars apart W args.toList ds gs before) (hvars:s.vars=[]) (hrt:f.resultTypes= #[tb]) (htb:P.underlying tb=some .bool)
  (hres:(s.fn H (ds++gs)).results=[.lit (.bool true)]) (hvs:(s.fn H (ds++gs)).vars=[])
  (hargs: ∀sp:Nat->Bool,(∀p∈before,sp p.block=true)->DataW.TrodAll enc P W' 0 sp true f.params.toList args.toList (s.fn H (ds++gs)).args pa)
  (hps:before=pa) (hb:Below W.heap.size W W'):s.post enc P f apart fresh handsOn again W args (.bool true) W':=by
 have hlt: ∀p∈before,p.block<W.heap.size:=fun p hp=>hW.lt p hp;have hold: ∀p∈before,(fun b=>decide (b<W.heap.size)) p.block=true:=fun p hp=>by simpa using hlt p hp
 have hr: ∀(b:Nat) (sp:Nat->Bool) (hd:Bool),DataW.TrodAll enc P W' b sp hd f.resultTypes.toList ((Value.bool true).resultList f.resultTypes.size) (s.fn H (ds++gs)).results []:=by intro b sp hd;rw[hrt,hres];exact trodAll_cons_mk (shut_bool htb _) trodAll_mk0
 have hv: ∀sp:Nat->Bool,DataW.TrodVars enc P W' sp s.vars (s.fn H (ds++gs)).vars []:=by intro sp;rw[hvars,hvs];exact rfl
 refine⟨ds,gs,before,[],pa,[],hW,hr _ _ _,hargs _ hold,hv _,World.keptBut_mono (fun p hp=>⟨hp, .inr (.inl (by rw[<-hps];exact hp))⟩) (hb.frame (· ∈before)),fun _=> ?_⟩;obtain⟨_,_,_,_,_,hz,hn⟩:=hW;refine⟨ok_one hrt rfl (okWide_bool_mk htb _),_,_,([]++pa)++[],⟨[]++pa,[],trodAll_append (hargs _ (fun _ _=>rfl)) (hr _ _ _),hv _,rfl,?_,?_⟩,?_⟩
 ·intro b off hp;have hin:MemPlace.cell b off∈before:=by rw[hps];simpa using hp
  rw[hb.frozen (hlt _ hin)];exact hz b off hin
 ·intro ha;have:=hn ha;rw[hps]at this;simpa using this
 ·intro p hp _;rw[hps];simpa using hp
theorem uR{H:Type}{enc:TypeId×Value->H}(hl:laidOutB P=true){W W':World}(hb:Below W.heap.size W W')(sp:Nat->Bool): ∀(ts:List TypeId) (vs:List Value) (ds:List (DataW H)) (ps:List MemPlace),(∀t∈ts,P.readableRec t=true/\t<P.types.size)->
  DataW.TrodAll enc P W 0 (fun _=>true) true ts vs ds ps->(∀x∈ps,x.block<W.heap.size)->(∀x∈ps,sp x.block=true)->DataW.TrodAll enc P W' 0 sp true ts vs ds ps
 |[],vs,ds,ps,_,h,_,_=>by
  cases vs<;>cases ds<;>first|exact h|(cases h;done)
 |t::ts,vs,ds,ps,ht,h,hlt,hsp=>by obtain⟨v,vs',d,ds',p,q,rfl,rfl,rfl,h1,h2⟩:=trodAll_cons h;have h3:=uR hl hb sp ts vs' ds' q (fun t ht'=>ht t (Rb _ ht')) h2 (fun x hx=>hlt x (Ff _ hx)) (fun x hx=>hsp x (Ff _ hx));obtain⟨r1,r2⟩:=ht t (Kb ..);exact⟨p,q,WideElems.Trod_stays hl r1 r2 h1 (fun x hx=>hb.same (hlt x (Hf _ hx))) (fun x hx=>hsp x (Hf _ hx)),h3,rfl⟩
end
def Le{α:Type}(a b:Option α):Prop:= ∀y,a=some y->b=some y
theorem Le.rfl{α:Type}{a:Option α}:Le a a:=fun _ h=>h
theorem Le.none{α:Type}{b:Option α}:Le none b:=fun _ h=>by cases h
theorem Le.bind{α β:Type}{a a':Option α}{f f':α->Option β}(h:Le a a')(hf: ∀x,Le (f x) (f' x)):Le (ze a f) (ze a' f'):=by
 intro y hy;cases a with
 |none=>cases hy
 |some x=>rw[h x _root_.rfl];exact hf x y hy
theorem Le.bif{α:Type}{c:Bool}{a a' b b':Option α}(h:Le a a')(h':Le b b'):Le (bif c then a else b) (bif c then a' else b'):=by
 cases c
 ·exact h'
 ·exact h
theorem Le.need{α:Type}{c:Bool}{a a':Option α}(h:Le a a'):Le (Lv.need c a) (Lv.need c a'):=by
 cases c
 ·exact Le.rfl
 ·exact h
theorem Le.cond{α:Type}{c:Bool}{a a':Option α}{d:α}(h:Le a a'):Le (zq c a d) (zq c a' d):=by
 cases c
 ·exact Le.rfl
 ·exact h
theorem Le.map{α β:Type}{a a':Option α}{f:α->β}(h:Le a a'):Le (Option.map f a) (Option.map f a'):=by
 intro y hy;cases a with
 |none=>cases hy
 |some x=>rw[h x _root_.rfl];exact hy
def wU(n:Nat){S X R:Type}(step:S->Option (LO S X R))(s:S)(k:X->Option R):Option R:=
 match Qz step n s with
 |some (.out x)=>k x
 |some (.ret r)=>some r
 |none=>none
theorem MM{S X R:Type}{step step':S->Option (LO S X R)}(h: ∀s,Le (step s) (step' s)): ∀(n:Nat) (s:S),Le (Qz step n s) (Qz step' n s)
 |0,_=>Le.none
 |n+1,s=>by
  intro y hy;simp only[Qz]at hy ⊢;cases hs:step s with
  |none=>rw[hs]at hy;cases hy
  |some o=>
   rw[hs]at hy;rw[h s o hs];cases o with
   |again s'=>exact MM h n s' y hy
   |out x=>exact hy
   |ret r=>exact hy
theorem Le.loop{n:Nat}{S X R:Type}{step step':S->Option (LO S X R)}{s:S}{k k':X->Option R}(h: ∀s,Le (step s) (step' s))(hk: ∀x,Le (k x) (k' x)):Le (wU n step s k) (Zp step' s k'):=by
 intro y hy;unfold wU at hy;cases hi:Qz step n s with
 |none=>rw[hi]at hy;cases hy
 |some x=>
  rw[hi]at hy;rw[wo (Ol (MM h n s x hi))];cases x with
  |out x=>exact hk x y hy
  |ret r=>exact hy
theorem Le.rec{X Y:Type}{B B':(X->Option Y)->X->Option Y}(h: ∀(S S':X->Option Y),(∀x,Le (S x) (S' x))-> ∀x,Le (B S x) (B' S' x))(n:Nat)(x:X):Le (Jj B n x) (recE B' x):=by
 have key: ∀(n k:Nat),n<=k-> ∀x,Le (Jj B n x) (Jj B' k x):=by
  intro n
  induction n with
  |zero=>intro k _ x;exact Le.none
  |succ n ih=>
   intro k hk x;cases k with
   |zero=>omega
   |succ k=>exact h _ _ (ih k (by omega)) x
 intro y hy;exact yK (N:=n) fun k hk=>key n k hk x y hy
variable {I:Ip}
theorem zBs{s:Shp I}{r:VL I}{n:Nat}(h: ∀x,(r.enc x).length=n): ∀x,((VL.cons s r).enc x).length=n+1:=by obtain⟨T,u,d,e,m⟩:=s;obtain⟨T',u',d',e',m'⟩:=r;cases u<;>cases u'<;>intro x<;>exact congrArg (· +1) (h _)
theorem CK: ∀(l:List Sh) (x:(vlOf I l).T),((vlOf I l).enc x).length=l.length
 |[],_=>rfl
 |s::l,x=>zBs (s:=s.shp I) (CK l) x
theorem zCE(s:StSh): ∀x:(s.sl I).T,((s.sl I).enc x).1.length=s.vals.length:=by have h:=CK (I:=I) s.vals;unfold StSh.sl;revert h;generalize vlOf I s.vals=v;generalize olOf I s.objs=o;obtain⟨T,u,d,e,m⟩:=v;obtain⟨T',u',d',e',m'⟩:=o;cases u<;>cases u'<;>intro h x<;>exact h _
theorem zJ{Q:Con I->Prop}: ∀c∈([]:List (Con I)),Q c:=fun c h=>by cases h
theorem memC{Q:Con I->Prop}{a:Con I}{l:List (Con I)}(h:Q a)(g: ∀c∈l,Q c): ∀c∈a::l,Q c:=fun c hc=>by
 rcases Yb.1 hc with rfl|hc
 ·exact h
 ·exact g c hc
def chk(con:Con I)(A:Env0 I)(f:Go.Func):Bool:=Yi con&&(f.body.isSome&&(!(f.name== "runtime.NumGoroutine")&&(A.p==con.inS.objs.length&&Nat.ble con.inS.vals.length f.ntmps)))
theorem okC0 {P:Program} {T:TT} {fk:List (Nat×List Kd)} (hmix:P.follows .mixedOrders=true) (hI:IpOK P I) (hT:TOK P T fk) {con:Con I} {f:Go.Func} {A:Env0 I} {exS:StSh} {c:Code} {rs:List ResultVar} (hb:c=match f.body with|some c=>c|none=> .skip) (hr:rs=f.results.toList)
  (hS: ∀c∈A.S,zn P c) (hf:P.funcs[con.f]? =some f) (h:chk con A f=true) (he: ∀x,evF2 A T fk f.ntmps rs c con exS x=con.F x):zn P con:=by
 unfold chk at h;simp only[Da]at h;obtain⟨h1,h2,h3,h4,h5⟩:=h;refine V8 (exS:=exS) hmix hI hS h1 hT hf ?_ ?_ (by simpa using h3) (ma.1 h4) (fun x=>by rw[zCE];exact Nc h5) (fun x y h=>(he x).trans h)
 ·rw[hb];cases hb':f.body with
  |none=>rw[hb']at h2;cases h2
  |some c=>rfl
 ·rw[hr]
end Go.Lv
