/- The primitives of the plain texts of functions, and their laws. -/
import Derived.Test.YtnfhfeipljhciaaGreatDoorLc
import Derived.IntWalk
import Derived.Lib.Index
import Derived.Lib.IndexMore
import Derived.Lib.IndexAny
import Derived.Lib.SlTrimSet
import Derived.Lib.TrimByte
import Derived.Lib.ItoaNum
import Derived.Test.YtnfhfeipljhciaaGreatDoorLe
import Derived.Lib.Strings
import Derived.Lib.Bytealg
import GoSem.ClaimChange
import Derived.Below
import Derived.ChangeSame
import Derived.Carry
import Derived.ProofKit
import Derived.OpenShut
set_option linter.unusedSimpArgs false
set_option linter.unusedVariables false
namespace Go.Lv
abbrev Str:=List UInt8
abbrev w8(n:Int):Int:=IntKind.i8.wrap n
abbrev w32(n:Int):Int:=IntKind.i32.wrap n
abbrev w64(n:Int):Int:=IntKind.i64.wrap n
abbrev wu8(n:Int):Int:=IntKind.u8.wrap n
abbrev wu32(n:Int):Int:=IntKind.u32.wrap n
abbrev wu64(n:Int):Int:=IntKind.u64.wrap n
def zg2(k:IntKind)(x y:Int):Int:=k.wrap (BitVec.ofInt k.bits x &&& BitVec.ofInt k.bits y).toNat
def ibOr(k:IntKind)(x y:Int):Int:=k.wrap (BitVec.ofInt k.bits x ||| BitVec.ofInt k.bits y).toNat
def zuZ(k:IntKind)(x y:Int):Int:=k.wrap (x*2 ^ (min y.toNat k.bits))
def zey(k:IntKind)(x y:Int):Int:=x.fdiv (2 ^ (min y.toNat k.bits))
def Zl(n:Int):Option UInt8:=cond (decide (0≤n)&&decide (n≤255)) (some (UInt8.ofNat n.toNat)) none
theorem zt5{n:Int}{b:UInt8}(h:Zl n=some b):n=((b.toNat:Nat):Int):=by
 unfold Zl at h
 cases hc:(decide (0≤n)&&decide (n≤255))with
 |false=>rw[hc]at h;cases h
 |true=>
  rw[hc]at h
  simp only[Bool.and_eq_true,decide_eq_true_eq]at hc
  injection h with h
  subst h
  rw[UInt8.toNat_ofNat']
  omega
@[simp] theorem zwO (b : UInt8) : Zl ((b.toNat : Nat) : Int) = some b := by
 unfold Zl
 have:=UInt8.toNat_lt b
 have h:(decide ((0:Int)≤((b.toNat:Nat):Int))&&decide (((b.toNat:Nat):Int)≤255))=true:=by
  simp only[Bool.and_eq_true,decide_eq_true_eq];omega
 rw[h]
 simp
abbrev ze{α β:Type}(x:Option α)(f:α→Option β):Option β:=x.bind f
noncomputable def ZF{S X R:Type}(step:S→Option (LO S X R))(s:S)(k:X→Option R):Option R:=
 (zdM step s).bind fun
 | .out x=>k x
 | .ret r=>some r
def zU{X R:Type}(m:Option (LX X R))(k:X→Option R):Option R:=
 m.bind fun
 | .out x=>k x
 | .ret r=>some r
theorem zhR{S X R:Type}{step:S→Option (LO S X R)}: ∀{n m:Nat} {s:S} {x:LX X R},Q6 step n s=some x→n≤m→Q6 step m s=some x
 |0,_,_,_,h,_=>by cases h
 |n+1,0,_,_,_,hm=>by omega
 |n+1,m+1,s,x,h,hm=>by
  simp only[Q6]at h ⊢
  split at h
  ·cases h
  ·exact zhR h (by omega)
  ·exact h
  ·exact h
theorem zdN{S X R:Type}{step:S→Option (LO S X R)}{s:S}{x:LX X R}{n:Nat}(h:Q6 step n s=some x):zdM step s=some x:=by
 have hx: ∃n x,Q6 step n s=some x:=⟨n,x,h⟩
 unfold zdM
 rw[dif_pos hx]
 have h1:=hx.choose_spec.choose_spec
 have h2:=zhR h (Nat.le_max_left n hx.choose)
 have h3:=zhR h1 (Nat.le_max_right n hx.choose)
 rw[h2]at h3
 exact h3.symm
theorem qN {S X R:Type} {step:S→Option (LO S X R)} (Inv:S→Prop) (μ:S→Nat) (r:LX X R)
  (h: ∀s,Inv s→(∃s',step s=some (.again s')∧Inv s'∧μ s'<μ s)∨(∃x,step s=some (.out x)∧r= .out x)∨(∃y,step s=some (.ret y)∧r= .ret y)) {s:S} (hs:Inv s):zdM step s=some r:=by
 have key: ∀(m:Nat) (s:S),μ s<m→Inv s→Q6 step m s=some r:=by
  intro m
  induction m with
  |zero=>intro s h;omega
  |succ m ih=>
   intro s hm hs
   simp only[Q6]
   rcases h s hs with⟨s',h1,h2,h3⟩|⟨x,h1,h2⟩|⟨y,h1,h2⟩
   ·rw[h1];exact ih s' (by omega) h2
   ·rw[h1,h2]
   ·rw[h1,h2]
 exact zdN (key (μ s+1) s (by omega) hs)
theorem qO{S X R:Type}{step:S→Option (LO S X R)}{s:S}{k:X→Option R}{x:X}(h:zdM step s=some (.out x)):ZF step s k=k x:=by
 unfold ZF;rw[h];rfl
theorem zkj{S X R:Type}{step:S→Option (LO S X R)}{s:S}{k:X→Option R}{r:R}(h:zdM step s=some (.ret r)):ZF step s k=some r:=by
 unfold ZF;rw[h];rfl
@[simp] theorem zg {X R : Type} (x : X) (k : X → Option R) : zU (some (.out x)) k = k x := rfl
@[simp] theorem zo0 {X R : Type} (r : R) (k : X → Option R) : zU (some (.ret r)) k = some r := rfl
@[simp] theorem ZR {R : Type} (x : Option R) : need true x = x := rfl
@[simp] theorem zT {α : Type} (x : Option α) (d : α) : zn true x d = x := rfl
@[simp] theorem Zu {α : Type} (x : Option α) (d : α) : zn false x d = some d := rfl
theorem zw{R:Type}{b:Bool}(h:b=true)(x:Option R):need b x=x:=by rw[h];rfl
def LX.go{X R:Type}(r:LX X R)(k:X→Option R):Option R:=match r with| .out x=>k x| .ret y=>some y
@[simp] theorem zBX {X R : Type} (x : X) (k : X → Option R) : (LX.out x : LX X R).go k = k x := rfl
@[simp] theorem go_ret {X R : Type} (y : R) (k : X → Option R) : (LX.ret y : LX X R).go k = some y := rfl
theorem zdO{S X R:Type}{step:S→Option (LO S X R)}{s:S}{k:X→Option R}{r:LX X R}(h:zdM step s=some r):ZF step s k=r.go k:=by
 unfold ZF;rw[h];cases r<;>rfl
theorem zbB{α:Type}{l:List α}{i:Nat}(h:i<l.length):geti l (i:Int)=some l[i]:=by
 unfold geti
 have h0:decide ((0:Int)≤(i:Int))=true:=by simp
 rw[h0]
 simp[h]
theorem zhB{n:Int}(h1: -9223372036854775808≤n)(h2:n≤9223372036854775807):IntKind.i64.wrap n=n:=IntWalk.i64_in n ⟨h1,h2⟩
end Go.Lv

namespace Go.Proofs
def Cl.cleanS:List UInt8→List UInt8
 |[]=>[]
 |13::10::r=>10::Cl.cleanS r
 |c::r=>bif c==0 then 239::191::189::Cl.cleanS r else bif c==12||c==13 then 10::Cl.cleanS r else c::Cl.cleanS r
end Go.Proofs
namespace Go.Lv
def zgM(s:Str):Option (Str×Int):=some (if 4000<s.length then([],28)else(Proofs.Cl.cleanS s,0))
def short(l:Str):Bool:=decide (l.length<4294967281)
def za4(l:Str):Bool:=l.all fun b=>decide (b.toNat<128)
def zg3(x:Str×Str):Option Int:=need (short x.1) (some (Lib.index x.1 x.2))
def cutF(x:Str×Str):Option (Str×Str×Bool):=need (short x.1) (some (Lib.cut x.1 x.2))
def ze7(x:Str×Str):Option Str:=need (short x.2&&za4 x.2) (some (Lib.trimLeftS x.1 x.2))
def ziK(x:Str×Str):Option Str:=match x.2 with
 |[c]=>need (decide (c.toNat<128)&&short x.1) (some (Lib.trimRightB x.1 c))
 |_=>none
def QG(x:Str×Str):Option Int:=need (short x.1&&short x.2&&za4 x.1&&za4 x.2) (some (Lib.indexAny x.1 x.2))
def i64B(n:Int):Bool:=decide (-9223372036854775808≤n)&&decide (n≤9223372036854775807)
def zgd(x:Int×Int):Option Str:=need (decide (x.2=10)&&i64B x.1) (some (Lib.itoa x.1))
def zdv(x:(Int×Int)×Str):Option Str:=need (decide (x.1.2=10)&&decide (0≤x.1.1)&&decide (x.1.1≤9223372036854775807)&&short x.2) (some (x.2++Lib.decDigits x.1.1.toNat))
def hexD(n:Nat):UInt8:=UInt8.ofNat (if n<10 then 48+n else 87+n)
def hexS(n:Nat):Str:=if n<16 then [hexD n]else [hexD (n / 16),hexD (n%16)]
def zdw(x:(Int×Int)×Str):Option Str:=need (decide (x.1.2=16)&&decide (0≤x.1.1)&&decide (x.1.1<256)&&short x.2) (some (x.2++hexS x.1.1.toNat))
end Go.Lv

namespace Go.Lv
def zj6(x:Str×Int):Option Int:=some (Lib.indexByte x.1 x.2.toNat.toUInt8)
section
variable {I:Ip} {P:Program}
theorem zo8{D:Nat→Prop}{w:World}{u v:Value}(h:RepP D w (.at u) v):v=u:=by cases h;rfl
theorem zhT{D:Nat→Prop}{w:World}{l:List UInt8}{v:Value}(h:RepP D w (.str l) v):v= .string ⟨l.toArray⟩:=by cases h;rfl
theorem zul {f:FuncId} {fn:Go.Func} (hf:P.funcs[f]? =some fn) (hn:(fn.name== "runtime.NumGoroutine")=false) (hb:fn.body.isSome=true)
  (h: ∀(s:ByteArray) (c:Int) (w:World),Calls P f #[.string s, .int .u8 c] w fun e w'=>e= .returned (.int .i64 (Lib.indexByte s.data.toList c.toNat.toUInt8))∧w'=w):
  zu P (⟨f,⟨[.str, .int .u8],[]⟩,[],⟨[.int .i64],[]⟩,0,zj6⟩:Con I)where
 wf:=rfl
 ok:=fun x y hxy ρ nx _ _ _=>by
  obtain⟨l,c⟩:=x
  cases hxy
  refine⟨⟨fn,hf,hn,hb⟩,fun ι get w N vs hR _ _ ha _=> ?_⟩
  obtain⟨hs,ha⟩:=ha
  obtain⟨u0,hu0,_,hr0⟩:=ha 0 _ rfl
  obtain⟨u1,hu1,_,hr1⟩:=ha 1 _ rfl
  have e0:u0= .string ⟨l.toArray⟩:=zhT hr0
  have e1:u1= .int .u8 c:=zo8 hr1
  subst e0;subst e1
  have hv:vs= #[.string ⟨l.toArray⟩, .int .u8 c]:=by
   have hs:vs.size=2:=hs
   apply Array.ext
   ·simp[hs]
   ·intro i hi hi'
    have:i=0∨i=1:=by omega
    rcases this with rfl|rfl
    ·exact(Array.getElem?_eq_some_iff.1 hu0).2
    ·exact(Array.getElem?_eq_some_iff.1 hu1).2
  subst hv
  refine(h ⟨l.toArray⟩ c w).mono ?_
  rintro e w' ⟨rfl,rfl⟩
  refine⟨_,rfl,qL hR ⟨rfl,?_⟩⟩
  exact .at _ rfl
end
end Go.Lv

namespace Go.Lv
inductive All2 {α β:Type} (R:α→β→Prop):List α→List β→Prop where
 |nil:All2 R [] []
 |cons {a:α} {b:β} {l:List α} {m:List β} (h:R a b) (t:All2 R l m):All2 R (a::l) (b::m)
section
end
end Go.Lv

namespace Go.Lv
mutual
/-- How many values and letters there are. -/
def bPV:PV→Nat
 | .at _=>1
 | .str l=>l.length+1
 | .sl rows=>zmB rows+1
 | .ptr cells=>Qy cells+1
def zmB:List (List PV)→Nat
 |[]=>0
 |r::rs=>Qy r+zmB rs
def Qy:List PV→Nat
 |[]=>0
 |c::cs=>bPV c+Qy cs
end
mutual
/-- Integers are in their kind's range. -/
def okPV:PV→Prop
 | .at (.int k n)=>k.min≤n∧n≤k.max
 | .at _=>True
 | .str _=>True
 | .sl rows=>zvy rows
 | .ptr cells=>zbf cells
def zvy:List (List PV)→Prop
 |[]=>True
 |r::rs=>zbf r∧zvy rs
def zbf:List PV→Prop
 |[]=>True
 |c::cs=>okPV c∧zbf cs
end
theorem zgx: ∀(a b:List PV),Qy (a++b)=Qy a+Qy b
 |[],b=>by simp[Qy]
 |x::a,b=>by simp only[List.cons_append,Qy,zgx a b];omega
theorem zfW: ∀(a b:List PV),zbf (a++b)↔zbf a∧zbf b
 |[],b=>by simp[zbf]
 |x::a,b=>by simp only[List.cons_append,zbf,zfW a b,and_assoc]
structure zym (bk:{H:Type}→DataW H→Nat):Prop where
 one: ∀{H:Type} (d:DataW H),1≤bk d
 str: ∀{H:Type} (l:List UInt8),bk (DataW.lit (H:=H) (.string l))=l.length+1
 slice: ∀{H:Type} (a b:List (DataW H)),(a.map bk).sum+1≤bk (.slice a b)
 agg: ∀{H:Type} (a:List (DataW H)),(a.map bk).sum+1≤bk (.agg a)
structure IpRd (P:Program) (I:Ip) (G:Nat→Prop):Prop where
 int: ∀t k,G t→P.underlying t=some (.int k)→ ∀n,k.min≤n→n≤k.max→ ∃x:I.C t,I.full t x=[.at (.int k n)]
 bool: ∀t,G t→P.underlying t=some .bool→ ∀b,∃x:I.C t,I.full t x=[.at (.bool b)]
 str: ∀t,G t→P.underlying t=some .string→ ∀l,∃x:I.C t,I.full t x=[.str l]
 sl: ∀t e,G t→P.underlying t=some (.slice e)→G e∧0<P.cellsOf e∧ ∀l:List (I.C e),∃x:I.C t,I.full t x=[.sl (l.map (I.full e))]
 st: ∀t fs,G t→P.underlying t=some (.struct fs)→(∀f∈fs.toList,G f.type)∧(∀(i:Nat) f,fs.toList[i]? =some f→f.offset=((fs.toList.take i).map fun f=>P.cellsOf f.type).sum)∧P.cellsOf t=(fs.toList.map fun f=>P.cellsOf f.type).sum∧
  ∀pvs:List (List PV),All2 (fun(f:Field) p=> ∃y:I.C f.type,I.full f.type y=p) fs.toList pvs→ ∃x:I.C t,I.full t x=pvs.flatten
 only: ∀t u,G t→P.underlying t=some u→(∃k,u= .int k)∨u= .bool∨u= .string∨(∃e,u= .slice e)∨(∃fs,u= .struct fs)
def offs(P:Program):Nat→List (Nat×Nat)→Bool
 |_,[]=>true
 |off,(t,o)::r=>Nat.beq o off&&offs P (off+P.cellsOf t) r
def zoJ(P:Program)(t:Nat):List (Nat×Nat):=match P.underlying t with
 |some (.struct fs)=>fs.toList.map fun f=>(f.type,f.offset)
 |_=>[]
theorem zvx{P:Program}: ∀{l:List (Nat×Nat)} {off:Nat},offs P off l=true→ ∀(i:Nat) p,l[i]? =some p→p.2=off+((l.take i).map fun p=>P.cellsOf p.1).sum
 |[],off,_,i,p,h=>by cases h
 |(t,o)::r,off,h,i,p,hi=>by
  simp only[offs,Bool.and_eq_true]at h
  cases i with
  |zero=>cases hi;simpa using Nat.eq_of_beq_eq_true h.1
  |succ i=>
   have:=zvx h.2 i p (by simpa using hi)
   rw[this]
   simp only[List.take_succ_cons,List.map_cons,List.sum_cons]
   omega
theorem zaH{α β:Type}{R:α→β→Prop}{a:α}{l:List α}{m:List β}(h:All2 R (a::l) m): ∃b m',m=b::m'∧R a b∧All2 R l m':=by
 cases h with
 |cons h t=>exact⟨_,_,rfl,h,t⟩
theorem zmx{α β:Type}{R:α→β→Prop}{m:List β}(h:All2 R [] m):m=[]:=by cases h;rfl
theorem zrz{α β γ:Type}{f:α→γ}{R:γ→β→Prop}: ∀{l:List α} {m:List β},All2 (fun a b=>R (f a) b) l m→All2 R (l.map f) m
 |[],_,h=>by cases h;exact .nil
 |a::l,_,h=>by
  cases h with
  |cons h t=>exact .cons h (zrz t)
theorem zAc {P:Program} {I:Ip} {G:Nat→Prop} {t:Nat} {fs:Array Field} (hu:P.underlying t=some (.struct fs)) {ft:List (Nat×Nat)} (hft:zoJ P t=ft) (hg: ∀p∈ft,G p.1) (ho:offs P 0 ft=true)
  (hs:P.cellsOf t=(ft.map fun p=>P.cellsOf p.1).sum) (mk: ∀pvs:List (List PV),All2 (fun(p:Nat×Nat) q=> ∃y:I.C p.1,I.full p.1 y=q) ft pvs→ ∃x:I.C t,I.full t x=pvs.flatten):
  (∀f∈fs.toList,G f.type)∧(∀(i:Nat) f,fs.toList[i]? =some f→f.offset=((fs.toList.take i).map fun f=>P.cellsOf f.type).sum)∧P.cellsOf t=(fs.toList.map fun f=>P.cellsOf f.type).sum∧
  ∀pvs:List (List PV),All2 (fun(f:Field) p=> ∃y:I.C f.type,I.full f.type y=p) fs.toList pvs→ ∃x:I.C t,I.full t x=pvs.flatten:=by
 have hft:fs.toList.map (fun f=>(f.type,f.offset))=ft:=by
  unfold zoJ at hft
  rw[hu]at hft
  exact hft
 refine⟨fun f hf=>hg (f.type,f.offset) (by rw[←hft];exact List.mem_map.2 ⟨f,hf,rfl⟩),fun i f hi=> ?_,?_,fun pvs h=>mk pvs ?_⟩
 ·have:=zvx ho i (f.type,f.offset) (by rw[←hft,List.getElem?_map,hi];rfl)
  simp only[Nat.zero_add]at this
  rw[this,←hft,←List.map_take,List.map_map]
  rfl
 ·rw[hs,←hft,List.map_map]
  rfl
 ·rw[←hft]
  exact zrz h
theorem zi9{α β:Type}{g:α→Option β}: ∀{l:List α} {r:List β},l.mapM g=some r→All2 (fun a b=>g a=some b) l r
 |[],r,h=>by
  simp only[List.mapM_nil,Option.pure_def,Option.some.injEq]at h
  subst h;exact .nil
 |a::l,r,h=>by
  rw[List.mapM_cons]at h
  obtain⟨b,h1,h2⟩:=Option.bind_eq_some_iff.1 h
  obtain⟨r',h3,h4⟩:=Option.bind_eq_some_iff.1 h2
  simp only[Option.pure_def,Option.some.injEq]at h4
  subst h4
  exact .cons h1 (zi9 h3)
theorem All2.len{α β:Type}{R:α→β→Prop}{l:List α}{m:List β}(h:All2 R l m):l.length=m.length:=by
 induction h with
 |nil=>rfl
 |cons _ _ ih=>simp[ih]
theorem All2.at{α β:Type}{R:α→β→Prop}{l:List α}{m:List β}(h:All2 R l m): ∀{i:Nat} {a:α},l[i]? =some a→ ∃b,m[i]? =some b∧R a b:=by
 induction h with
 |nil=>intro i a h;cases h
 |cons h t ih=>
  intro i a hi
  cases i with
  |zero=>cases hi;exact⟨_,rfl,h⟩
  |succ i=>exact ih hi
def zea(w:World)(cs:List Value)(pvs:List PV):Prop:=cs.length=pvs.length∧ ∀(j:Nat) v pv,cs[j]? =some v→pvs[j]? =some pv→RepP (fun b=>b<w.heap.size) w pv v∧v.oneCell'=true
theorem zea.one{w:World}{v:Value}{pv:PV}(h:RepP (fun b=>b<w.heap.size) w pv v)(ho:v.oneCell'=true):zea w [v] [pv]:=by
 refine⟨rfl,fun j u q hu hq=> ?_⟩
 cases j with
 |zero=>cases hu;cases hq;exact⟨h,ho⟩
 |succ j=>cases hu
theorem zea.append{w:World}{a b:List Value}{p q:List PV}(h:zea w a p)(g:zea w b q):zea w (a++b) (p++q):=by
 refine⟨by simp[h.1,g.1],fun j v pv hv hp=> ?_⟩
 by_cases hj:j<a.length
 ·rw[List.getElem?_append_left hj]at hv
  rw[List.getElem?_append_left (by rw[←h.1];exact hj)]at hp
  exact h.2 j v pv hv hp
 ·rw[List.getElem?_append_right (by omega)]at hv
  rw[List.getElem?_append_right (by have:=h.1;omega),←h.1]at hp
  exact g.2 _ v pv hv hp
section
variable {P:Program} {I:Ip} {G:Nat→Prop} {bk:{H:Type}→DataW H→Nat}
theorem zkH {H:Type} {D:Nat→List Value→Option (DataW H×List MemPlace)} {w:World}
  (hD: ∀t cs d ps,G t→D t cs=some (d,ps)→ ∃x:I.C t,zea w cs (I.full t x)∧Qy (I.full t x)≤bk d∧zbf (I.full t x)) (cs:List Value):
  ∀(fs:List Field) (off:Nat) (xs:List (DataW H×List MemPlace)),(∀f∈fs,G f.type)→(∀(i:Nat) f,fs[i]? =some f→f.offset=off+((fs.take i).map fun f=>P.cellsOf f.type).sum)→
   All2 (fun(f:Field) x=>D f.type ((cs.drop f.offset).take (P.cellsOf f.type))=some x) fs xs→
   ∃pvs:List (List PV),All2 (fun(f:Field) p=> ∃y:I.C f.type,I.full f.type y=p) fs pvs∧zea w ((cs.drop off).take ((fs.map fun f=>P.cellsOf f.type).sum)) pvs.flatten∧Qy pvs.flatten≤((xs.map (·.1)).map bk).sum∧zbf pvs.flatten
 |[],off,xs,_,_,h=>by
  cases h
  refine⟨[], .nil,⟨by simp,fun j v pv hv=>by simp at hv⟩,by simp[Qy],trivial⟩
 |f::fs,off,xs,hG,ho,h=>by
  cases h with
  | @cons _ x _ xs' h1 h2=>
   obtain⟨d,ps⟩:=x
   have h0:f.offset=off:=by have:=ho 0 f rfl;simpa using this
   obtain⟨y,y1,y2,y3⟩:=hD f.type _ d ps (hG f (List.mem_cons_self ..)) h1
   obtain⟨pvs,q1,q2,q3,q4⟩:=zkH hD cs fs (off+P.cellsOf f.type) xs' (fun g hg=>hG g (List.mem_cons_of_mem _ hg)) (fun i g hi=>by
    have:=ho (i+1) g (by simpa using hi)
    rw[this]
    simp only[List.take_succ_cons,List.map_cons,List.sum_cons]
    omega) h2
   refine⟨I.full f.type y::pvs, .cons ⟨y,rfl⟩ q1,?_,?_,?_⟩
   ·rw[h0]at y1
    have e:(cs.drop off).take (((f::fs).map fun f=>P.cellsOf f.type).sum)=(cs.drop off).take (P.cellsOf f.type)++(cs.drop (off+P.cellsOf f.type)).take ((fs.map fun f=>P.cellsOf f.type).sum):=by
     rw[List.map_cons,List.sum_cons,List.take_add,List.drop_drop]
    rw[e,List.flatten_cons]
    exact y1.append q2
   ·rw[List.flatten_cons,zgx]
    simp only[List.map_cons,List.sum_cons]
    omega
   ·rw[List.flatten_cons]
    exact(zfW _ _).2 ⟨y3,q4⟩
theorem zow{w:World}{a:Addr}{v:Value}(h:w.cell? a=some v):a.spot=none∧a.block<w.heap.size:=by
 unfold World.cell? at h
 split at h
 ·rename_i c t fr hb
  refine⟨?_,(Array.getElem?_eq_some_iff.1 hb).1⟩
  cases hs:a.spot with
  |none=>rfl
  |some s=>rw[hs]at h;cases h
 ·cases h
theorem zox{w:World}{a:Addr}{n:Nat}{cs:List Value}(h:w.cells? 0 a n=some cs):cs.length=n∧ ∀(i:Nat) v,cs[i]? =some v→w.cell? (a.add i)=some v:=by
 unfold World.cells? at h
 rw[if_pos (Nat.zero_le _)]at h
 have h:=zi9 h
 have hl:=h.len
 rw[List.length_range]at hl
 refine⟨hl.symm,fun i v hv=> ?_⟩
 have hi:i<n:=by rw[hl];exact(List.getElem?_eq_some_iff.1 hv).1
 obtain⟨b,h1,h2⟩:=h.at (i:=i) (a:=i) (by rw[List.getElem?_range hi])
 rw[hv]at h1;cases h1
 exact h2
theorem ztR{a:Addr}(n m:Nat)(h:(a.add n).spot=none):(a.add n).add m=⟨a.block,a.off+n+m,none⟩∧a.block=(a.add n).block:=by
 obtain⟨b,o,s⟩:=a
 by_cases hn:n=0
 ·subst hn
  have e:(⟨b,o,s⟩:Addr).add 0=⟨b,o,s⟩:=if_pos rfl
  rw[e]at h ⊢
  have h:s=none:=h
  subst h
  refine⟨?_,rfl⟩
  unfold Addr.add
  by_cases hm:m=0
  ·subst hm;rw[if_pos rfl];rfl
  ·rw[if_neg hm];rfl
 ·have e:(⟨b,o,s⟩:Addr).add n=⟨b,o+n,none⟩:=if_neg hn
  rw[e]
  refine⟨?_,rfl⟩
  unfold Addr.add
  by_cases hm:m=0
  ·subst hm;rw[if_pos rfl];rfl
  ·rw[if_neg hm]
theorem zv4 {w:World} {e k:Nat} {a:Addr} {H:Type} {D:List Value→Option (DataW H×List MemPlace)} (hk:0<k)
  (hD: ∀cs d ps,D cs=some (d,ps)→ ∃x:I.C e,zea w cs (I.full e x)∧Qy (I.full e x)≤bk d∧zbf (I.full e x)) (hI: ∀x:I.C e,(I.full e x).length=k):
  ∀(n s:Nat) (r:List (DataW H×List MemPlace)),All2 (fun i x=>(w.cells? 0 (a.add (i*k)) k).bind D=some x) (List.range' s n) r→
   ∃l:List (I.C e),l.length=n∧zmB (l.map (I.full e))≤((r.map (·.1)).map bk).sum∧zvy (l.map (I.full e))∧
    ∀(i:Nat) x (j:Nat) pv,l[i]? =some x→(I.full e x)[j]? =some pv→ ∃v,w.cell? ⟨a.block,a.off+(s+i)*k+j,none⟩=some v∧RepP (fun b=>b<w.heap.size) w pv v∧v.oneCell'=true
 |0,s,r,h=>by
  cases h
  exact⟨[],rfl,by simp[zmB],trivial,fun i x j pv h=>by cases h⟩
 |n+1,s,r,h=>by
  rw[List.range'_succ]at h
  cases h with
  | @cons _ x _ r' h1 h2=>
   obtain⟨cs,g1,g2⟩:=Option.bind_eq_some_iff.1 h1
   obtain⟨d,ps⟩:=x
   obtain⟨y,y1,y2,y3⟩:=hD cs d ps g2
   obtain⟨l,l1,l2,l3,l4⟩:=zv4 hk hD hI n (s+1) r' h2
   obtain⟨c1,c2⟩:=zox g1
   refine⟨y::l,by simp[l1],?_,⟨y3,l3⟩,fun i z j pv hz hp=> ?_⟩
   ·simp only[List.map_cons,zmB,List.sum_cons]
    omega
   ·cases i with
    |zero=>
     cases hz
     have hj:j<cs.length:=by rw[y1.1];exact(List.getElem?_eq_some_iff.1 hp).1
     have hv:cs[j]? =some cs[j]:=List.getElem?_eq_getElem hj
     obtain⟨r1,r2⟩:=y1.2 j _ _ hv hp
     have hc:=c2 j _ hv
     have h0:=c2 0 cs[0] (List.getElem?_eq_getElem (by omega))
     have hs0:=(zow h0).1
     have hsp:(a.add (s*k)).spot=none:=by
      have e0:(a.add (s*k)).add 0=a.add (s*k):=if_pos rfl
      rw[e0]at hs0
      exact hs0
     refine⟨_,?_,r1,r2⟩
     rw[Nat.add_zero,←(ztR (s*k) j hsp).1]
     exact hc
    |succ i=>
     obtain⟨v,v1,v2,v3⟩:=l4 i z j pv hz hp
     refine⟨v,?_,v2,v3⟩
     rw[show s+(i+1)=s+1+i by omega]
     exact v1
theorem zBB{n:Int}(h1:IntKind.u8.min≤n)(h2:n≤IntKind.u8.max):[PV.at (.int .u8 (((UInt8.ofNat n.toNat).toNat:Nat):Int))]=[PV.at (.int .u8 n)]:=by
 have h1:(0:Int)≤n:=h1
 have h2:n≤255:=h2
 rw[UInt8.toNat_ofNat']
 have:((n.toNat%2 ^ 8:Nat):Int)=n:=by omega
 rw[this]
theorem reads(hI:IpOK P I)(hG:IpRd P I G)(hb:zym bk){H:Type}(enc:TypeId×Value→H)(w:World):
  ∀(fuel:Nat) (t:Nat) (cs:List Value) (d:DataW H) (ps:List MemPlace),G t→DataW.trod enc P w 0 (fun _=>true) true fuel t cs=some (d,ps)→ ∃x:I.C t,zea w cs (I.full t x)∧Qy (I.full t x)≤bk d∧zbf (I.full t x):=by
 intro fuel
 induction fuel with
 |zero=>intro t cs d ps _ h;cases h
 |succ fuel ih=>
  intro t cs d ps hg h
  simp only[DataW.trod]at h
  cases hu:P.underlying t with
  |none=>rw[hu]at h;simp at h
  |some u=>
   rw[hu]at h
   rcases hG.only t u hg hu with⟨k,rfl⟩|rfl|rfl|⟨e,rfl⟩|⟨fs,rfl⟩
   ·split at h<;>(try (rename_i hh;cases hh;done))<;>(try (rename_i hh _;cases hh;done))<;>(try (cases h;done))
    rename_i k0 k' n hh
    cases hh
    split at h
    ·rename_i hc
     cases h
     obtain⟨rfl,hwf⟩:=hc
     have hwf':=hwf
     simp only[Lit.wf,Bool.and_eq_true,decide_eq_true_eq]at hwf'
     obtain⟨x,hx⟩:=hG.int t _ hg hu n hwf'.1 hwf'.2
     refine⟨x,?_,?_,?_⟩
     ·rw[hx];exact zea.one (.at _ rfl) rfl
     ·rw[hx];simp only[Qy,bPV];exact hb.one _
     ·rw[hx]
      simp only[Lit.wf,Bool.and_eq_true,decide_eq_true_eq]at hwf
      exact⟨hwf,trivial⟩
    ·cases h
   ·split at h<;>(try (rename_i hh;cases hh;done))<;>(try (rename_i hh _;cases hh;done))<;>(try (cases h;done))
    cases h
    rename_i b _
    obtain⟨x,hx⟩:=hG.bool t hg hu b
    refine⟨x,by rw[hx];exact zea.one (.at _ rfl) rfl,by rw[hx];simp only[Qy,bPV];exact hb.one _,by rw[hx];exact⟨trivial,trivial⟩⟩
   ·split at h<;>(try (rename_i hh;cases hh;done))<;>(try (rename_i hh _;cases hh;done))<;>(try (cases h;done))
    rename_i s _
    split at h
    ·cases h
     obtain⟨x,hx⟩:=hG.str t hg hu s.data.toList
     refine⟨x,?_,?_,by rw[hx];exact⟨trivial,trivial⟩⟩
     ·rw[hx]
      have:Value.string s= .string ⟨s.data.toList.toArray⟩:=by cases s;simp
      rw[this]
      exact zea.one (.str _) rfl
     ·rw[hx];simp only[Qy,bPV,hb.str];omega
    ·cases h
   ·obtain⟨ge,hk,hmk⟩:=hG.sl t e hg hu
    split at h<;>(try (rename_i hh;cases hh;done))<;>(try (rename_i hh _;cases hh;done))<;>(try (cases h;done))
    ·cases h
     obtain⟨x,hx⟩:=hmk []
     refine⟨x,?_,?_,by rw[hx];exact⟨trivial,trivial⟩⟩
     ·rw[hx]
      exact zea.one (.sl [] none 0 0 0 0 0 (fun _ _=>undef) rfl (Nat.le_refl _) (fun h=>by omega) (fun h=>by omega) (fun r hr=>by cases hr) (fun i row j x h=>by cases h) (fun i row j x h=>by cases h)) rfl
     ·rw[hx];simp only[List.map_nil,Qy,bPV,zmB];exact hb.one _
    ·rename_i e' a len cap hh
     cases hh
     split at h
     ·rename_i hc
      obtain⟨elems,h1,h2⟩:=Option.bind_eq_some_iff.1 h
      obtain⟨rest,h3,h4⟩:=Option.map_eq_some_iff.1 h2
      cases h4
      have h1:=zi9 h1
      rw[List.range_eq_range']at h1
      obtain⟨l,l1,l2,l3,l4⟩:=zv4 (I:=I) (bk:=bk) (w:=w) (e:=e) (a:=a) hk (fun cs d ps hd=>ih e cs d ps ge hd) (fun x=>hI.len e x) len 0 elems h1
      obtain⟨x,hx⟩:=hmk l
      refine⟨x,?_,?_,?_⟩
      ·rw[hx]
       have hall: ∀i x j pv,l[i]? =some x→(I.full e x)[j]? =some pv→ ∃v,w.cell? ⟨a.block,a.off+i*P.cellsOf e+j,none⟩=some v∧RepP (fun b=>b<w.heap.size) w pv v:=fun i x j pv h1 h2=>by
        obtain⟨v,v1,v2,_⟩:=l4 i x j pv h1 h2
        exact⟨v,by simpa using v1,v2⟩
       have hne:0<len→ ∃v,w.cell? (a.add (0*P.cellsOf e))=some v:=by
        intro hl
        have h0:=h1.at (i:=0) (a:=0) (by rw[←List.range_eq_range',List.getElem?_range hl])
        obtain⟨b,_,hb2⟩:=h0
        obtain⟨cs,g1,_⟩:=Option.bind_eq_some_iff.1 hb2
        obtain⟨c1,c2⟩:=zox g1
        have h0:=c2 0 (cs[0]'(by omega)) (List.getElem?_eq_getElem (by omega))
        have e0:(a.add (0*P.cellsOf e)).add 0=a.add (0*P.cellsOf e):=if_pos rfl
        rw[e0]at h0
        exact⟨_,h0⟩
       have ha:0<len→a=⟨a.block,a.off,none⟩∧a.block<w.heap.size:=by
        intro hl
        obtain⟨v,hv⟩:=hne hl
        rw[Nat.zero_mul]at hv
        have e0:a.add 0=a:=if_pos rfl
        rw[e0]at hv
        obtain⟨q1,q2⟩:=zow hv
        refine⟨?_,q2⟩
        cases a
        simp only at q1
        subst q1
        rfl
       refine zea.one (.sl _ (some a) len cap (P.cellsOf e) a.block a.off (fun i j=>(w.cell? ⟨a.block,a.off+i*P.cellsOf e+j,none⟩).getD undef) (by simp[l1]) hc.2.1 (fun hl=>congrArg some (ha hl).1) (fun hl=>(ha hl).2) (fun row hr=> ?_) (fun i row j x hi hj=> ?_) (fun i row j x hi hj=> ?_)) rfl
       ·obtain⟨z,_,rfl⟩:=List.mem_map.1 hr
        exact hI.len e z
       ·rw[List.getElem?_map]at hi
        cases hz:l[i]? with
        |none=>rw[hz]at hi;cases hi
        |some z=>
         rw[hz]at hi;cases hi
         obtain⟨v,v1,_⟩:=hall i z j x hz hj
         rw[v1];rfl
       ·rw[List.getElem?_map]at hi
        cases hz:l[i]? with
        |none=>rw[hz]at hi;cases hi
        |some z=>
         rw[hz]at hi;cases hi
         obtain⟨v,v1,v2⟩:=hall i z j x hz hj
         rw[v1];exact v2
      ·rw[hx]
       simp only[Qy,bPV]
       have:=hb.slice (elems.map (·.1)) (rest.map (·.1))
       omega
      ·rw[hx];exact⟨l3,trivial⟩
     ·cases h
   ·obtain⟨gf,ho,hsz,hmk⟩:=hG.st t fs hg hu
    have h:(if cs.length=P.cellsOf t then(fs.toList.mapM fun f=>DataW.trod enc P w 0 (fun _=>true) true fuel f.type ((cs.drop f.offset).take (P.cellsOf f.type))).map fun xs=>(DataW.agg (xs.map (·.1)),xs.flatMap (·.2))else none)=some (d,ps):=by
     revert h
     cases cs with
     |nil=>exact id
     |cons c cs=>
      cases cs with
      |nil=>cases c<;>exact id
      |cons c' cs=>exact id
    split at h
    ·rename_i hl
     obtain⟨xs,h1,h2⟩:=Option.map_eq_some_iff.1 h
     cases h2
     obtain⟨pvs,q1,q2,q3,q4⟩:=zkH (P:=P) (I:=I) (G:=G) (bk:=bk) (D:=DataW.trod enc P w 0 (fun _=>true) true fuel) (w:=w) (fun t cs d ps=>ih t cs d ps) cs fs.toList 0 xs gf (fun i f hi=>by rw[ho i f hi];omega) (zi9 h1)
     obtain⟨x,hx⟩:=hmk pvs q1
     refine⟨x,?_,?_,by rw[hx];exact q4⟩
     ·rw[hx]
      rw[List.drop_zero,←hsz,←hl,List.take_length]at q2
      exact q2
     ·rw[hx]
      have:=hb.agg (xs.map (·.1))
      omega
    ·cases h
end
end Go.Lv

namespace Go.Lv
open Go.RowKit Go.ChangeShapes Go.WideShapes
section
variable {P:Program} {I:Ip}
def noA:Asg:=fun _=> .free
theorem zz6{W:World}{pv:PV}{v:Value}(h:RepP (fun b=>b<W.heap.size) W pv v):RepP (Dom noA W) W pv v:=
 h.mono (fun b hb=>⟨hb,fun id k e=>by cases e⟩) (fun b _=>rfl)
theorem zBF{W:World}{r:Reach}{base:Nat}{t:TypeId}{v:Value}{u:TypeDesc}{pv:PV}(hu:P.underlying t=some u)(hs: ∀fs,u≠ .struct fs)(ha: ∀n e,u≠ .array n e)(hok:Value.okWide P W r base t v)(hr:zea W v.cells.toList [pv]):repT noA W (.c (.p pv)) v:=by
 have hok:Cell.okWide P W r base t v:=by
  unfold Value.okWide at hok
  rw[hu]at hok
  cases u<;>first|exact hok|exact absurd rfl (hs _)|exact absurd rfl (ha _ _)
 have hv:v.cells= #[v]:=by
  cases v<;>first|rfl|skip
  exfalso
  unfold Cell.okWide at hok
  rw[hu]at hok
  cases u<;>simp only[Cell.ok,hu]at hok
 rw[hv]at hr
 obtain⟨h1,h2⟩:=hr.2 0 v pv rfl rfl
 exact⟨h2,zz6 h1⟩
theorem zwI{W:World}:zaF noA W [] #[]:=⟨rfl,fun j t h=>by cases h⟩
theorem ztV{W:World}{t:TV}{ts:List TV}{v:Value}{vs:List Value}(h:repT noA W t v)(g:zaF noA W ts vs.toArray):zaF noA W (t::ts) (v::vs).toArray:=by
 refine⟨by have:=g.1;simpa using this,fun j x hx=> ?_⟩
 cases j with
 |zero=>cases hx;exact⟨v,by simp,h⟩
 |succ j=>
  obtain⟨u,h1,h2⟩:=g.2 j x (by simpa using hx)
  exact⟨u,by simpa using h1,h2⟩
theorem zu7 {con:Con I} (hc:zu P con) (hi:con.inS.objs=[]) (ho:con.outS=⟨[.bool],[]⟩) (hk:con.k=0) {x:(con.inS.sl I).T} {y:(con.outS.sl I).T} (hF:con.F x=some y) {b:Bool} (hy:((con.outS.sl I).enc y).1=[.c (.bool b)]) (hin:((con.inS.sl I).enc x).2=[]) (hyo:((con.outS.sl I).enc y).2=[])
  {W:World} {vs:Array Value} (hg:Glob (Dom noA W) W) (hargs:zaF noA W (((con.inS.sl I).enc x).1.map (trT (fun i=>i) (lk []))) vs):
  Calls P con.f vs W fun e W'=>e= .returned (.bool b)∧Below W.heap.size W W':=by
 have h:=hc.ok x y hF (fun i=>i) 0 (fun i j hi'=>by rw[hi]at hi';simp at hi') (fun i hi'=>by rw[hi]at hi';simp at hi') (fun j=>by rw[hi];simp)
 rw[hin,hyo,hy,hi,hk]at h
 refine(h.ok noA (fun _=>none) W 0 vs ⟨fun id o ho=>by(cases ho),fun id _=> .inl rfl,fun i j b k k' h=>by(cases h),hg⟩ (fun id _=>rfl) (fun j _=>rfl) hargs (fun p hp=>by cases hp)).mono fun e W' ⟨v,he,ι',h1,h2,h3,h4⟩=> ?_
 have hv:RepP (Dom ι' W') W' (.at (.bool b)) v:=h2.2
 cases hv
 exact⟨he,h3.os,h3.tape,h3.output,h3.size,fun k hk=>h3.keep k ⟨hk,fun id n e=>by cases e⟩⟩
theorem zxn {H:Type} {enc:TypeId×Value→H} {f:Func} {s:ChangeSpec} {apart fresh handsOn again:Bool} {W W':World} {args:Array Value} {ds gs:List (DataW H)} {before pa:List MemPlace} {tb:TypeId}
  (hW:DataW.Whole enc P f.params.toList s.vars apart W args.toList ds gs before) (hvars:s.vars=[]) (hrt:f.resultTypes= #[tb]) (htb:P.underlying tb=some .bool)
  (hres:(s.fn H (ds++gs)).results=[.lit (.bool true)]) (hvs:(s.fn H (ds++gs)).vars=[])
  (hargs: ∀sp:Nat→Bool,(∀p∈before,sp p.block=true)→DataW.TrodAll enc P W' 0 sp true f.params.toList args.toList (s.fn H (ds++gs)).args pa)
  (hps:before=pa) (hb:Below W.heap.size W W'):s.post enc P f apart fresh handsOn again W args (.bool true) W':=by
 have hlt: ∀p∈before,p.block<W.heap.size:=fun p hp=>hW.lt p hp
 have hold: ∀p∈before,(fun b=>decide (b<W.heap.size)) p.block=true:=fun p hp=>by simpa using hlt p hp
 have hr: ∀(b:Nat) (sp:Nat→Bool) (hd:Bool),DataW.TrodAll enc P W' b sp hd f.resultTypes.toList ((Value.bool true).resultList f.resultTypes.size) (s.fn H (ds++gs)).results []:=by
  intro b sp hd
  rw[hrt,hres]
  exact trodAll_cons_mk (shut_bool htb _) trodAll_mk0
 have hv: ∀sp:Nat→Bool,DataW.TrodVars enc P W' sp s.vars (s.fn H (ds++gs)).vars []:=by
  intro sp
  rw[hvars,hvs]
  exact rfl
 refine⟨ds,gs,before,[],pa,[],hW,hr _ _ _,hargs _ hold,hv _,World.keptBut_mono (fun p hp=>⟨hp, .inr (.inl (by rw[←hps];exact hp))⟩) (hb.frame (· ∈before)),fun _=> ?_⟩
 obtain⟨_,_,_,_,_,hz,hn⟩:=hW
 refine⟨ok_one hrt rfl (okWide_bool_mk htb _),_,_,([]++pa)++[],⟨[]++pa,[],trodAll_append (hargs _ (fun _ _=>rfl)) (hr _ _ _),hv _,rfl,?_,?_⟩,?_⟩
 ·intro b off hp
  have hin:MemPlace.cell b off∈before:=by rw[hps];simpa using hp
  rw[hb.frozen (hlt _ hin)]
  exact hz b off hin
 ·intro ha
  have:=hn ha
  rw[hps]at this
  simpa using this
 ·intro p hp _
  rw[hps]
  simpa using hp
theorem zhy{H:Type}{enc:TypeId×Value→H}(hl:laidOutB P=true){W W':World}(hb:Below W.heap.size W W')(sp:Nat→Bool): ∀(ts:List TypeId) (vs:List Value) (ds:List (DataW H)) (ps:List MemPlace),(∀t∈ts,P.readableRec t=true∧t<P.types.size)→
  DataW.TrodAll enc P W 0 (fun _=>true) true ts vs ds ps→(∀x∈ps,x.block<W.heap.size)→(∀x∈ps,sp x.block=true)→DataW.TrodAll enc P W' 0 sp true ts vs ds ps
 |[],vs,ds,ps,_,h,_,_=>by
  cases vs<;>cases ds<;>first|exact h|(cases h;done)
 |t::ts,vs,ds,ps,ht,h,hlt,hsp=>by
  obtain⟨v,vs',d,ds',p,q,rfl,rfl,rfl,h1,h2⟩:=trodAll_cons h
  have h3:=zhy hl hb sp ts vs' ds' q (fun t ht'=>ht t (List.mem_cons_of_mem _ ht')) h2 (fun x hx=>hlt x (List.mem_append_right _ hx)) (fun x hx=>hsp x (List.mem_append_right _ hx))
  obtain⟨r1,r2⟩:=ht t (List.mem_cons_self ..)
  exact⟨p,q,WideElems.Trod_stays hl r1 r2 h1 (fun x hx=>hb.same (hlt x (List.mem_append_left _ hx))) (fun x hx=>hsp x (List.mem_append_left _ hx)),h3,rfl⟩
end
end Go.Lv

namespace Go.Lv
def Le{α:Type}(a b:Option α):Prop:= ∀y,a=some y→b=some y
theorem Le.rfl{α:Type}{a:Option α}:Le a a:=fun _ h=>h
theorem Le.none{α:Type}{b:Option α}:Le none b:=fun _ h=>by cases h
theorem Le.bind{α β:Type}{a a':Option α}{f f':α→Option β}(h:Le a a')(hf: ∀x,Le (f x) (f' x)):Le (ze a f) (ze a' f'):=by
 intro y hy
 cases a with
 |none=>cases hy
 |some x=>rw[h x _root_.rfl];exact hf x y hy
theorem Le.bif{α:Type}{c:Bool}{a a' b b':Option α}(h:Le a a')(h':Le b b'):Le (bif c then a else b) (bif c then a' else b'):=by
 cases c
 ·exact h'
 ·exact h
theorem Le.need{α:Type}{c:Bool}{a a':Option α}(h:Le a a'):Le (Lv.need c a) (Lv.need c a'):=by
 cases c
 ·exact Le.rfl
 ·exact h
theorem Le.cond{α:Type}{c:Bool}{a a':Option α}{d:α}(h:Le a a'):Le (zn c a d) (zn c a' d):=by
 cases c
 ·exact Le.rfl
 ·exact h
theorem Le.map{α β:Type}{a a':Option α}{f:α→β}(h:Le a a'):Le (Option.map f a) (Option.map f a'):=by
 intro y hy
 cases a with
 |none=>cases hy
 |some x=>rw[h x _root_.rfl];exact hy
theorem Le.join{X R:Type}{a a':Option (LX X R)}{k k':X→Option R}(h:Le a a')(hk: ∀x,Le (k x) (k' x)):Le (zU a k) (zU a' k'):=by
 intro y hy
 cases a with
 |none=>cases hy
 |some x=>
  rw[h x _root_.rfl]
  cases x with
  |out x=>exact hk x y hy
  |ret r=>exact hy
def zgi(n:Nat){S X R:Type}(step:S→Option (LO S X R))(s:S)(k:X→Option R):Option R:=
 match Q6 step n s with
 |some (.out x)=>k x
 |some (.ret r)=>some r
 |none=>none
theorem zr0{S X R:Type}{step step':S→Option (LO S X R)}(h: ∀s,Le (step s) (step' s)): ∀(n:Nat) (s:S),Le (Q6 step n s) (Q6 step' n s)
 |0,_=>Le.none
 |n+1,s=>by
  intro y hy
  simp only[Q6]at hy ⊢
  cases hs:step s with
  |none=>rw[hs]at hy;cases hy
  |some o=>
   rw[hs]at hy
   rw[h s o hs]
   cases o with
   |again s'=>exact zr0 h n s' y hy
   |out x=>exact hy
   |ret r=>exact hy
theorem Le.loop{n:Nat}{S X R:Type}{step step':S→Option (LO S X R)}{s:S}{k k':X→Option R}(h: ∀s,Le (step s) (step' s))(hk: ∀x,Le (k x) (k' x)):Le (zgi n step s k) (ZF step' s k'):=by
 intro y hy
 unfold zgi at hy
 cases hi:Q6 step n s with
 |none=>rw[hi]at hy;cases hy
 |some x=>
  rw[hi]at hy
  rw[zdO (zdN (zr0 h n s x hi))]
  cases x with
  |out x=>exact hk x y hy
  |ret r=>exact hy
end Go.Lv

namespace Go.Lv
variable {I:Ip}
theorem zAp{s:Shp I}{r:VL I}{n:Nat}(h: ∀x,(r.enc x).length=n): ∀x,((VL.cons s r).enc x).length=n+1:=by
 obtain⟨T,u,d,e,m⟩:=s
 obtain⟨T',u',d',e',m'⟩:=r
 cases u<;>cases u'<;>intro x<;>exact congrArg (· +1) (h _)
theorem zyP: ∀(l:List Sh) (x:(vlOf I l).T),((vlOf I l).enc x).length=l.length
 |[],_=>rfl
 |s::l,x=>zAp (s:=s.shp I) (zyP l) x
theorem zBu(s:StSh): ∀x:(s.sl I).T,((s.sl I).enc x).1.length=s.vals.length:=by
 have h:=zyP (I:=I) s.vals
 unfold StSh.sl
 revert h
 generalize vlOf I s.vals=v
 generalize olOf I s.objs=o
 obtain⟨T,u,d,e,m⟩:=v
 obtain⟨T',u',d',e',m'⟩:=o
 cases u<;>cases u'<;>intro h x<;>exact h _
theorem zL{Q:Con I→Prop}: ∀c∈([]:List (Con I)),Q c:=fun c h=>by cases h
theorem memC{Q:Con I→Prop}{a:Con I}{l:List (Con I)}(h:Q a)(g: ∀c∈l,Q c): ∀c∈a::l,Q c:=fun c hc=>by
 rcases List.mem_cons.1 hc with rfl|hc
 ·exact h
 ·exact g c hc
def chk(con:Con I)(A:Env0 I)(f:Go.Func):Bool:=zlD con&&(f.body.isSome&&(!(f.name== "runtime.NumGoroutine")&&(A.p==con.inS.objs.length&&Nat.ble con.inS.vals.length f.ntmps)))
theorem okC0 {P:Program} {T:TT} {fk:List (Nat×List Kd)} (hmix:P.follows .mixedOrders=true) (hI:IpOK P I) (hT:TOK P T fk) {con:Con I} {f:Go.Func} {A:Env0 I} {exS:StSh} {c:Code} {rs:List ResultVar} (hb:c=match f.body with|some c=>c|none=> .skip) (hr:rs=f.results.toList)
  (hS: ∀c∈A.S,zu P c) (hf:P.funcs[con.f]? =some f) (h:chk con A f=true) (he: ∀x,evF2 A T fk f.ntmps rs c con exS x=con.F x):zu P con:=by
 unfold chk at h
 simp only[Bool.and_eq_true]at h
 obtain⟨h1,h2,h3,h4,h5⟩:=h
 refine zmQ (exS:=exS) hmix hI hS h1 hT hf ?_ ?_ (by simpa using h3) (beq_iff_eq.1 h4) (fun x=>by rw[zBu];exact Nat.le_of_ble_eq_true h5) (fun x y h=>(he x).trans h)
 ·rw[hb]
  cases hb':f.body with
  |none=>rw[hb']at h2;cases h2
  |some c=>rfl
 ·rw[hr]
end Go.Lv
