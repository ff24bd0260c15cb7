/- The pieces of tokens that can be written; their bytes; comparisons of tokens. -/
import Derived.Test.YtoiadnecjabbeaaGreatDoorXd
import Derived.Test.YtoiadnecjabbeaaGreatDoorXa
import Derived.Test.YtoiadnecjabbeaaGreatDoorXc
import Derived.Test.YtoiadnecjabbeaaGreatDoorMo
import Derived.Test.YtoiadnecjabbeaaGreatDoorLf
import Derived.Test.YtoiadnecjabbeaaGreatDoorIp
set_option linter.unusedSimpArgs false
set_option linter.unusedVariables false
namespace Go.Lv.VT
set_option maxRecDepth 100000
theorem gT(n m:Int):decide (n>=m)= !decide (n<m):=by
 by_cases h:n<m
 ·rw[Ha h,Ta (by omega)];rfl
 ·rw[Ta h,Ha (by omega)];rfl
structure Sf (d:UInt8) (y:Str):Prop where
 f:fstB d=false
 l:letB d=false
 g:digB d=false
 s:Yh d=false
 a:(d==45)=false
 b:(d==46)=false
 c:(d==92)=false
 n:(d==10)=false
 e:(d==40)=false
 p:(d==37)=false
 m:d≠42
 o:[33,45,45].isPrefixOf (d::y)=false
 x:(d==101||d==69)=false
 k:d≠60/\d≠62
theorem fu{d:UInt8}{y:Str}(h:Sf d y)(q:Str):escS (q++d::y)=escS q:=by
 match q with
 |[]=>show(d==92&&_)=false;rw[h.c];rfl
 |[c]=>show(c==92&& !(d==10))=(c==92&& !((0:UInt8)==10));rw[h.n];rfl
 |c::e::t=>rfl
theorem BJ{d:UInt8}{y:Str}(h:Sf d y)(q:Str):nmS (q++d::y)=nmS q:=by
 have h0:escS (d::y)=false:=fu h []
 match q with
 |[]=> show(if d==45 then _ else fstB d||escS (d::y))=false;rw[h.a,Ia (by decide),h.f,h0];rfl
 |[c]=> unfold nmS;show(if c==45 then fstB d||d==45||escS (d::y)else fstB c||escS ([c]++d::y))=(if c==45 then fstB 0||(0:UInt8)==45||escS []else fstB c||escS [c]);rw[fu h [c],h0,h.f,h.a];rfl
 |c::e::t=> unfold nmS;show(if c==45 then fstB e||e==45||escS ((e::t)++d::y)else fstB c||escS ((c::e::t)++d::y))=(if c==45 then fstB e||e==45||escS (e::t)else fstB c||escS (c::e::t));rw[fu h,fu h]
theorem OE{d:UInt8}{y:Str}(h:Sf d y)(q:Str):digB (atS (q++d::y) 0)=digB (atS q 0):=by
 cases q with
 |nil=>show digB d=false;exact h.g
 |cons c t=>rfl
theorem jG{d:UInt8}{y:Str}(h:Sf d y)(q:Str):unsign (q++d::y)=unsign q++d::y:=by
 cases q with
 |nil=>show(if Yh d then _ else _)=_;rw[h.s];rfl
 |cons c t=>exact(WH (d::y) (by simp)).1
theorem zDz{d:UInt8}{y:Str}(h:Sf d y)(q:Str):undot (q++d::y)=undot q++d::y:=by
 cases q with
 |nil=>show(if d==46 then _ else _)=_;rw[h.b];rfl
 |cons c t=>exact zBH (d::y) (by simp)
theorem zIc{d:UInt8}{y:Str}(h:Sf d y)(q:Str):nbS (q++d::y)=nbS q:=by unfold nbS;rw[jG h,zDz h,OE h]
theorem CU{d:UInt8}{y m:Str}(hm: ∀b∈m,b≠d): ∀q:Str,m.isPrefixOf (q++d::y)=m.isPrefixOf q:=by
 induction m with
 |nil=>intros;rw[List.isPrefixOf,List.isPrefixOf]
 |cons a m ih=>
  intro q;cases q with
  |nil=> have:(a==d)=false:=Ga.2 (hm a (Fb ..));show((a==d)&&m.isPrefixOf y)=false;rw[this];rfl
  |cons b t=>rw[Db,List.isPrefixOf,List.isPrefixOf,ih (fun b hb=>hm b (Bb _ hb))]
theorem zGD{d:UInt8}{y:Str}(h:Sf d y)(q:Str):[60,33,45,45].isPrefixOf (q++d::y)=[60,33,45,45].isPrefixOf q:=by
 have h45:(45:UInt8)≠d:=fun e=>by have:=h.a;rw[<-e]at this;cases this
 match q with
 |[]=> show((60:UInt8)==d&&_)=false;rw[Ga.2 (fun e=>h.k.1 e.symm)];rfl
 |[c]=> show((60:UInt8)==c&&[33,45,45].isPrefixOf (d::y))=((60:UInt8)==c&&false);rw[h.o]
 |c::e::t=> show((60:UInt8)==c&&((33:UInt8)==e&&[45,45].isPrefixOf (t++d::y)))=((60:UInt8)==c&&((33:UInt8)==e&&[45,45].isPrefixOf t));rw[CU (m:=[45,45]) (fun b hb=>by simp only[ja,Jd,Ff,or_self]at hb;rw[hb];exact h45)]
theorem zH6{d:UInt8}{y:Str}(h:Sf d y)(c:UInt8)(r:Str):brS c (r++d::y)=brS c r:=by
 have e:c::(r++d::y)=(c::r)++d::y:=rfl;have h45:(45:UInt8)≠d:=fun e=>by have:=h.a;rw[<-e]at this;cases this
 have hl:letB (atS (r++d::y) 0)=letB (atS r 0):=by
  cases r with
  |nil=>show letB d=false;exact h.l
  |cons c t=>rfl
 unfold brS;rw[e,zIc h,CU (m:=[45,45,62]) (fun b hb=>by
  simp only[ja,Jd,Ff]at hb;rcases hb with rfl|rfl|rfl
  ·exact h45
  ·exact h45
  ·exact fun e=>h.k.2 e.symm),zGD h,BJ h,BJ h,hl,fu h]
theorem TB{c:UInt8}{k:Int}(h1:14<=k)(h2:k<=24)(hc:DJ k=[c])(hp:c≠47)(y:Str):QS (c::y)=⟨k,[],0,[],false⟩::QS y:=by have h:=bV (k:=k) (by omega) h2 y;rw[hc,Ia (by omega)]at h;rw[Sm (mi (zHA (Ga.2 hp))),show c::y=[c]++y from rfl,h]
def clnB(c:UInt8):Str:=if c=0 then [239,191,189]else if c=12\/c=13 then [10]else [c]
def clR:Bool->Str->Str
 |_,[]=>[]
 |cr,c::r=>(if c=10/\cr=true then []else clnB c)++clR (c==13) r
theorem pO{c:UInt8}{r:Str}(h:c=13-> ∀q,r≠10::q):Proofs.Cl.cleanS (c::r)=clnB c++Proofs.Cl.cleanS r:=by
 rw[Proofs.Cl.cleanS]
 ·unfold clnB;by_cases h0:c=0
  ·subst h0;rfl
  ·have e0:(c==0)=false:=Ga.2 h0;rw[e0,Ia h0,Ca];by_cases h1:c=12\/c=13
   ·rw[Ka h1];rcases h1 with rfl|rfl<;>rfl
   ·rw[Ia h1];have e1:(c==12||c==13)=false:=by simp only[Ve,Ga];exact⟨fun q=>h1 (.inl q),fun q=>h1 (.inr q)⟩
    rw[e1,Ca];rfl
 ·intro r' e1 e2;exact h e1 r' e2
theorem yn: ∀(n:Nat) (s:Str),s.length<=n->clR false s=Proofs.Cl.cleanS s
 |0,s,h=>by obtain rfl:=Mf.1 (Nat.le_zero.1 h);rw[clR,Proofs.Cl.cleanS]
 |n+1,[],_=>by rw[clR,Proofs.Cl.cleanS]
 |n+1,c::r,h=>by
  rw[Ea]at h;rw[clR,Ia (fun q=>by cases q.2)];by_cases hc:c=13
  ·subst hc;rcases r with _|⟨d,r⟩
   ·rfl
   ·rw[Ea]at h;by_cases hd:d=10
    ·subst hd;rw[Proofs.Cl.cleanS,clR,Ka ⟨rfl,rfl⟩,<-yn n r (by omega)];rfl
    ·rw[pO (fun _ q e=>hd (List.cons.inj e).1)];rw[<-yn n (d::r) (by rw[Ea];omega),clR,clR,Ia (fun q=>hd q.1),Ia (fun q=>hd q.1)]
  ·rw[pO (fun q=>absurd q hc),<-yn n r (by omega),show(c==13)=false from Ga.2 hc]
theorem sfC(y:Str):Sf 125 y:=⟨rfl,rfl,rfl,rfl,rfl,rfl,rfl,rfl,rfl,rfl,by decide,rfl,rfl,by decide⟩
def endC(q:Str):Prop:= ∃r,q=r++[125]
theorem Om{a q:Str}(h:a<:+q)(hq:endC q)(ha:a≠[]):endC a:=by
 obtain⟨r,rfl⟩:=hq;obtain⟨b,e⟩:=h;rcases jf a with rfl|⟨t,c,rfl⟩
 ·exact absurd rfl ha
 ·rw[Af,<-Ib]at e;have:=xe e rfl;exact⟨t,by rw[Af,this]⟩
theorem sJ{a b:Str}(h:a<:+b)(ha:a≠[]):b≠[]:=fun e=>ha (List.suffix_nil.1 (e▸h))
theorem UL{q x:Str}{α:Sort _}(f:Str->α)(h: ∀r y,f (r++125::y)=f r)(hq:endC q):f (q++x)=f q:=by obtain⟨r,rfl⟩:=hq;rw[Ib,h r [],<-h r x];rfl
theorem zHe{c:UInt8}{r:Str}(x:Str)(hr:endC r)(h:(QH (c::r)).2≠[]):QH (c::(r++x))=((QH (c::r)).1,(QH (c::r)).2++x):=by
 have hq:endC (c::r):=by obtain⟨t,rfl⟩:=hr;exact⟨c::t,rfl⟩
 have nm: ∀{q:Str},endC q->nmS (q++x)=nmS q:=fun h=>UL nmS (fun r y=>BJ (sfC y) r) h;refine zCX (UL (brS c) (fun r y=>zH6 (sfC y) c r) hr) h (fun _=>nm hr) (fun hb=> ?_);rw[Co,hb,Wy]at h;have hne:=MX h;have s1:(ZG (c::r)).1<:+(qp (Ng (c::r))).1:=zGI _;have s2:(qp (Ng (c::r))).1<:+Ng (c::r):=rV _;have s3:Ng (c::r)<:+c::r:=(Jl _ _).trans (by unfold unsign;split;exact De 1 _;exact Ce _);have n1:(qp (Ng (c::r))).1≠[]:=sJ s1 hne;have n2:Ng (c::r)≠[]:=sJ s2 n1;have e2:=Om s3 hq n2;have e1:=Om s2 e2 n1;have e0:=Om s1 e1 hne;obtain⟨a,b⟩:=zFB (q:=c::r) (x:=x) hne (fun e=>by obtain⟨t,et⟩:=e2;rw[e]at et;cases t with|nil=>cases et|cons a t=>cases t<;>cases et) (fun hn=>by
  generalize (qp (Ng (c::r))).1=w at hn e1 ⊢;obtain⟨t,rfl⟩:=e1;rw[zCs]at hn ⊢;rw[Ib,Je];cases t with
  |nil=>rfl
  |cons d t=>
   have h1:digB (atS (unsign (t++[125])) 0)=digB (atS (unsign t) 0):=by rw[jG (sfC []),OE (sfC [])]
   have h2:digB (atS (unsign (t++125::x)) 0)=digB (atS (unsign t) 0):=by rw[jG (sfC x),OE (sfC x)]
   have hn:((d==101||d==69)&&digB (atS (unsign (t++[125])) 0))=false:=hn;show((d==101||d==69)&&digB (atS (unsign (t++125::x)) 0))=false;rw[h2,<-h1];exact hn)
 exact⟨a,b,nm e0⟩
theorem lS{q:Str}(x:Str)(hq:endC q)(h:cmtS q≠[]):cmtS (q++x)=cmtS q++x:=by
 refine uK h ?_;have hp:=zEA q;obtain⟨t,e⟩:=Om (Uh q) hq h;cases t with
 |nil=>rw[e];rfl
 |cons a t=>
  cases t with
  |nil=>rw[e];show((47:UInt8)==a&&false)=false;rw[Md]
  |cons b u=> rw[e]at hp ⊢;exact(zDh (u++[125]) x).trans hp
theorem zIj{ts:List zk}{q R:Str}(x:Str):endC q->run q ts R->cmtS R≠[]->run (q++x) ts (R++x):=by
 induction ts generalizing q with
 |nil=>intro _ h _;rw[run]at h;subst h;rfl
 |cons t ts ih=>
  intro hq h hR;obtain⟨c,r,h1,h2,h3⟩:=h;have hR0:R≠[]:=fun e=>hR (by rw[e];exact mi rfl);have h4:(QH (c::r)).2≠[]:=fun e=>by have:=Jo h3;rw[e]at this;exact hR0 (List.suffix_nil.1 this)
  have hc:endC (c::r):=Om (h1▸Uh q) hq (by simp);have hs:=Kl c r;have hr:r≠[]:=sJ hs h4;have hr2:=Om (Gd c r) hc hr;have h5:=zHe x hr2 h4;refine⟨c,r++x,by rw[lS x hq (by rw[h1];simp),h1];rfl,by rw[h5];exact h2,?_⟩;rw[h5];exact ih (Om hs hr2 h4) h3 hR
theorem zHS{c R:Str}{ts:List zk}(x:Str)(h:run c ts R)(hR:cmtS R=[125]):QS (c++x)=QS c++QS x:=by
 have hc:endC c:=by have h1:[125]<:+c:=hR▸(Uh R).trans (Jo h);obtain⟨t,e⟩:=h1;exact⟨t,e.symm⟩
 have hRc:endC R:=Om (Jo h) hc (fun e=>by rw[e]at hR;cases hR.symm.trans (mi rfl));have mk: ∀y:Str,QS (125::y)=⟨24,[],0,[],false⟩::QS y:=fun y=>TB (by decide) (by decide) rfl (by decide) y;rw[KA (zIj x hc h (by rw[hR];simp)),KA h,<-EA (R++x),<-EA R,lS x hRc (by rw[hR];simp),hR];show _++QS (125::x)=(_++QS (125::[]))++_;rw[mk,mk,Uo (l:=[]) (mi rfl),Ib];rfl
theorem wK: ∀(s t:Str) (b:Bool),(∀p,s≠p++[13])->s≠[]->clR b (s++t)=clR b s++clR false t
 |[],_,_,_,h=>absurd rfl h
 |[c],t,b,h,_=>by have:(c==13)=false:=Ga.2 fun e=>h [] (by rw[e];rfl);rw[Je,clR,clR,clR,this,Ub]
 |c::d::s,t,b,h,_=>by rw[Db,clR,wK (d::s) t _ (fun p e=>h (c::p) (by rw[e];rfl)) (by simp),<-Ib];rfl
theorem AO{s:Str}(t:Str)(h: ∀p,s≠p++[13]):Proofs.Cl.cleanS (s++t)=Proofs.Cl.cleanS s++Proofs.Cl.cleanS t:=by
 rw[<-yn _ _ (Ra _),<-yn _ s (Ra _),<-yn _ t (Ra _)];cases s with
 |nil=>rfl
 |cons c s=>exact wK _ t _ h (by simp)
theorem WM: ∀(p:Str) (b:Bool),(∃y,clR b (p++[13])=y++[10])
 |[],b=>⟨[],by rw[Mc,clR,clR,Ia fun h=>nomatch h.1];rfl⟩
 |c::p,b=>by obtain⟨y,hy⟩:=WM p (c==13);refine⟨(if c=10/\b=true then []else clnB c)++y,?_⟩;rw[Db,clR,hy,Ib]
theorem vV{s:Str}(h:endC (Proofs.Cl.cleanS s)): ∀p,s≠p++[13]:=by rintro p rfl;obtain⟨y,hy⟩:=WM p false;rw[yn _ _ (Ra _)]at hy;obtain⟨r,e⟩:=h;rw[hy]at e;cases xe e rfl
end Go.Lv.VT

namespace Go.Lv
theorem Le.lp{S X R:Type}{step step':S->Option (LO S X R)}{s:S}{k k':X->Option R}(h: ∀s,Le (step s) (step' s))(hk: ∀x,Le (k x) (k' x)):Le (Zp step s k) (Zp step' s k'):=by
 intro y hy;replace hy:((bg step s).bind fun x=>match x with| .out x=>k x| .ret r=>some r)=some y:=hy;cases hl:bg step s with
 |none=>rw[hl]at hy;cases hy
 |some r=>
  rw[hl]at hy;obtain⟨n,hn⟩:=dO hl;rw[qY (xh (PG h n s r hn))];cases r with
  |out x=>exact hk x y hy
  |ret r=>exact hy
def Ou{X Y:Type}(B:(X->Option Y)->X->Option Y):Prop:= ∀S S':X->Option Y,(∀x,Le (S x) (S' x))-> ∀x,Le (B S x) (B S' x)
theorem LA {X Y:Type} {B:(X->Option Y)->X->Option Y} (hm:Ou B) (μ:X->Nat) (ok:X->Prop) (R:X->Y->Prop)
  (hB: ∀(S:X->Option Y) (x:X),ok x->(∀z,ok z->μ z<μ x-> ∃y,S z=some y/\R z y)-> ∃y,B S x=some y/\R x y) {x:X} (hx:ok x): ∃y,recE B x=some y/\R x y:=by
 have step: ∀n x,Le (lg B n x) (lg B (n+1) x):=by
  intro n
  induction n with
  |zero=>intro x;exact Le.none
  |succ n ih=>intro x;exact hm _ _ ih x
 have up: ∀d n x,Le (lg B n x) (lg B (n+d) x):=by
  intro d
  induction d with
  |zero=>intro n x;exact Le.rfl
  |succ d ih=>intro n x y hy;exact step _ x y (ih n x y hy)
 have key: ∀(m:Nat) (x:X),μ x<m->ok x-> ∃y,lg B m x=some y/\R x y:=by
  intro m
  induction m with
  |zero=>intro x h;omega
  |succ m ih=> intro x hm hok;exact hB _ x hok fun z hz hlt=>ih z (by omega) hz
 obtain⟨y,h1,h2⟩:=key (μ x+1) x (by omega) hx;refine⟨y,fF (N:=μ x+1) fun n hn=> ?_,h2⟩;obtain⟨d,rfl⟩:=Nat.le.dest hn;exact up d _ x y h1
theorem zCO {A S X R:Type} {step:S->Option (LO S X R)} {k:X->Option R} (n:Nat) (st:Nat->A->S) (Inv:Nat->A->Prop) (Q:R->Prop) {s0:S} {a0:A} (h0:s0=st 0 a0) (hI:Inv 0 a0)
  (hg: ∀(i:Nat) (a:A),i<n->Inv i a->(∃a',step (st i a)=some (.again (st (i+1) a'))/\Inv (i+1) a')\/(∃r,step (st i a)=some (.ret r)/\Q r)\/(∃x,step (st i a)=some (.out x)/\ ∃r,k x=some r/\Q r))
  (hf: ∀a,Inv n a->(∃x,step (st n a)=some (.out x)/\ ∃r,k x=some r/\Q r)\/(∃r,step (st n a)=some (.ret r)/\Q r)): ∃r,Zp step s0 k=some r/\Q r:=by
 have key: ∀(m i:Nat) (a:A),i+m=n->Inv i a-> ∃j x,qd step j (st i a)=some x/\ ∃r,LX.go x k=some r/\Q r:=by
  intro m
  induction m with
  |zero=>
   intro i a hi ha;obtain rfl:i=n:=by omega
   rcases hf a ha with⟨x,h1,r,h2,h3⟩|⟨r,h1,h2⟩
   ·exact⟨1, .out x,by simp only[qd,h1],r,h2,h3⟩
   ·exact⟨1, .ret r,by simp only[qd,h1],r,rfl,h2⟩
  |succ m ih=>
   intro i a hi ha;rcases hg i a (by omega) ha with⟨a',h1,h2⟩|⟨r,h1,h2⟩|⟨x,h1,r,h2,h3⟩
   ·obtain⟨j,x,g1,g2⟩:=ih (i+1) a' (by omega) h2;exact⟨j+1,x,by simp only[qd,h1];exact g1,g2⟩
   ·exact⟨1, .ret r,by simp only[qd,h1],r,rfl,h2⟩
   ·exact⟨1, .out x,by simp only[qd,h1],r,h2,h3⟩
 obtain⟨j,x,h1,r,h2,h3⟩:=key n 0 a0 (by omega) hI;refine⟨r,?_,h3⟩;rw[h0,qY (xh h1),h2]
namespace VT
def mx{α:Type}(f:α->Nat):List α->Nat
 |[]=>0
 |v::l=>max (f v) (mx f l)
theorem aT(a b:Nat):(if(b:Int)>(a:Int)then(b:Int)else(a:Int))=((max a b:Nat):Int):=by split<;>omega
end VT
def Has{α:Type}(x:Option α)(Q:α->Prop):Prop:= ∃y,x=some y/\Q y
def LXq{X R:Type}(P:X->Prop)(Q:R->Prop):LX X R->Prop
 | .out x=>P x
 | .ret r=>Q r
def LOq{S X R:Type}(I:S->Prop)(P:X->Prop)(Q:R->Prop):LO S X R->Prop
 | .again s=>I s
 | .out x=>P x
 | .ret r=>Q r
section
variable {α β S X R:Type}
theorem Has.some{y:α}{Q:α->Prop}(h:Q y):Has (Option.some y) Q:=⟨y,rfl,h⟩
theorem Has.of{x:Option α}{y:α}{Q:α->Prop}(e:x=Option.some y)(h:Q y):Has x Q:=⟨y,e,h⟩
theorem Has.wk{x:Option α}{Q Q':α->Prop}(h:Has x Q)(g: ∀y,Q y->Q' y):Has x Q':=let⟨y,e,q⟩:=h;⟨y,e,g y q⟩
theorem Has.bind{x:Option α}{P:α->Prop}{f:α->Option β}{Q:β->Prop}(h:Has x P)(g: ∀y,P y->Has (f y) Q):Has (ze x f) Q:=by obtain⟨y,rfl,p⟩:=h;exact g y p
theorem Has.eqb{x:Option α}{y:α}{f:α->Option β}{Q:β->Prop}(e:x=Option.some y)(g:Has (f y) Q):Has (ze x f) Q:=by rw[e];exact g
theorem Has.bif{c:Bool}{a b:Option α}{Q:α->Prop}(h:c=true->Has a Q)(g:c=false->Has b Q):Has (bif c then a else b) Q:=by
 cases c
 ·exact g rfl
 ·exact h rfl
theorem Has.need{c:Bool}{a:Option α}{Q:α->Prop}(h:c=true)(g:Has a Q):Has (Lv.need c a) Q:=by rw[h];exact g
theorem Has.cond{c:Bool}{a:Option α}{d:α}{Q:α->Prop}(h:c=true->Has a Q)(g:c=false->Q d):Has (zK c a d) Q:=by
 cases c
 ·exact⟨d,rfl,g rfl⟩
 ·exact h rfl
theorem Has.join{m:Option (LX X R)}{k:X->Option R}{P:X->Prop}{Q:R->Prop}(h:Has m (LXq P Q))(g: ∀x,P x->Has (k x) Q):Has (Zv m k) Q:=by
 obtain⟨y,rfl,p⟩:=h;cases y with
 |out x=>exact g x p
 |ret r=>exact⟨r,rfl,p⟩
theorem Has.loop {step:S->Option (LO S X R)} {s:S} {k:X->Option R} (I:S->Prop) (μ:S->Nat) {P:X->Prop} {Q:R->Prop} (h0:I s)
  (h: ∀s,I s->Has (step s) (LOq (fun s'=>I s'/\μ s'<μ s) P Q)) (g: ∀x,P x->Has (k x) Q):Has (Zp step s k) Q:=by
 have key: ∀(m:Nat) (s:S),μ s<m->I s-> ∃n r,qd step n s=Option.some r/\LXq P Q r:=by
  intro m
  induction m with
  |zero=>intro s h;omega
  |succ m ih=>
   intro s hm hs;obtain⟨y,e,q⟩:=h s hs;cases y with
   |again s'=> obtain⟨n,r,e',q'⟩:=ih s' (by have:=q.2;omega) q.1;exact⟨n+1,r,by simp only[qd,e];exact e',q'⟩
   |out x=>exact⟨1, .out x,by simp only[qd,e],q⟩
   |ret r=>exact⟨1, .ret r,by simp only[qd,e],q⟩
 obtain⟨n,r,e,q⟩:=key _ s (Ke _) h0;rw[qY (xh e)];cases r with
 |out x=>exact g x q
 |ret r=>exact⟨r,rfl,q⟩
end
end Go.Lv

namespace Go.Lv.VT
def zL{α:Type}(f:α->List PV)(l:List α):Nat:=Sk (l.map f)
theorem Gh{α:Type}(f:α->List PV):zL f []=0:=rfl
theorem ZK{α:Type}(f:α->List PV)(v:α)(l:List α):zL f (v::l)=zA (f v)+zL f l:=rfl
theorem Ah{α:Type}{f:α->List PV}{v:α}: ∀{l:List α},v∈l->zA (f v)<=zL f l
 |[],h=>by cases h
 |x::l,h=>by
  rw[ZK];rcases ja.1 h with rfl|h
  ·omega
  ·have:=Ah (f:=f) h;omega
theorem Ag{α:Type}{f:α->List PV}(a: ∀v,1<=zA (f v)): ∀(l:List α),l.length<=zL f l
 |[]=>Ra _
 |v::l=>by rw[ZK,Ea];have:=Ag a l;grind
theorem Ig{α:Type}{f:α->List PV}{a b:List α}(h:a.Sublist b):zL f a<=zL f b:=by
 induction h with
 |slnil=>grind
 |cons v _ c=>rw[ZK];omega
 |cons_cons v _ c=>rw[ZK,ZK];omega
theorem xS: ∀l:List UInt8,Sk (l.map fun y=>[PV.at (.int .u8 ((y.toNat:Nat):Int))])=l.length
 |[]=>rfl
 |b::l=>by have:=xS l;simp only[Ac,Sk,zA,bPV,Ea]at this ⊢;omega
theorem Q8(x:za):zA (zg x)=6+x.token.text.length+x.token.unit.length+zL zg x.list:=by rw[G8];simp only[zA,bPV,zL];omega
mutual
/-- How large values are. -/
def szV:za->Nat
 |⟨t,l⟩=>1+t.text.length+t.unit.length+szL l
def szL:List za->Nat
 |[]=>0
 |v::r=>szV v+szL r
end
theorem Ii(v:za):szV v=1+v.token.text.length+v.token.unit.length+szL v.list:=by obtain⟨t,l⟩:=v;rw[szV]
theorem Jm{v:za}: ∀{l:List za},v∈l->szV v<=szL l
 |[],h=>by cases h
 |x::l,h=>by
  rw[szL];rcases ja.1 h with rfl|h
  ·omega
  ·have:=Jm h;omega
theorem Rh: ∀(l:List za),l.length<=szL l
 |[]=>Ra _
 |v::r=>by rw[szL,Ii,Ea];have:=Rh r;omega
theorem jF(n:Nat):decide ((n:Int)>0)=decide (0<n):=by
 by_cases h:0<n
 ·rw[Ha h,Ha (by omega)]
 ·rw[Ta h,Ta (by omega)]
theorem wW(k:Int):VC k=some (Zf k):=by
 unfold VC Zf;by_cases h1:k=19
 ·subst h1;rfl
 by_cases h2:k=21
 ·subst h2;rfl
 by_cases h3:k=2
 ·subst h3;rfl
 by_cases h4:k=23
 ·subst h4;rfl
 have e1:(k==19)=false:=Ga.2 h1;have e2:(k==21)=false:=Ga.2 h2;have e3:(k==2)=false:=Ga.2 h3;have e4:(k==23)=false:=Ga.2 h4;simp only[e1,e2,e3,e4,Ca,zJ,h1,h2,h3,h4,Sd,or_self]
theorem YI(k:Int):Wt k=some (Zf k):=by
 unfold Wt Zf;by_cases h1:k=19
 ·subst h1;rfl
 by_cases h2:k=21
 ·subst h2;rfl
 by_cases h3:k=2
 ·subst h3;rfl
 by_cases h4:k=23
 ·subst h4;rfl
 have e1:(k==19)=false:=Ga.2 h1;have e2:(k==21)=false:=Ga.2 h2;have e3:(k==2)=false:=Ga.2 h3;have e4:(k==23)=false:=Ga.2 h4;simp only[e1,e2,e3,e4,Ca,zJ,h1,h2,h3,h4,Sd,or_self]
mutual
/-- The depth of values. -/
def Tk:za->Nat
 |⟨t,l⟩=>if Zf t.kind=0 then 0 else 1+mf l
def mf:List za->Nat
 |[]=>0
 |v::r=>max (Tk v) (mf r)
end
theorem XL(v:za):Tk v=if Zf v.token.kind=0 then 0 else 1+mf v.list:=by obtain⟨t,l⟩:=v;rw[Tk]
mutual
theorem zCm: ∀v:za,Tk v<=szV v
 |⟨t,l⟩=>by rw[Tk,szV];have:=Nw l;split<;>omega
theorem Nw: ∀l:List za,mf l<=szL l
 |[]=>Ra _
 |v::r=>by rw[mf,szL];have:=zCm v;have:=Nw r;omega
end
theorem IA{l:List za}: ∀{i:Nat} (h:i<l.length),szL (l.take (i+1))=szL (l.take i)+szV l[i]:=by
 induction l with
 |nil=>intro i h;cases h
 |cons v r ih=>
  intro i h;cases i with
  |zero=>simp[szL]
  |succ i=> simp only[Xd,szL,List.getElem_cons_succ];rw[ih (by simpa using h)];omega
theorem uB(l:List za)(i:Nat):szL (l.take i)<=szL l:=by
 induction l generalizing i with
 |nil=>simp
 |cons v r ih=>
  cases i with
  |zero=>simp[szL]
  |succ i=>simp only[Xd,szL];have:=ih i;omega
mutual
/-- The tokens of values. -/
def tokV:za->List zk
 |⟨t,l⟩=>t::if Zf t.kind=0 then []else tokL l++[⟨Zf t.kind,[],0,[],false⟩]
def tokL:List za->List zk
 |[]=>[]
 |v::r=>tokV v++tokL r
end
theorem Hm(v:za):tokV v=v.token::if Zf v.token.kind=0 then []else tokL v.list++[⟨Zf v.token.kind,[],0,[],false⟩]:=by obtain⟨t,l⟩:=v;rw[tokV]
mutual
theorem Tv: ∀v:za,(tokV v).length<=2*szV v
 |⟨t,l⟩=>by
  rw[tokV,szV];have:=Jr l;split
  ·simp;omega
  ·simp;omega
theorem Jr: ∀l:List za,(tokL l).length<=2*szL l
 |[]=>Ra _
 |v::r=>by rw[tokL,szL,La];have:=Tv v;have:=Jr r;omega
end
theorem nA: ∀(l:List za) (a:List zk),l.foldl (fun a v=>a++tokV v) a=a++tokL l
 |[],a=>by simp[tokL]
 |v::l,a=>by rw[Ae,nA l,tokL,Ib]
theorem vW{l:List za}(h:szL l<=big):QJ l=some (tokL l):=by
 refine Pj (fun l=>szL l) (fun l=>szL l<=big) (fun l=>tokL l) (fun S l hl hS=> ?_) h;unfold BD;have hlen:=Rh l;refine(Xo l (fun i (a:List zk)=>((i:Int),a)) (fun v a=>some (.again (a++tokV v))) (fun a=>some (.out a)) (fun i a=>a.length<=2*szL (l.take i)) (a:=[]) rfl (by simp) (fun i a hi hI=> ?_) (fun a _=> ?_) (r:= .out (tokL l)) ?_)
 ·have hsz:=Jm (Pb hi);have hv2:=Ii l[i];have hd:=Hm l[i];have hd2:=Jr l[i].list;have ht:=IA hi;have ht2:=uB l (i+1);have hv3:=Tv l[i];unfold big at hl;have hap: ∀n m:Nat,n+m<=100000000->Zw n m 56=true:=fun n m h=>qg (by omega);refine⟨?_,fun a' ha=> ?_⟩
  ·simp only[qa hi,Da,ze,Zy hi,Aa,wW];by_cases hc:Zf l[i].token.kind=0
   ·rw[Ka hc]at hd;simp[hc,hd,ZI hi (by unfold big;omega),hap a.length 1 (by omega)]
   ·rw[Ia hc]at hd;rw[hS l[i].list (by unfold big;omega) (by omega)];have hb:(Zf l[i].token.kind != 0)=true:=We.2 hc;simp[hb,hd,ZI hi (by unfold big;omega),hap a.length 1 (by omega),hap (a.length+1) (tokL l[i].list).length (by omega),hap (a.length+((tokL l[i].list).length+1)) 1 (by omega)]
  ·cases ha;rw[La,ht];omega
 ·simp only[ZU,Ca];rfl
 ·rw[Ap (fun a v=>a++tokV v) (fun v a=>rfl),nA];simp
mutual
/-- Whether lists are those of blocks, and have not their closers. -/
def shV:za->Int->Bool
 |⟨t,l⟩,c=> !((Zf t.kind==0&&decide (0<l.length))||(c != 0&&t.kind==c)||(Zf t.kind != 0&& !(shL l (Zf t.kind))))
def shL:List za->Int->Bool
 |[],_=>true
 |v::r,c=>shV v c&&shL r c
end
theorem JK(v:za)(c:Int):shV v c= !((Zf v.token.kind==0&&decide (0<v.list.length))||(c != 0&&v.token.kind==c)||(Zf v.token.kind != 0&& !(shL v.list (Zf v.token.kind)))):=by obtain⟨t,l⟩:=v;rw[shV]
def ol(l:List za)(c:Int):Zq:=⟨mf l,(tokL l).length, !(shL l c)⟩
theorem YN(c:Int): ∀(l:List za) (a:Nat×Nat×Bool),l.foldl (fun a v=>(max a.1 (Tk v),a.2.1+(tokV v).length,a.2.2|| !(shV v c))) a=(max a.1 (mf l),a.2.1+(tokL l).length,a.2.2|| !(shL l c))
 |[],a=>by simp[mf,tokL,shL]
 |v::l,a=>by rw[Ae,YN c l,mf,tokL,shL,La];simp only[Prod.mk.injEq];refine⟨by omega,by omega,?_⟩;cases a.2.2<;>cases shV v c<;>cases shL l c<;>rfl
theorem tK(a b:Bool):(bif a then true else b)=(a||b):=by cases a<;>rfl
theorem zCc(a b:Bool):(bif a then b else false)=(a&&b):=by cases a<;>rfl
theorem AQ{l:List za}{c:Int}(h:szL l<=big):Ik (l,c)=some (ol l c):=by
 refine Pj (fun x:List za×Int=>szL x.1) (fun x=>szL x.1<=big) (fun x=>ol x.1 x.2) (fun S x hl hS=> ?_) h;obtain⟨l,c⟩:=x;simp only at hl hS ⊢;unfold xB;have hlen:=Rh l;refine(Xo l (fun i (a:Nat×Nat×Bool)=>((i:Int),(⟨(a.1:Int),(a.2.1:Int),a.2.2⟩:Zq))) (fun v a=>some (.again (max a.1 (Tk v),a.2.1+(tokV v).length,a.2.2|| !(shV v c)))) (fun a=>some (.out (⟨(a.1:Int),(a.2.1:Int),a.2.2⟩:Zq))) (fun i a=>a.2.1<=2*szL (l.take i)) (a:=(0,0,false)) rfl (by simp) (fun i a hi hI=> ?_) (fun a _=> ?_) (r:= .out (ol l c)) ?_)
 ·have hsz:=Jm (Pb hi);have hv2:=Ii l[i];have hd:=XL l[i];have hd2:=Nw l[i].list;have ht:=Hm l[i];have ht2:=Jr l[i].list;have hsh:=JK l[i] c;have htk:=IA hi;have htk2:=uB l (i+1);have hv3:=Tv l[i];have hs1:szL l[i].list<=big:=by omega
  have hs2:szL l[i].list<szL l:=by omega
  have hSq:S (l[i].list,Zf l[i].token.kind)=some (ol l[i].list (Zf l[i].token.kind)):=hS (l[i].list,Zf l[i].token.kind) hs1 hs2;obtain⟨d,n,b⟩:=a;simp only at hI;have hw:=ZI hi (by omega);unfold big at hl;have hw1:w64 ((n:Int)+1)=((n+1:Nat):Int):=by rw[w64,Qf (by omega) (by omega)];omega
  refine⟨?_,fun a' ha=> ?_⟩
  ·have hp:decide ((l[i].list.length:Int)>0)=decide (0<l[i].list.length):=jF _;simp only[qa hi,Da,ze,Zy hi,Aa,YI,Cc,hw1,bne,hp,tK,zCc];by_cases hc:Zf l[i].token.kind=0
   ·rw[Ka hc]at hd ht;simp only[hc,Be,Kb,Eb,Ld,Gf,bne]at hsh ⊢;rw[hsh,hd,ht];rcases ae (decide (0<l[i].list.length))with h2|h2<;>rcases ae (c==0)with h3|h3<;>rcases ae (l[i].token.kind==c)with h4|h4<;>
     simp[h2,h3,h4,hw,Da,Ca]
   ·rw[Ia hc]at hd ht;have hcb:(Zf l[i].token.kind==0)=false:=Ga.2 hc;have hw2:w64 ((mf l[i].list:Int)+1)=((1+mf l[i].list:Nat):Int):=by rw[w64,Qf (by omega) (by omega)];omega
    have hw3:w64 (((n+1:Nat):Int)+((tokL l[i].list).length:Int))=((n+1+(tokL l[i].list).length:Nat):Int):=by rw[w64,Qf (by omega) (by omega)];omega
    have hw4:w64 (((n+1+(tokL l[i].list).length:Nat):Int)+1)=((n+(1+((tokL l[i].list).length+1)):Nat):Int):=by rw[w64,Qf (by omega) (by omega)];omega
    have htl:(tokV l[i]).length=1+((tokL l[i].list).length+1):=by rw[ht];simp;omega
    have hm:(if((1+mf l[i].list:Nat):Int)>(d:Int)then((1+mf l[i].list:Nat):Int)else(d:Int))=((max d (1+mf l[i].list):Nat):Int):=by split<;>omega
    rw[hsh,hd,htl];simp only[hcb,hSq,Ld,Ua,Kb,Gf,Bg,Ca,bne,Aa,ol];rcases ae (c==0)with h3|h3<;>rcases ae (l[i].token.kind==c)with h4|h4<;>
     simp only[h3,h4,hw,hw2,hw3,hw4,hm,Da,Ca,zJ,Eb,Ua,Kb,Gc,Md,Ld,Bool.or_true,Gf,Bool.true_or,Bg,Bool.not_not]
  ·cases ha;simp only;omega
 ·simp only[ZU,Ca];rfl
 ·rw[Ap (fun a v=>(max a.1 (Tk v),a.2.1+(tokV v).length,a.2.2|| !(shV v c))) (fun v a=>rfl),YN];simp[ol]
end Go.Lv.VT
