import Derived.Test.YtiidaccdmolmkaaGreatDoorXe
set_option linter.all false
namespace Go.Lv.VT
set_option maxRecDepth 100000
def run:aE->List ze->aE->Prop
 |q,[],R=>q=R
 |q,t::a,R=> ∃c r,cS q=c::r/\(qf (c::r)).1=t/\run (qf (c::r)).2 a R
def Ez: ∀{ts:List ze} {q R:aE},run q ts R->R<:+q
 |[],q,R,h=>by rw[run]at h;grind
 |t::ts,q,R,h=>by obtain⟨c,r,d,e,b⟩:=h;have a:=yj q;rw[d]at a;exact(Ez b).trans ((Hm c r).trans ((Yd c r).trans a))
def Iw: ∀{ts:List ze} {q R:aE},run q ts R->Qw q=ts++Qw R
 |[],q,R,h=>by rw[run]at h;subst h;rfl
 |t::ts,q,R,h=>by obtain⟨c,r,d,b,a⟩:=h;rw[nk d,b,Iw a];rfl
def uL: ∀{ts us:List ze} {q R S:aE},run q ts R->run R us S->run q (ts++us) S
 |[],us,q,R,S,h,a=>by rw[run]at h;subst h;exact a
 |t::ts,us,q,R,S,h,a=>by obtain⟨c,r,e,d,b⟩:=h;exact⟨c,r,e,d,uL b a⟩
def V7: ∀{ts us:List ze} {q:aE},Qw q=ts++us-> ∃R,run q ts R/\Qw R=us
 |[],us,q,h=>⟨q,rfl,h⟩
 |t::ts,us,q,h=>by
  cases a:cS q with
  |nil=>rw[Pj a]at h;cases h
  |cons c r=> rw[nk a,Bb]at h;injection h with d f;obtain⟨R,e,b⟩:=V7 f;exact⟨R,⟨c,r,a,d,e⟩,b⟩
def J2: ∀{ts:List ze} {q R S:aE},run q ts R->run q ts S->R=S
 |[],q,R,S,h,b=>by rw[run]at h b;rw[<-h,b]
 |t::ts,q,R,S,h,b=>by obtain⟨c,r,f,m,g⟩:=h;obtain⟨l,k,a,e,d⟩:=b;rw[f]at a;injection a with i j;subst i j;exact J2 g d
def U2{ts:List ze}{q R:aE}(d:ts≠[]):run (cS q) ts R↔run q ts R:=by
 cases ts with
 |nil=>grind
 |cons t ts=>
  constructor
  ·rintro⟨c,r,a,b⟩;rw[Wo]at a;exact⟨c,r,a,b⟩
  ·rintro⟨c,r,a,b⟩;exact⟨c,r,by rw[Wo];exact a,b⟩
def wS(x:aE): ∀{l r:aE},gc l=some r->gc (l++x)=some (r++x)
 |[],r,h=>by cases h
 |c::t,r,h=>by
  rw[gc]at h;rw[Bb,gc];cases t with
  |nil=>
   cases a:c==42&&cr ([]:aE) 0==47 with
   |true=>rw[Da]at a;exact absurd a.2 (by decide)
   |false=>rw[a,Ka (by decide)]at h;cases h
  |cons d u=>
   rw[show cr ((d::u)++x) 0=cr (d::u) 0 from rfl];split
   ·grind
   ·rename_i a;rw[Ka a]at h;exact wS x h
def Gz{q x:aE}(h:cS q≠[])(a:([47,42]:aE).isPrefixOf (cS q++x)=false):cS (q++x)=cS q++x:=by
 rw[Ak q]at h a ⊢;split at h
 ·rename_i b;have c:=jl b;rw[show([47,42]:aE).length=2 from rfl]at c;rw[La b]at a ⊢;cases d:gc (q.drop 2)with
  |none=>grind
  |some p=>
   rw[d]at h a;simp only at h a ⊢;rw[Ak (q++x),Kv x (by exact c),b,La rfl,bv c,wS x d];simp only;have e:p.length<q.length:=by have e:=(Jo _ d).2;rw[Ic]at e;omega
   exact Gz h a
 ·rename_i b;rw[Ka b]at a ⊢;exact Qg a
termination_by q.length
decreasing_by omega
def zNA{c d:UInt8}(t x:aE):([47,42]:aE).isPrefixOf ((c::d::t)++x)=([47,42]:aE).isPrefixOf (c::d::t):=Kv x (by grind)
def L6{q x:aE}(h:2<=(cS q).length):cS (q++x)=cS q++x:=by refine Gz (ut (by omega)) ?_;rw[Kv x (by exact h)];exact Fz q
def w9{c:UInt8}{r:aE}(h:(qf (c::r)).2≠[]):2<=(c::r).length:=by
 have b:=(Hm c r).length_le;have a:=Oe.2 h
 grind
def K4: ∀{ts:List ze} {q R:aE} (x:aE),run q ts R->4<=R.length->run (q++x) ts (R++x)
 |[],q,R,x,h,_=>by rw[run]at h;subst h;rfl
 |t::ts,q,R,x,h,e=>by obtain⟨c,r,a,f,b⟩:=h;have i:=(Ez b).length_le;have d:=zNn x (c:=c) (r:=r) (by omega);have g:=w9 (c:=c) (r:=r) (ut (by omega));refine⟨c,r++x,by rw[L6 (by rw[a];exact g),a];rfl,by rw[d];exact f,?_⟩;rw[d];exact K4 x b e
def KR{q:aE}(y:aE)(h:cS q≠[]):cS (q++47::42::y)=cS q++47::42::y:=by
 refine Gz h ?_;have b:=Fz q;cases a:cS q with
 |nil=>exact absurd a h
 |cons c t=>
  cases t with
  |nil=>
   grind
  |cons d u=>grind
def tQ: ∀{ts:List ze} {q R:aE} (y:aE),run q ts R->R≠[]->run (q++47::42::y) ts (R++47::42::y)
 |[],q,R,y,h,_=>by rw[run]at h;subst h;rfl
 |t::ts,q,R,y,h,hl=>by
  obtain⟨c,r,h1,h2,h3⟩:=h;have h4:(qf (c::r)).2≠[]:=by intro e;have:=(Ez h3).length_le;rw[e]at this;exact hl (List.length_eq_zero_iff.1 (by simpa using this))
  have a:=zQA (42::y) h4;refine⟨c,r++47::42::y,by rw[KR y (by rw[h1];simp),h1];rfl,by rw[a];exact h2,?_⟩;rw[a];exact tQ y h3 hl
def VY(q x:aE)(us:List ze):Prop:= ∃c r,cS q=c::r/\MQ c r x/\(qf (c::(r++x))).1=(qf (c::r)).1/\Qw (qf (c::(r++x))).2=us
def N8: ∀{ts us:List ze} {q R:aE} {x:aE},run q ts R->R≠[]->x≠[]->Qw (q++x)=ts++us->run (q++x) ts (R++x)\/(R=[43]/\ ∃p,p<:+q/\VY p x us)
 |[],us,q,R,x,h,_,_,_=>by rw[run]at h;subst h;exact .inl rfl
 |t::ts,us,q,R,x,h,hl,k,ht=>by
  obtain⟨c,r,h1,h2,h3⟩:=h;have h4:(qf (c::r)).2≠[]:=by intro e;have:=(Ez h3).length_le;rw[e]at this;exact hl (List.length_eq_zero_iff.1 (by simpa using this))
  have hc:cS (q++x)=c::(r++x):=by rw[L6 (by rw[h1];exact w9 h4),h1];rfl
  rw[nk hc,Bb]at ht;injection ht with a b;rcases zJ1 h4 k (by rw[a,h2])with d|d
  ·rw[d]at b;rcases N8 h3 hl k b with i|⟨i,p,hp,l⟩
   ·exact .inl ⟨c,r++x,hc,a,by rw[d];exact i⟩
   ·refine .inr ⟨i,p,hp.trans ((Hm c r).trans ((Yd c r).trans ?_)),l⟩;rw[<-h1];exact yj q
  ·right;have f:=d.2.1;have j:R=[43]/\ts=[]:=by
    cases ts with
    |nil=>rw[run,f]at h3;grind
    |cons u m=> exfalso;rw[f]at h3;obtain⟨n,o,e1,e2,e3⟩:=h3;rw[show cS [43]=[43]from Qg rfl]at e1;injection e1 with e4 e5;subst e4 e5;have:=(Ez e3).length_le;have s:=(Hm (43:UInt8) []).length_le;simp_all
   obtain⟨j,rfl⟩:=j;refine⟨j,q,Ie _,c,r,h1,d,by rw[a,h2],?_⟩;rw[b];rfl
def Vt{c:UInt8}(h0:c≠0)(h:c.toNat<128)(R:aE): ∃d t,ew c++R=92::d::t/\(d==10)=false/\zR (d::t)=([c],R):=by
 unfold ew;cases f:decide (32<c.toNat)&&decide (c.toNat<127)&& !cm c&& !alB c with
 |true=>
  have i:Q4 c=false/\(c==10)=false:=by
   have: ∀n:Nat,n<256->(decide (32<(UInt8.ofNat n).toNat)&&decide ((UInt8.ofNat n).toNat<127)&& !cm (UInt8.ofNat n)&& !alB (UInt8.ofNat n))=true->Q4 (UInt8.ofNat n)=false/\(UInt8.ofNat n==10)=false:=by decide+kernel
   have:=this c.toNat (Kb c);rw[Ae]at this;exact this f
  exact⟨c,R,rfl,i.2,by show(if Q4 c then _ else _)=_;grind⟩
 |false=> obtain⟨d,t,e,j,a⟩:=EN (n:=c.toNat) (Kb c) ([32]++R);refine⟨d,t,by grind,a,?_⟩;have b:=G5 (n:=c.toNat) (Kb c) R;rw[show(32::R:aE)=[32]++R from rfl,e]at b;show(if Q4 d then(Dh (hexes 6 0 (d::t)).1,js (hexes 6 0 (d::t)).2)else _)=_;rw[La j,b,zCY h0 h];rfl
def zRs(n:Nat):Dh n≠[]:=by
 unfold Dh Mm
 grind
def zGX(r:aE):(zR r).1≠[]:=by
 cases r with
 |nil=>show Mm≠[];decide
 |cons c r=>
  show(if Q4 c then(Dh (hexes 6 0 (c::r)).1,js (hexes 6 0 (c::r)).2)else([c],r)).1≠[];split
  ·exact zRs _
  ·simp
def yF{x:aE}(h:(zJ x).1=[]):(zJ x).2=x:=by
 cases x with
 |nil=>rw[QW]
 |cons c r=>
  rw[Zo]at h ⊢;split
  ·grind
  ·rename_i b;rw[Ka b]at h;split
   ·rename_i a;rw[La a]at h;exact absurd (List.append_eq_nil_iff.1 h).1 (zGX r)
   ·rfl
def Gn{c:UInt8}{r:aE}(h:ZL (c::r)=true):c≠0/\ZL r=true:=by
 unfold ZL at h ⊢
 grind
def mM{dash:Bool}(R:aE): ∀(k:Nat) (l:aE),ZL l=true->(dash=true-> ∀c∈l,c.toNat<128)->zJ (cJ dash k l++R)=(l++(zJ R).1,(zJ R).2)
 |_,[],_,_=>by rw[cJ];rfl
 |k,c::r,h,a=>by obtain⟨f,d⟩:=Gn h;rw[cJ,Ja,M3 f (λe=>a e c (Ub ..)),mM R (k - 1) r d (λe x b=>a e x (Vb _ b))];rfl
def oq{l:aE}(R:aE)(h:ZL l=true):zJ (ZA l++R)=(l++(zJ R).1,(zJ R).2):=by refine mM R _ _ h (λe c a=> ?_);simp_all
def zCA{l:aE}(R:aE)(k:Nat)(h:ZL l=true):zJ (cJ false k l++R)=(l++(zJ R).1,(zJ R).2):=mM R k l h (λe=>by cases e)
def zKG(c:UInt8):(dl c=true->c.toNat<128)/\(dl c=false->(c==34)=false/\(c==10)=false/\(c==92)=false):=by
 have: ∀n:Nat,n<256->(dl (UInt8.ofNat n)=true->(UInt8.ofNat n).toNat<128)/\(dl (UInt8.ofNat n)=false->(UInt8.ofNat n==34)=false/\(UInt8.ofNat n==10)=false/\(UInt8.ofNat n==92)=false):=by decide+kernel
 have:=this c.toNat (Kb c);simp_all
def zF4(x:aE): ∀(l:aE),ZL l=true->ZE 34 (cW dl l++34::x)=(some l,x)
 |[],_=>by rw[cW,Lb,Rp,La (by decide)]
 |c::r,h=>by
  obtain⟨f,k⟩:=Gn h;have m:=zF4 x r k;obtain⟨p,j⟩:=zKG c;rw[cW,Ja];cases a:dl c with
  |true=>
   obtain⟨d,t,o,n,b⟩:=Vt f (p a) (cW dl r++34::x);rw[Ca,o,Rp,Ka (by decide),Ka (by decide),La (by decide),show(d::t).isEmpty=false from rfl,Ka (by decide),show cr (d::t) 0=d from rfl,n,Ka (by decide),b]
   grind
  |false=> obtain⟨g,i,e⟩:=j a;rw[Ba,Jd,Rp,g,Ka (by decide),i,Ka (by decide),e,Ka (by decide),m];rfl
def P7(c:UInt8):(hY c=true->c.toNat<128)/\(hY c=false->(c==41)=false/\dj c=false/\(c==34||c==39||c==40||unB c)=false/\(c==92)=false/\(c==34)=false/\(c==39)=false):=by
 have: ∀n:Nat,n<256->(hY (UInt8.ofNat n)=true->(UInt8.ofNat n).toNat<128)/\(hY (UInt8.ofNat n)=false->(UInt8.ofNat n==41)=false/\dj (UInt8.ofNat n)=false/\(UInt8.ofNat n==34||UInt8.ofNat n==39||UInt8.ofNat n==40||unB (UInt8.ofNat n))=false/\(UInt8.ofNat n==92)=false/\(UInt8.ofNat n==34)=false/\(UInt8.ofNat n==39)=false):=by decide+kernel
 have:=this c.toNat (Kb c);simp_all
def zF5(x:aE): ∀(l:aE),ZL l=true->da (cW hY l++41::x)=(some l,x)
 |[],_=>by rw[cW,Lb,jk,La (by decide)]
 |c::r,h=>by
  obtain⟨g,n⟩:=Gn h;have o:=zF5 x r n;obtain⟨s,k⟩:=P7 c;rw[cW,Ja];cases a:hY c with
  |true=>
   obtain⟨d,t,q,p,e⟩:=Vt g (s a) (cW hY r++41::x);have m:cF (92::d::t)=true:=by unfold cF;rw[show cr (92::d::t) 1=d from rfl,p];rfl
   rw[Ca,q,jk,Ka (by decide),Ka (by decide),m,Ka (by decide),La (by decide),e]
   grind
  |false=> obtain⟨i,j,f,b,_,_⟩:=k a;rw[Ba,Jd,jk,i,Ka (by decide),j,Ka (by decide),f,b,Bc,Dc,Ka (by decide),Ka (by decide),o];rfl
def zOe(x:aE)(l:aE)(h:ZL l=true):cv dj (cW hY l++41::x)=cW hY l++41::x/\(cr (cW hY l++41::x) 0==34||cr (cW hY l++41::x) 0==39)=false:=by
 cases l with
 |nil=>exact⟨rfl,rfl⟩
 |cons c r=>
  obtain⟨b,q⟩:=Gn h;obtain⟨k,f⟩:=P7 c;rw[cW,Ja];cases a:hY c with
  |true=> obtain⟨d,t,i,s,n⟩:=Vt b (k a) (cW hY r++41::x);rw[Ca,i];exact⟨rfl,rfl⟩
  |false=> obtain⟨p,e,o,m,j,g⟩:=f a;rw[Ba,Jd];refine⟨by rw[cv,e];rfl,?_⟩;show(c==34||c==39)=false;rw[j,g];rfl
def zQQ{n:Int}{p:Bool}:(cA (n.natAbs%1000) p).isEmpty=((n.natAbs%1000==0)&& !p):=(Bo (r:=n.natAbs%1000) (by omega) p).2.2.2.2
def sgT(n:Int):aE:=if n<0 then [45]else []
def bD(n:Int)(p:Bool):cE n p=sgT n++(Lib.decDigits (n.natAbs / 1000)++cH (if(cA (n.natAbs%1000) p).isEmpty then none else some (cA (n.natAbs%1000) p))):=by
 have h:=(Bo (r:=n.natAbs%1000) (by omega) p).2.2.2.1;unfold cE Vg sgT;rw[h];cases (cA (n.natAbs%1000) p).isEmpty with
 |true=>rfl
 |false=>rfl
def q2_T(n:Int)(p:Bool)(x:aE):yf (cE n p++x)=cv cm (cH (if(cA (n.natAbs%1000) p).isEmpty then none else some (cA (n.natAbs%1000) p))++x):=by
 obtain⟨d,f,g⟩:=Dv (n.natAbs / 1000);obtain⟨c,r,e,a⟩:=vz (n.natAbs / 1000);rw[bD];generalize cH _=t;unfold yf;have b:cq ((sgT n++(Lib.decDigits (n.natAbs / 1000)++t))++x)=Lib.decDigits (n.natAbs / 1000)++(t++x):=by
  unfold sgT;split
  ·rw[Ja,Jd,Ja];rfl
  ·rw[Lb,Ja,e,Bb];unfold cq Hg;rw[show cr (c::(r++(t++x))) 0=c from rfl,Fa.2 (dh a).2.1,Fa.2 (dh a).1];rfl
 rw[b,cz _ _ d]
def oL{n:Int}{p:Bool}:(cA (n.natAbs%1000) p).all cm=true:=(Bo (r:=n.natAbs%1000) (by omega) p).1
def sS{n:Int}{p:Bool}(h:(cA (n.natAbs%1000) p).isEmpty=true)(x:aE):Za (cE n p++x)=(match cV (Zx (cv cm x)).1 with|some r=>(r,false)|none=>Zx (cv cm x)):=by rw[Jk,q2_T,h];rfl
def UR{n:Int}{p:Bool}(h:(cA (n.natAbs%1000) p).isEmpty=false)(x:aE):Za (cE n p++x)=(match cV (cv cm x)with|some r=>(r,false)|none=>(cv cm x,false)):=by
 obtain⟨c,r,b⟩: ∃c r,cA (n.natAbs%1000) p=c::r:=by
  cases f:cA (n.natAbs%1000) p with
  |nil=>grind
  |cons c r=>grind
 have a:=oL (n:=n) (p:=p);rw[Jk,q2_T,h];have e:cv cm (cH (some (cA (n.natAbs%1000) p))++x)=46::(cA (n.natAbs%1000) p++x):=rfl;rw[show(if false=true then none else some (cA (n.natAbs%1000) p))=some (cA (n.natAbs%1000) p)from rfl,e];have g:Zx (46::(cA (n.natAbs%1000) p++x))=(cv cm x,false):=by
  have d:cm c=true:=by rw[b,Yc,Da]at a;exact a.1
  unfold Zx;rw[show cr (46::(cA (n.natAbs%1000) p++x)) 1=c by rw[b];rfl,d,show(cr (46::(cA (n.natAbs%1000) p++x)) 0==46&&true)=true from rfl,La rfl];rw[show(46::(cA (n.natAbs%1000) p++x)).drop 1=cA (n.natAbs%1000) p++x from rfl,cz _ _ a]
 grind
def iX(n:Int)(p:Bool)(x:aE):iS (cE n p++x)=true:=by
 obtain⟨c,r,b,a⟩:=vz (n.natAbs / 1000);rw[bD,b];unfold iS;have d:cq ((sgT n++(c::r++cH (if(cA (n.natAbs%1000) p).isEmpty then none else some (cA (n.natAbs%1000) p))))++x)=c::(r++cH (if(cA (n.natAbs%1000) p).isEmpty then none else some (cA (n.natAbs%1000) p))++x):=by
  unfold sgT;split
  ·rfl
  ·unfold cq Hg;show(if(c==43||c==45)then _ else _)=_;rw[Fa.2 (dh a).2.1,Fa.2 (dh a).1];rfl
 rw[d];unfold fd;rw[show cr (c::(r++cH (if(cA (n.natAbs%1000) p).isEmpty then none else some (cA (n.natAbs%1000) p))++x)) 0=c from rfl,Fa.2 (dh a).2.2.1,Ka (by decide)];exact a
def mP{n:Int}(c: -1000000000000<=n)(h2:n<=1000000000000){p:Bool}{x:aE}(f:(Za (cE n p++x)).1=x):(ga (cE n p++x)).val=n:=by
 have h:=sF (cE n p++x);rw[f]at h;have b:=PL (iX n p x);have d:=(Kr c h2 p).1;have a:=zwi c h2 p;generalize ga (cE n p++x)=N at h b ⊢;have g:N.txt=cE n p:=(List.append_left_inj x).1 h;rw[<-g]at a d;have e:=EX b (Jc d (by decide));rw[a]at e
 grind
def Gs(n:Int)(p:Bool)(x:aE): ∃c r,cE n p++x=c::r/\(c==45||cm c)=true/\dj c=false/\(c==34||c==39)=false/\(c==35)=false/\c≠47:=by
 obtain⟨c,r,hc,a⟩:=vz (n.natAbs / 1000);have b: ∀d:UInt8,(d==45||cm d)=true->dj d=false/\(d==34||d==39)=false/\(d==35)=false/\d≠47:=by
  intro d;have: ∀n:Nat,n<256->(UInt8.ofNat n==45||cm (UInt8.ofNat n))=true->dj (UInt8.ofNat n)=false/\(UInt8.ofNat n==34||UInt8.ofNat n==39)=false/\(UInt8.ofNat n==35)=false/\UInt8.ofNat n≠47:=by decide+kernel
  have:=this d.toNat (Kb d)
  rwa [Ae]at this
 rw[bD,hc];unfold sgT
 grind
def aD(n:Int)(p:Bool)(x:aE):qf (cE n p++x)=Zb (cE n p++x):=by obtain⟨c,r,e,g,f,d,b,h⟩:=Gs n p x;have a:=iX n p x;rw[e]at a ⊢;rw[ow,f,Ka (by decide),d,Ka (by decide),b,Bc,Ka (by decide),a,La rfl]
inductive zlX:ze->Prop
 |cId (l:aE) (h0:l≠[]) (h:ZL l=true):zlX ⟨1,l,0,[],false⟩
 |cFn (l:aE) (h0:l≠[]) (h:ZL l=true):zlX ⟨2,l,0,[],false⟩
 |cAt (l:aE) (h0:l≠[]) (h:ZL l=true):zlX ⟨3,l,0,[],false⟩
 |cHash (l:aE) (f:Bool) (h0:l≠[]) (h:ZL l=true) (hb:f=true\/Ml l=true):zlX ⟨4,l,0,[],f⟩
 |cStr (l:aE) (h:ZL l=true):zlX ⟨5,l,0,[],false⟩
 |cUrl (l:aE) (h:ZL l=true):zlX ⟨7,l,0,[],false⟩
 |cDel (c:UInt8) (h:ji c.toNat=true):zlX ⟨9,[c],0,[],false⟩
 |cNum (n:Int) (f:Bool) (h1: -1000000000000<=n) (h2:n<=1000000000000) (hf:f=true->Int.tmod n 1000=0):zlX ⟨10,[],n,[],f⟩
 |cPct (n:Int) (h1: -1000000000000<=n) (h2:n<=1000000000000):zlX ⟨11,[],n,[],false⟩
 |cDim (n:Int) (u:aE) (f:Bool) (h1: -1000000000000<=n) (h2:n<=1000000000000) (hf:f=true->Int.tmod n 1000=0) (h0:u≠[]) (h:ZL u=true):zlX ⟨12,[],n,u,f⟩
 |cMark (k:Int) (h1:13<=k) (h2:k<=24):zlX ⟨k,[],0,[],false⟩
def Es{t:ze}(h:Eg t=true):zlX t:=by
 obtain⟨k,l,n,u,f⟩:=t;unfold Eg at h;simp only at h;by_cases h1:(k==1||k==2||k==3)=true
 ·rw[h1,Ca]at h;simp only[Da,je,Fa,Fb]at h;obtain⟨a,b,rfl,rfl,rfl⟩:=h;simp only[Pb,Fb]at h1;rcases h1 with(rfl|rfl)|rfl
  ·exact .cId l a b
  ·exact .cFn l a b
  ·exact .cAt l a b
 ·rw[Bool.not_eq_true]at h1;rw[h1,Ba]at h;by_cases h4:(k==4)=true
  ·rw[h4,Ca]at h;simp only[Da,je,Fa,Fb,Pb]at h;obtain⟨a,b,c,rfl,rfl⟩:=h;rw[Fb]at h4;subst h4;exact .cHash l f a b c
  ·rw[Bool.not_eq_true]at h4;rw[h4,Ba]at h;by_cases i:(k==5||k==7)=true
   ·rw[i,Ca]at h;simp only[Da,je,Fb]at h;obtain⟨b,rfl,rfl,rfl⟩:=h;simp only[Pb,Fb]at i;rcases i with rfl|rfl
    ·exact .cStr l b
    ·exact .cUrl l b
   ·rw[Bool.not_eq_true]at i;rw[i,Ba]at h;by_cases j:(k==9)=true
    ·rw[j,Ca]at h;simp only[Da,je,Fb]at h;obtain⟨b,rfl,rfl,rfl⟩:=h;rw[Fb]at j;subst j;unfold delS at b;split at b
     ·exact .cDel _ b
     ·cases b
    ·rw[Bool.not_eq_true]at j;rw[j,Ba]at h;by_cases d:(k==10||k==11||k==12)=true
     ·rw[d,Ca]at h;unfold rngS at h;simp only[Da,aa,Pb,je,Fb]at h;obtain⟨⟨a1,a2,m⟩,a4,a5,o,rfl⟩:=h;have hf:f=true->Int.tmod n 1000=0:=by
       intro e;rcases m with m|m
       ·grind
       ·exact m
      simp only[Pb,Fb]at d;rcases d with(rfl|rfl)|rfl
      ·have:u=[]:=by
        cases u with
        |nil=>rfl
        |cons c r=>grind
       subst this;exact .cNum n f a1 a2 hf
      ·have:u=[]:=by
        cases u with
        |nil=>rfl
        |cons c r=>grind
       subst this;have:f=false:=by
        rcases o with o|o
        ·grind
        ·exact o
       subst this;exact .cPct n a1 a2
      ·have:u≠[]:=by rintro rfl;exact absurd a4 (by decide)
       exact .cDim n u f a1 a2 hf this a5
     ·rw[Bool.not_eq_true]at d;rw[d,Ba]at h;simp only[Da,je,aa,Fb]at h;obtain⟨⟨a1,a2⟩,rfl,rfl,rfl,rfl⟩:=h;exact .cMark k a1 a2
def neu(x:aE):Prop:=x=[]\/ ∃y,x=47::y
def zRP{x:aE}(a:neu x)(c:UInt8)(r:aE):gi c (r++x)=gi c r:=by
 rcases a with rfl|⟨y,rfl⟩
 ·grind
 ·exact NY c r y
def TL{x:aE}(a:neu x)(q:aE):d6 (q++x)=d6 q:=by
 rcases a with rfl|⟨y,rfl⟩
 ·grind
 ·exact jC q y
def BG{x:aE}(a:neu x):zJ x=([],x):=by
 rcases a with rfl|⟨y,rfl⟩
 ·exact QW
 ·rw[Zo,Ka (by decide),show cF (47::y)=false from rfl,Ka (by decide)]
def U9{p:UInt8->Bool}(h:p 47=false){x:aE}(a:neu x):cv p x=x:=by
 rcases a with rfl|⟨y,rfl⟩
 ·rfl
 ·rw[cv,h];rfl
def zRK{x:aE}(a:neu x):cr x 0=0\/cr x 0=47:=by
 rcases a with rfl|⟨y,rfl⟩
 ·exact .inl rfl
 ·exact .inr rfl
def tT(c:UInt8)(r:aE):Xj (c::r)=((c==101||c==69)&&jx r&& !(List.isPrefixOf [45,45] r)):=rfl
def lM(b:UInt8)(r:aE):jx (b::r)=bif b==45 then !(r==[])&&fy (r.headD 0).toNat else fy b.toNat:=rfl
def YO{c:UInt8}{r:aE}(h:Xj (c::r)=true):c=101\/c=69:=by
 unfold Xj at h
 grind
def zMA{d:UInt8}{t:aE}(h:(d==10)=false):cF (92::d::t)=true:=by unfold cF;rw[show cr (92::d::t) 1=d from rfl,h];rfl
def jo(c:UInt8)(r:aE):Ug (c::r)=bif Xj (c::r)then ew c++cJ false 0 r else ZA (c::r):=rfl
def AO{w:aE}(f:w≠[])(h:ZL w=true)(x:aE):zJ (Ug w++x)=(w++(zJ x).1,(zJ x).2):=by
 cases w with
 |nil=>grind
 |cons c r=>
  obtain⟨a,e⟩:=Gn h;rw[jo];cases b:Xj (c::r)with
  |true=>
   have d:c.toNat<128:=by rcases YO b with rfl|rfl<;>decide
   rw[Ca,Ja,zF3 a d,zCA x 0 e];rfl
  |false=>rw[Ba];exact oq x h
def KS{w:aE}(i:w≠[])(h:ZL w=true):d6 (Ug w)=true:=by
 cases w with
 |nil=>grind
 |cons c r=>
  obtain⟨a,j⟩:=Gn h;rw[jo];cases e:Xj (c::r)with
  |true=>
   have f:c.toNat<128:=by rcases YO e with rfl|rfl<;>decide
   obtain⟨d,t,b,g,_⟩:=Vt a f (cJ false 0 r);rw[Ca,b];exact HZ rfl (zMA g)
  |false=>rw[Ba];exact Co (by simp)
def Tn{q:aE}(h:d6 q=true):q≠[]:=by rintro rfl;exact absurd h (by decide)
def bS{q:aE}(h:d6 q=true)(x:aE):cv cm (q++x)=q++x/\Zx (q++x)=(q++x,true):=by
 obtain⟨_,_,_,_,_,_,_,_,b,a,_⟩:=YD (Yy h);cases q with
 |nil=>exact absurd rfl (Tn h)
 |cons c r=> refine⟨by rw[Bb,cv,show cm c=false from a];rfl,?_⟩;unfold Zx;rw[show cr ((c::r)++x) 0=c from rfl,show(c==46)=false from b];rfl
def R7{w:aE}(h0:w≠[])(h:ZL w=true)(x:aE):cV (Ug w++x)=none\/ ∃e s,(e=101\/e=69)/\(s=[]\/s=[45])/\w=e::s/\Ug w=e::s:=by
 cases w with
 |nil=>grind
 |cons c r=>
  obtain⟨h1,h2⟩:=Gn h;have F: ∀t:aE,cV (92::t)=none:=λt=>rfl;cases A:Xj (c::r)with
  |true=>
   left;have hc:c.toNat<128:=by rcases YO A with rfl|rfl<;>decide
   obtain⟨d,t,e1,e2,_⟩:=Vt h1 hc (cJ false 0 r++x);have:Ug (c::r)++x=92::d::t:=by rw[jo,A,Ca,Ja,e1]
   grind
  |false=>
   have hu:Ug (c::r)=ZA (c::r):=by rw[jo,A,Ba]
   rw[hu];have hn:ZA (c::r)=i9 ((c::r:aE)==[45]) (qC (c::r)) c++cJ ((c::r:aE)==[45]) (qC (c::r) - 1) r:=rfl;obtain⟨d,t,e,L⟩:=TF (dash:=(c::r:aE)==[45]) (k:=qC (c::r)) (by unfold qC;split<;>omega) c (cJ ((c::r:aE)==[45]) (qC (c::r) - 1) r);rw[hn,e];rcases L with⟨rfl,h3⟩|⟨rfl,h3,h4,V,J⟩
   ·grind
   ·by_cases l:d=101\/d=69
    ·have hf:qC (d::r)=1:=by rcases l with rfl|rfl<;>rfl
     have m:((d::r:aE)==[45])=false:=h3;rw[m,hf]at J;have b:t=cJ false 0 r:=J;have u:(d==101||d==69)=true:=by rcases l with rfl|rfl<;>rfl
     cases r with
     |nil=>
      right;rw[cJ]at b
      grind
     |cons d2 f=>
      obtain⟨M,O⟩:=Gn h2;have i:jx (d2::f)=false:=by
       cases v:jx (d2::f)with
       |false=>rfl
       |true=>
        exfalso;rw[tT,u,v,ja,ja]at A;have hp:List.isPrefixOf [45,45] (d2::f)=true:=by
         cases W:List.isPrefixOf [45,45] (d2::f)with
         |true=>rfl
         |false=>grind
        obtain⟨z,Q⟩:=Gf.1 hp;rw[<-Q]at v;exact absurd v (by show jx (45::45::z)≠true;unfold jx;simp[fy])
      have a: ∀q:aE,cm (cr (cq q) 0)=false->cV (d::q)=none:=by intro q v;rw[Uq];show((d==101||d==69)&&cm (cr (cq q) 0))=false;rw[v,Nc]
      have n:cJ false 0 (d2::f)=i9 false 0 d2++cJ false 0 f:=rfl;by_cases o:d2=45
      ·subst o;have y:i9 false 0 45=[45]:=rfl;cases f with
       |nil=>
        right;rw[n,y,cJ]at b
        grind
       |cons j E=>
        left;obtain⟨k1,k2⟩:=Gn O;have p:cm j=false:=by
         have:fy j.toNat=false:=by have:=i;unfold jx at this;simpa using this
         exact this
        rw[Bb];refine a _ ?_;rw[b,n,y];show cm (cr (cJ false 0 (j::E)++x) 0)=false;rw[show cJ false 0 (j::E)=i9 false 0 j++cJ false 0 E from rfl];unfold i9;cases hl:cM j with
        |true=>exact p
        |false=>
         rw[Bc,Bc,Ba];have hc:j.toNat<128:=by
          by_cases hc:j.toNat<128
          ·exact hc
          ·rw[(UT hc).1]at hl;cases hl
         obtain⟨d4,U,e4,_,_⟩:=Vt k1 hc (cJ false 0 E++x);rw[Ja,e4];rfl
      ·left;have p:cm d2=false:=by
        have:fy d2.toNat=false:=by have:=i;rw[lM,Fa.2 o,Ba]at this;exact this
        exact this
       rw[Bb];refine a _ ?_;rw[b,n];unfold i9;cases hl:cM d2 with
       |true=>
        have hs:Hg d2=false:=by unfold Hg;rw[Fa.2 o,Dc,Fa];rintro rfl;exact absurd hl (by decide)
        show cm (cr (if Hg d2 then _ else d2::_) 0)=false;rw[hs,Ka (by decide)];exact p
       |false=>
        rw[Bc,Bc,Ba];have hc:d2.toNat<128:=by
         by_cases hc:d2.toNat<128
         ·exact hc
         ·rw[(UT hc).1]at hl;cases hl
        obtain⟨d4,U,e4,_,_⟩:=Vt M hc (cJ false 0 f++x);rw[Ja,e4];rfl
    ·left;rw[Uq];have:(d==101||d==69)=false:=by rw[Mf,Fa,Fa];exact not_or.1 l
     rw[Bb,show cr (d::(t++x)) 0=d from rfl,this,Bc]
def JV{w:aE}(d:w≠[])(h:ZL w=true){x:aE}(a:neu x):cV (Ug w++x)=none:=by
 rcases R7 d h x with c|⟨e,s,i,b,_,f⟩
 ·exact c
 ·rw[f,Uq];have g:cm (cr (cq (s++x)) 0)=false:=by
   rcases b with rfl|rfl
   ·rcases a with rfl|⟨y,rfl⟩<;>rfl
   ·rcases a with rfl|⟨y,rfl⟩<;>rfl
  grind
def JN{n:Int}{f:Bool}(a:f=true->Int.tmod n 1000=0):(cA (n.natAbs%1000) (!f)).isEmpty=f:=by
 rw[zQQ,Nf];cases f with
 |false=>grind
 |true=>
  grind
def GL{n:Int}{p:Bool}{z:aE}(b:cv cm z=z)(h2:Zx z=(z,true))(a:cV z=none):Za (cE n p++z)=(z,(cA (n.natAbs%1000) p).isEmpty):=by
 cases c:(cA (n.natAbs%1000) p).isEmpty with
 |true=>rw[sS c,b,h2];simp only[a]
 |false=>rw[UR c,b];simp only[a]
def zQz{x:aE}(a:neu x):cv cm x=x/\Zx x=(x,true)/\cV x=none:=by
 rcases a with rfl|⟨y,rfl⟩
 ·exact⟨rfl,rfl,rfl⟩
 ·exact⟨rfl,rfl,rfl⟩
def zHm{q:aE}(h:[45,45,62].isPrefixOf q=true): ∃t,(zJ q).2=62::t:=by obtain⟨t,rfl⟩:=Gf.1 h;refine⟨t,?_⟩;rw[show [45,45,62]++t=45::45::62::t from rfl,Zo,La (by decide),Zo,La (by decide),Zo,Ka (by decide),Ka (by unfold cF;rw[show cr (62::t) 0=62 from rfl];simp)]
def nE{c:UInt8}{r:aE}(h:d6 (c::r)=true)(u: ∀t,(zJ (c::r)).2≠62::t):gi c r=7:=by
 obtain⟨i,b,g,d,f,p,a,v,s,l,k⟩:=YD (Yy h);have o:[45,45,62].isPrefixOf (c::r)=false:=by
  cases j:[45,45,62].isPrefixOf (c::r)with
  |false=>rfl
  |true=>obtain⟨t,e⟩:=zHm j;grind
 have n:cr (c::r) 0=c:=rfl;rw[n]at i b g d f a;unfold gi;rw[i,Ka (by decide),b,g,Ka (by decide),d,Bc,Ka (by decide),FY h,Ka (by decide),o,Ka (by decide),zQ2 (q:=c::r) (m:=[33,45,45]) (show(60:UInt8)≠0 by decide) a,Ka (by decide),f,Bc,Ka (by decide),h,La rfl]
def G6{q z:aE}(h:d6 q=true)(i:cr z 0≠10):d6 (q++z)=true:=by
 have b:(cr z 0==10)=false:=Fa.2 i
 match q with
 |[]=>exact absurd h (by decide)
 |[c]=>
  unfold d6 at h ⊢;have f:cr ([c]++z) 0=c:=rfl;rw[show cr [c] 0=c from rfl]at h;rw[f];cases a:c==45 with
  |true=>rw[a,La rfl]at h;exact absurd (show(fa 0||(0:UInt8)==45||cF [])=true from h) (by decide)
  |false=> rw[a,Ka (by decide)]at h;rw[Ka (by decide)];unfold cF at h ⊢;rw[show cr [c] 0=c from rfl,show cr [c] 1=0 from rfl]at h;rw[f,show cr ([c]++z) 1=cr z 0 from rfl,b];exact h
 |c::d::t=>
  unfold d6 at h ⊢;have f:cr ((c::d::t)++z) 0=c:=rfl;have g:cr ((c::d::t)++z) 1=d:=rfl;have j:((c::d::t)++z).drop 1=(d::t)++z:=rfl;rw[show cr (c::d::t) 0=c from rfl,show cr (c::d::t) 1=d from rfl,show(c::d::t:aE).drop 1=d::t from rfl]at h;rw[f,g,j];cases a:c==45 with
  |true=>
   rw[a,La rfl]at h;rw[La rfl];cases t with
   |nil=> unfold cF at h ⊢;rw[show cr [d] 0=d from rfl,show cr [d] 1=0 from rfl]at h;rw[show cr ([d]++z) 0=d from rfl,show cr ([d]++z) 1=cr z 0 from rfl,b];exact h
   |cons e t=>exact h
  |false=> rw[a,Ka (by decide)]at h;rw[Ka (by decide)];exact h
def TM(x:aE):zJ (40::x)=([],40::x):=by rw[Zo,Ka (by decide),Ka (by unfold cF;rw[show cr (40::x) 0=40 from rfl];simp)]
def J5{l:aE}(h:ZL l=true)(x:aE):zJ (ZA l++40::x)=(l,40::x):=by rw[oq _ h,TM,Ib]
def Mj{q:aE}(h:q≠[]): ∃c r,q=c::r:=by
 cases q with
 |nil=>grind
 |cons c r=>grind
def Ai(f:Bool)(l:aE):aE:=bif f then ZA l else cJ false 0 l
def uT{f:Bool}{l:aE}(h:ZL l=true)(x:aE):zJ (Ai f l++x)=(l++(zJ x).1,(zJ x).2):=by
 cases f with
 |true=>exact oq x h
 |false=>exact zCA x 0 h
def zI7{f:Bool}{l:aE}(h0:l≠[])(h:ZL l=true)(hb:f=true\/Ml l=true):(cM (cr (Ai f l) 0)||cF (Ai f l))=true/\(f=true->d6 (Ai f l)=true)/\(f=false->d6 (Ai f l)=false):=by
 cases f with
 |true=>
  have hn:=Co h0;obtain⟨c,r,e⟩:=Mj (Tn hn);refine⟨?_,λ_=>hn,λe=>by cases e⟩;show(cM (cr (ZA l) 0)||cF (ZA l))=true;rw[e]at hn ⊢;rcases r9 hn with h1|h1
  ·rw[show cM (cr (c::r) 0)=true from h1];rfl
  ·grind
 |false=>
  have j:Ml l=true:=by rcases hb with hb|hb;cases hb;exact hb
  cases l with
  |nil=>grind
  |cons c r=>
   have k:Ai false (c::r)=i9 false 0 c++cJ false 0 r:=rfl;have a:(fy c.toNat||(c==45&&(r==[]||fy (r.headD 0).toNat)))=true:=j;by_cases b:c=45
   ·subst b;rw[k,show i9 false 0 45=[45]from rfl];refine⟨rfl,λe=>by(cases e),λ_=> ?_⟩;cases r with
    |nil=>rfl
    |cons d t=>
     have i:cm d=true:=a;have hp:i9 false 0 d=[d]:=by
      unfold i9;have:cM d=true:=by unfold cM;rw[i,Be];rfl
      rw[this];rfl
     rw[show cJ false 0 (d::t)=i9 false 0 d++cJ false 0 t from rfl,hp];have hk: ∀n:Nat,n<256->cm (UInt8.ofNat n)=true->fa (UInt8.ofNat n)=false/\(UInt8.ofNat n==45)=false/\(UInt8.ofNat n==92)=false:=by decide+kernel
     have:=hk d.toNat (Kb d);rw[Ae]at this;obtain⟨k1,k2,k3⟩:=this i;show(fa d||d==45||cF (d::(cJ false 0 t)))=false;unfold cF;rw[k1,k2,show cr (d::cJ false 0 t) 0=d from rfl,k3];rfl
   ·have i:cm c=true:=by
     have:fy c.toNat=true:=by rw[Fa.2 b,Bc,Dc]at a;exact a
     exact this
    have hl:cM c=true:=by unfold cM;rw[i,Be];rfl
    have hp:i9 false 0 c=[c]:=by unfold i9;rw[hl];rfl
    rw[k,hp];refine⟨by rw[show cM (cr ([c]++cJ false 0 r) 0)=cM c from rfl,hl];rfl,λe=>by(cases e),λ_=> ?_⟩;have hk: ∀n:Nat,n<256->cm (UInt8.ofNat n)=true->fa (UInt8.ofNat n)=false/\(UInt8.ofNat n==45)=false/\(UInt8.ofNat n==92)=false:=by decide+kernel
    have:=hk c.toNat (Kb c);rw[Ae]at this;obtain⟨k1,k2,k3⟩:=this i;unfold d6 cF;rw[show cr ([c]++cJ false 0 r) 0=c from rfl,k2,Ka (by decide),k1,k3];rfl
def zR3(c:UInt8)(h:ji c.toNat=true)(h2:c≠92):gi c []=8:=by
 have: ∀n:Nat,n<256->ji (UInt8.ofNat n).toNat=true->UInt8.ofNat n≠92->gi (UInt8.ofNat n) []=8:=by decide+kernel
 have:=this c.toNat (Kb c);simp_all
def zQS(x:aE):cv cm (37::x)=37::x/\Zx (37::x)=(37::x,true)/\cV (37::x)=none:=⟨rfl,rfl,rfl⟩
def N9{n:Int}{u:aE}{p:Bool}(x:aE):(cE n p++Ug u)++x=cE n p++(Ug u++x):=Ja ..
def OM{c:UInt8}{r x:aE}(a:neu x):qf (c::(r++x))=nxB (gi c r) c (r++x):=by rw[QK,zRP a]
def S9{n:Int}(b: -1000000000000<=n)(h2:n<=1000000000000)(x:aE):qf ((cE n false++[37])++x)=(⟨11,[],n,[],false⟩,x):=by rw[Ja,Jd];obtain⟨c,e,d⟩:=zQS x;have a:=GL (n:=n) (p:=false) c e d;have f:=mP b h2 (p:=false) (x:=37::x) (by rw[a]);rw[aD];unfold Zb;rw[a,f,Ka (by unfold d6 cF;rw[show cr (37::x) 0=37 from rfl];simp[fa,alB]),La (by rfl)];rfl
def X6{l:aE}(d:l≠[])(h:ZL l=true)(hu:(dr l==[117,114,108])=false)(x:aE):qf ((ZA l++[40])++x)=(⟨2,l,0,[],false⟩,x):=by rw[Ja,Jd];have b:=G6 (z:=40::x) (Co d) (by show(40:UInt8)≠10;decide);have a:=J5 h x;obtain⟨c,r,e⟩:=Mj (Tn b);rw[e]at b a ⊢;rw[QK,nE b (by grind),Uk];unfold QG;rw[a];simp only;rw[La (by rfl),hu,Bc,Ka (by decide)];rfl
def kT{l:aE}(h:ZL l=true)(x:aE):qf ((34::(cW dl l++[34]))++x)=(⟨5,l,0,[],false⟩,x):=by rw[Bb,Ja,Jd,QK,show gi 34 (cW dl l++34::x)=1 from rfl,Xy,zF4 x l h];rfl
def O7{l:aE}(h:ZL l=true)(x:aE):qf (([117,114,108,40]++(cW hY l++[41]))++x)=(⟨7,l,0,[],false⟩,x):=by
 have e:([117,114,108,40]++(cW hY l++[41]))++x=117::114::108::40::(cW hY l++41::x):=by simp
 obtain⟨c,b⟩:=zOe x l h;have a:zJ (117::114::108::40::(cW hY l++41::x))=([117,114,108],40::(cW hY l++41::x)):=by rw[Zo,La (by decide),Zo,La (by decide),Zo,La (by decide),TM]
 rw[e,QK,nE (by rfl) (by grind),Uk];unfold QG;rw[a];simp only;rw[La (by rfl),Ov,show(40::(cW hY l++41::x)).drop 1=cW hY l++41::x from rfl,c,b,La (by decide),zF5 x l h];rfl
def zBU{k:Int}(b:13<=k)(h2:k<=24)(x:aE):qf (Er k++x)=(⟨k,[],0,[],false⟩,if k=13 then cv dj x else x):=by
 have a:k=13\/k=14\/k=15\/k=16\/k=17\/k=18\/k=19\/k=20\/k=21\/k=22\/k=23\/k=24:=by omega
 rcases a with rfl|rfl|rfl|rfl|rfl|rfl|rfl|rfl|rfl|rfl|rfl|rfl<;>rfl
def au(l:aE):eq ⟨1,l,0,[],false⟩=ZA l:=by rw[eq];rfl
def Xp(l:aE):eq ⟨2,l,0,[],false⟩=ZA l++[40]:=by rw[eq];rfl
def bu(l:aE):eq ⟨3,l,0,[],false⟩=64::ZA l:=by rw[eq];rfl
def Vs(l:aE)(f:Bool):eq ⟨4,l,0,[],f⟩=35::Ai f l:=by rw[eq];rfl
def Cq(l:aE):eq ⟨5,l,0,[],false⟩=34::(cW dl l++[34]):=by rw[eq];rfl
def Lr(l:aE):eq ⟨7,l,0,[],false⟩=[117,114,108,40]++(cW hY l++[41]):=by rw[eq];rfl
def Ur(c:UInt8):eq ⟨9,[c],0,[],false⟩=[c]:=by rw[eq];rfl
def Nr(n:Int)(f:Bool):eq ⟨10,[],n,[],f⟩=cE n (!f):=by rw[eq];rfl
def Mr(n:Int):eq ⟨11,[],n,[],false⟩=cE n false++[37]:=by rw[eq];rfl
def Sr(n:Int)(u:aE)(f:Bool):eq ⟨12,[],n,u,f⟩=cE n (!f)++Ug u:=by rw[eq];rfl
def Us{k:Int}(b:13<=k)(h2:k<=24):eq ⟨k,[],0,[],false⟩=Er k:=by
 have a:k=13\/k=14\/k=15\/k=16\/k=17\/k=18\/k=19\/k=20\/k=21\/k=22\/k=23\/k=24:=by omega
 rcases a with rfl|rfl|rfl|rfl|rfl|rfl|rfl|rfl|rfl|rfl|rfl|rfl<;>rfl
def zPz{t:ze}(h:zlX t)(hb: ¬(t.u=9/\t.kb=[92]))(hu:xg t=false){x:aE}(b:neu x):qf (eq t++x)=(t,x):=by
 have ha:=zRK b;have v:d6 x=false:=by have:=TL b [];rw[Lb]at this;rw[this];rfl
 cases h with
 |cId l h0 h=>
  have hn:=Co h0;have a:=oq x h;rw[BG b,Ib]at a;obtain⟨c,r,e⟩:=Mj (Tn hn);rw[au];have hr:=zKM h;rw[e]at hn hr a ⊢;rw[Bb,OM b,nE hn (by grind),Uk];unfold QG;rw[show c::(r++x)=(c::r)++x from rfl,a]
  grind
 |cFn l h0 h=>rw[Xp];exact X6 h0 h (by unfold xg at hu;exact hu) x
 |cAt l h0 h=>
  have a:=oq x h;rw[BG b,Ib]at a;rw[bu,Bb];have j:gi 64 (ZA l++x)=6:=by unfold gi;rw[TL b,Co h0];rfl
  rw[QK,j,Wy,a]
 |cHash l f h0 h m=>
  obtain⟨y,A,E⟩:=zI7 h0 h m;have a:=uT (f:=f) h x;rw[BG b,Ib]at a;rw[Vs,Bb];have o:gi 35 (Ai f l)=2:=by unfold gi;rw[y];rfl
  have hf:d6 (Ai f l)=f:=by
   cases f with
   |true=>exact A rfl
   |false=>exact E rfl
  rw[OM b,o,Br,a,TL b,hf]
 |cStr l h=>rw[Cq];exact kT h x
 |cUrl l h=>rw[Lr];exact O7 h x
 |cDel c h=>
  have s:c≠92:=by rintro rfl;exact hb ⟨rfl,rfl⟩
  rw[Ur,Bb,OM b,zR3 c h s,SC,Lb]
 |cNum n f h1 h2 hf=>
  obtain⟨e1,e2,e3⟩:=zQz b;have d:=GL (n:=n) (p:= !f) e1 e2 e3;rw[JN hf]at d;rw[Nr,aD];unfold Zb;rw[mP h1 h2 (by rw[d]),d]
  grind
 |cPct n h1 h2=>rw[Mr];exact S9 h1 h2 x
 |cDim n u f h1 h2 hf h0 h=> have i:=KS h0 h;obtain⟨e1,e2⟩:=bS i x;have d:=GL (n:=n) (p:= !f) e1 e2 (JV h0 h b);rw[JN hf]at d;rw[Sr,N9,aD];unfold Zb;rw[mP h1 h2 (by rw[d]),d];simp only;rw[TL b,i,La rfl,AO h0 h,BG b,Ib]
 |cMark k h1 h2=> rw[Us h1 h2,zBU h1 h2,U9 (by decide) b,ite_self]
def J7(t:ze)(x r:aE):Prop:=Za (cE t.kg (!t.la)++x)=(r,t.la)/\d6 r=false/\(cr r 0==37)=false
def zPe(x r:aE):Prop:= ∃s,(s=[]\/s=[45])/\cm (cr (cq (s++x)) 0)=true/\d6 (cv cm (cq (s++x)))=true/\r=(zJ (cv cm (cq (s++x)))).2
def UY(t:ze)(x r:aE):Prop:=r=x\/(t.u=13/\r=cv dj x)\/(t.u=10/\J7 t x r)\/(t.u=12/\zPe x r)
def K9{w r:aE}(h:cV w=some r):(cr w 0=101\/cr w 0=69)/\cm (cr (cq (w.drop 1)) 0)=true/\r=cv cm (cq (w.drop 1)):=by
 unfold cV at h
 grind
def BF{l a:aE}(h:l++a=l):a=[]:=by simp_all
def iT{a b:ze}(h:a=b):a.kb=b.kb:=by rw[h]
def zL8{t:ze}(h:zlX t)(hu:xg t=false){x:aE}(ht:(qf (eq t++x)).1=t):UY t x (qf (eq t++x)).2:=by
 cases h with
 |cId l h0 h=>
  left;have hn:=Co h0;have m:=oq x h;obtain⟨c,r,e⟩:=Mj (Tn hn);rw[au]at ht ⊢;rw[e,Bb]at ht ⊢;have a:=Mq c (r++x);rw[ht]at a;have b:gi c (r++x)=7:=a.symm;rw[QK,b,Uk]at ht ⊢;rw[show c::(r++x)=ZA l++x by rw[e];rfl]at ht ⊢;unfold QG at ht ⊢;rw[m]at ht ⊢;simp only at ht ⊢;split at ht
  ·rename_i j;exfalso;split at ht
   ·have:=congrArg ze.u ht;rcases fT (da (cv dj ((zJ x).2.drop 1))).1 with hk|hk<;>rw[hk]at this<;>cases this
   grind
  ·rename_i j;rw[Ka j];have:=iT ht;exact yF (BF this)
 |cFn l h0 h=> left;rw[Xp,X6 h0 h (by unfold xg at hu;exact hu)]
 |cAt l h0 h=> left;rw[bu,Bb]at ht ⊢;have a:=Mq 64 (ZA l++x);rw[ht]at a;have b:gi 64 (ZA l++x)=6:=a.symm;rw[QK,b,Wy,oq x h]at ht ⊢;exact yF (BF (iT ht))
 |cHash l f h0 h E=> left;rw[Vs,Bb]at ht ⊢;have a:=Mq 35 (Ai f l++x);rw[ht]at a;have b:gi 35 (Ai f l++x)=2:=a.symm;rw[QK,b,Br,uT h x]at ht ⊢;exact yF (BF (iT ht))
 |cStr l h=>left;rw[Cq,kT h]
 |cUrl l h=>left;rw[Lr,O7 h]
 |cDel c h=> left;rw[Ur,Bb]at ht ⊢;have a:=Mq c ([]++x);rw[ht]at a;have b:gi c ([]++x)=8:=a.symm;rw[QK,b,SC,Lb]
 |cNum n f h1 h2 hf=>
  right;right;left;refine⟨rfl,?_⟩;rw[Nr,aD]at ht ⊢;unfold J7;show Za (cE n (!f)++x)=_/\_;unfold Zb at ht ⊢
  grind
 |cPct n h1 h2=>left;rw[Mr,S9 h1 h2]
 |cDim n u f h1 h2 hf h0 h=>
  have o:=KS h0 h;obtain⟨e1,e2⟩:=bS o x;rw[Sr,N9,aD]at ht ⊢;have plain:cV (Ug u++x)=none->(Zb (cE n (!f)++(Ug u++x))).2=x:=by
   intro d;have y:=GL (n:=n) (p:= !f) e1 e2 d;unfold Zb at ht ⊢;rw[y]at ht ⊢;simp only at ht ⊢;split at ht
   ·rename_i hn;rw[La hn];rw[AO h0 h]at ht ⊢;have:(u++(zJ x).1)=u:=congrArg ze.ki ht;exact yF (BF this)
   ·grind
  rcases R7 h0 h x with F|⟨e,s,y,hs,_,v⟩
  ·left;exact plain F
  ·cases d:cV (Ug u++x)with
   |none=>left;exact plain d
   |some z=>
    right;right;right;refine⟨rfl,s,hs,?_⟩;obtain⟨_,J,L⟩:=K9 d;have i:(Ug u++x).drop 1=s++x:=by rw[v];rfl
    rw[i]at J L;have A:Za (cE n (!f)++(Ug u++x))=(z,false):=by
     cases hp:(cA (n.natAbs%1000) (!f)).isEmpty with
     |true=>rw[sS hp,e1,e2];simp only[d]
     |false=>rw[UR hp,e1];simp only[d]
    unfold Zb at ht ⊢
    grind
 |cMark k h1 h2=>
  rw[Us h1 h2,zBU h1 h2];by_cases hk:k=13
  ·right;grind
  ·left
   grind
abbrev tkSp:ze:=⟨13,[],0,[],false⟩
inductive kA:aE->List ze->Prop
 |one (t:ze) (h:zlX t) (hb: ¬(t.u=9/\t.kb=[92])) (hu:xg t=false):kA (eq t) [t]
 |back:kA [92,10] [⟨9,[92],0,[],false⟩,tkSp]
 |url (l m:aE) (s:Bool) (h:ZL l=true) (hl:dr l=[117,114,108]) (hm:ZL m=true):
   kA (ZA l++40::((if s then [32]else [])++34::(cW dl m++[34]))) (⟨2,l,0,[],false⟩::((if s then [tkSp]else [])++[⟨5,m,0,[],false⟩]))
def V8{l:aE}(h:dr l=[117,114,108]): ∃a r,l=a::r/\(a=117\/a=85):=by
 cases l with
 |nil=>cases h
 |cons a r=>
  have h1:Wl a=117:=by unfold dr at h;rw[Xb]at h;injection h
  have: ∀n:Nat,n<256->Wl (UInt8.ofNat n)=117->UInt8.ofNat n=117\/UInt8.ofNat n=85:=by decide+kernel
  have:=this a.toNat (Kb a);simp_all
def dK{l:aE}(a:l≠[])(z:aE):d6 (ZA l++40::z)=true:=G6 (Co a) (by show(40:UInt8)≠10;decide)
def Nv{k:Int}(a:13<=k)(h2:k<=24):k=13\/k=14\/k=15\/k=16\/k=17\/k=18\/k=19\/k=20\/k=21\/k=22\/k=23\/k=24:=by omega
def SF{s:aE}{P:List ze}(h:kA s P):d6 s=true\/(∃n p U t,P=[t]/\s=cE n p++U/\t.kg=n/\(U=[]/\t.u=10\/U=[37]\/ ∃u,u≠[]/\ZL u=true/\U=Ug u))\/
  (∃c r,s=c::r/\(c=64\/c=35\/c=34)/\iS s=false)\/(∃c,s=[c]/\ji c.toNat=true)\/(∃k,13<=k/\k<=24/\s=Er k)\/s=[92,10]:=by
 cases h with
 |one t h q v=>
  cases h with
  |cId l b h=>left;rw[au];exact Co b
  |cFn l b h=>left;rw[Xp];exact dK b []
  |cAt l b h=>right;right;left;rw[bu];exact⟨64,_,rfl, .inl rfl,rfl⟩
  |cHash l f b h j=>right;right;left;rw[Vs];exact⟨35,_,rfl, .inr (.inl rfl),rfl⟩
  |cStr l h=>right;right;left;rw[Cq];exact⟨34,_,rfl, .inr (.inr rfl),rfl⟩
  |cUrl l h=>left;rw[Lr];rfl
  |cDel c h=>right;right;right;left;rw[Ur];grind
  |cNum n f d e g=>right;left;exact⟨n, !f,[],_,rfl,by rw[Nr,Ib],rfl, .inl ⟨rfl,rfl⟩⟩
  |cPct n d e=>right;left;exact⟨n,false,[37],_,rfl,Mr n,rfl, .inr (.inl rfl)⟩
  |cDim n u f d e g b h=>right;left;exact⟨n, !f,Ug u,_,rfl,Sr n u f,rfl, .inr (.inr ⟨u,b,h,rfl⟩)⟩
  |cMark k d e=>right;right;right;right;left;exact⟨k,d,e,Us d e⟩
 |back=>grind
 |url l m s h i o=> left;obtain⟨a,r,rfl,_⟩:=V8 i;exact dK (by simp) _
def PN(c:UInt8)(h:ji c.toNat=true):dj c=false/\iS [c]=false/\c≠101/\c≠69:=by
 have: ∀n:Nat,n<256->ji (UInt8.ofNat n).toNat=true->dj (UInt8.ofNat n)=false/\iS [UInt8.ofNat n]=false/\UInt8.ofNat n≠101/\UInt8.ofNat n≠69:=by decide+kernel
 have:=this c.toNat (Kb c);simp_all
def zNl{s:aE}(h:cm (cr (cq s) 0)=true):iS s=true:=by
 unfold iS fd;have:(cr (cq s) 0==46)=false:=Fa.2 (dh h).2.2.1
 grind
def YK{s:aE}{P:List ze}(h:kA s P)(d:cm (cr (cq s) 0)=true): ∃n p U t,P=[t]/\s=cE n p++U/\t.kg=n/\(U=[]/\t.u=10\/U=[37]\/ ∃u,u≠[]/\ZL u=true/\U=Ug u):=by
 have a:=zNl d;rcases SF h with h|h|⟨c,r,e,_,h⟩|⟨c,rfl,f⟩|⟨k,b,g,rfl⟩|rfl
 ·rw[FY h]at a;cases a
 ·exact h
 ·grind
 ·rw[(PN c f).2.1]at a;cases a
 ·rcases Nv b g with rfl|rfl|rfl|rfl|rfl|rfl|rfl|rfl|rfl|rfl|rfl|rfl<;>cases a
 ·cases a
def zTz{s:aE}{P:List ze}(h:kA s P)(a:dj (cr s 0)=true):s=[32]:=by
 rcases SF h with h|⟨n,p,U,t,_,rfl,_⟩|⟨c,r,rfl,g,_⟩|⟨c,rfl,f⟩|⟨k,d,b,rfl⟩|rfl
 ·rw[(YD (Yy h)).1]at a;cases a
 ·obtain⟨c,r,e,_,b,_⟩:=Gs n p U;rw[e]at a;rw[show cr (c::r) 0=c from rfl,b]at a;cases a
 ·rcases g with rfl|rfl|rfl<;>cases a
 ·rw[show cr [c] 0=c from rfl,(PN c f).1]at a;cases a
 ·rcases Nv d b with rfl|rfl|rfl|rfl|rfl|rfl|rfl|rfl|rfl|rfl|rfl|rfl<;>first|rfl|cases a
 ·cases a
def iD{s:aE}{P:List ze}(h:kA s P){b:UInt8}(f:b=47\/b=42)(d:cr s 0=b):s=[b]:=by
 rcases SF h with h|⟨n,p,U,t,_,rfl,_⟩|⟨c,r,rfl,g,_⟩|⟨c,rfl,j⟩|⟨k,a,i,rfl⟩|rfl
 ·have a:=Yy h;rw[d]at a;rcases f with rfl|rfl<;>cases a
 ·obtain⟨c,r,e,a,_⟩:=Gs n p U;rw[e]at d;rw[show c=b from d]at a;rcases f with rfl|rfl<;>cases a
 ·rw[show c=b from d]at g
  grind
 ·rw[show c=b from d]
 ·rcases Nv a i with rfl|rfl|rfl|rfl|rfl|rfl|rfl|rfl|rfl|rfl|rfl|rfl<;>rcases f with rfl|rfl<;>cases d
 ·rcases f with rfl|rfl<;>cases d
def Gl{s:aE}{P:List ze}(h:kA s P):s≠[]:=by
 rcases SF h with h|⟨n,p,U,t,_,rfl,_⟩|⟨c,r,rfl,d,_⟩|⟨c,rfl,f⟩|⟨k,b,a,rfl⟩|rfl
 ·exact Tn h
 ·obtain⟨c,r,e,_⟩:=Gs n p U;rw[e];simp
 ·simp
 ·simp
 ·rcases Nv b a with rfl|rfl|rfl|rfl|rfl|rfl|rfl|rfl|rfl|rfl|rfl|rfl<;>decide
 ·simp
def zNj{l:aE}{c:UInt8}{r:aE}(b:c=101\/c=69)(h:ZA l=c::r): ∃t,l=c::t:=by
 cases l with
 |nil=>unfold ZA at h;rw[cJ]at h;cases h
 |cons a t=>
  have g:ZA (a::t)=i9 ((a::t:aE)==[45]) (qC (a::t)) a++cJ ((a::t:aE)==[45]) (qC (a::t) - 1) t:=rfl;obtain⟨d,u,e,f⟩:=TF (dash:=(a::t:aE)==[45]) (k:=qC (a::t)) (by unfold qC;split<;>omega) a (cJ ((a::t:aE)==[45]) (qC (a::t) - 1) t)
  grind
def zSL{s:aE}{P:List ze}(h:kA s P)(b:cr s 0=101\/cr s 0=69): ∃l t z,ZL l=true/\P=[t]/\(t.u=1\/t.u=2)/\t.kb=l/\s=ZA l++z/\(z=[]\/z=[40]):=by
 cases h with
 |one t h B C=>
  cases h with
  |cId l i h=>exact⟨l,_,[],h,rfl, .inl rfl,rfl,by rw[au,Ib], .inl rfl⟩
  |cFn l i h=>exact⟨l,_,[40],h,rfl, .inr rfl,rfl,Xp l, .inr rfl⟩
  |cAt l i h=>rw[bu]at b;rcases b with b|b<;>cases b
  |cHash l f i h v=>rw[Vs]at b;rcases b with b|b<;>cases b
  |cStr l h=>rw[Cq]at b;rcases b with b|b<;>cases b
  |cUrl l h=>rw[Lr]at b;rcases b with b|b<;>cases b
  |cDel c h=>
   rw[Ur]at b;obtain⟨_,_,p,q⟩:=PN c h;rcases b with b|b
   ·exact absurd b p
   ·exact absurd b q
  |cNum n f d g w=>
   rw[Nr]at b;obtain⟨c,r,e,d,_⟩:=Gs n (!f) [];rw[Ib]at e;rw[e]at b;rcases b with b|b<;>(rw[show c=_ from b]at d;cases d)
  |cPct n d g=>
   rw[Mr]at b;obtain⟨c,r,e,d,_⟩:=Gs n false [37];rw[e]at b;rcases b with b|b<;>(rw[show c=_ from b]at d;cases d)
  |cDim n u f d g w i h=>
   rw[Sr]at b;obtain⟨c,r,e,d,_⟩:=Gs n (!f) (Ug u);rw[e]at b;rcases b with b|b<;>(rw[show c=_ from b]at d;cases d)
  |cMark k d g=> rw[Us d g]at b;rcases Nv d g with rfl|rfl|rfl|rfl|rfl|rfl|rfl|rfl|rfl|rfl|rfl|rfl<;>rcases b with b|b<;>cases b
 |back=>rcases b with b|b<;>cases b
 |url l m s h o y=>
  exfalso;obtain⟨a,r,rfl,D⟩:=V8 o;obtain⟨c,A,e⟩:=Mj (Tn (Co (l:=a::r) (by simp)));have j:c=101\/c=69:=by rw[e]at b;exact b
  obtain⟨t,x⟩:=zNj j e;injection x with e3 _
  grind
def ShS(s r:aE):Prop:=r=s\/ ∃d y,cm d=true/\s=48::46::d::y/\r=46::d::y
def zEX(cap:Nat)(l:aE):ej cap 0 (48::l)=ej cap 0 l:=by show ej cap (min cap (eS 0 48)) l=_;rw[show eS 0 48=0 from rfl,Nat.min_zero]
def zN7(A:aE)(p:Int):g9 (48::A) p=g9 A p:=by
 unfold g9;by_cases a:p<0
 ·rw[La a,La a];by_cases c:(A.length:Int)+p<0
  ·have b:(((48::A:aE).length:Int)+p).toNat=0:=by rw[Ha];omega
   grind
  ·have b:(((48::A:aE).length:Int)+p).toNat=((A.length:Int)+p).toNat+1:=by rw[Ha];omega
   rw[b,Ld,zEX]
 ·rw[Ka a,Ka a,zEX]
def mG(d:UInt8)(y:aE)(e:cm d=true):qf (48::46::d::y)=qf (46::d::y):=by
 have j:Hg 48=false/\Hg 46=false:=by decide
 have b:yf (48::46::d::y)=46::d::y:=rfl;have a:yf (46::d::y)=46::d::y:=rfl;have h:Za (48::46::d::y)=Za (46::d::y):=by rw[Jk,Jk,b,a]
 have g:(ga (48::46::d::y)).val=(ga (46::d::y)).val:=by have c:ga (48::46::d::y)=⟨[],[48],j6 (46::d::y),j5 (Zx (46::d::y)).1⟩:=rfl;have i:ga (46::d::y)=⟨[],[],j6 (46::d::y),j5 (Zx (46::d::y)).1⟩:=rfl;rw[c,i];unfold fb.val;simp only[Jd,Lb,zN7]
 have f:iS (46::d::y)=true:=e;rw[ow,Ka (by decide),Ka (by decide),show((48:UInt8)==35)=false from rfl,Bc,Ka (by decide),show iS (48::46::d::y)=true from rfl,La rfl,
  ow,Ka (by decide),Ka (by decide),show((46:UInt8)==35)=false from rfl,Bc,Ka (by decide),f,La rfl]
 unfold Zb;rw[h,g]
def capG(cap:Nat): ∀(l:aE) (n:Nat),eg n l<=cap->ej cap n l=eg n l
 |[],n,_=>rfl
 |c::l,n,h=>by
  have b:eg n (c::l)=eg (eS n c) l:=rfl;rw[b]at h ⊢;have a:eS n c<=eg (eS n c) l:=by rw[ry l (eS n c)];have:=Ue (eS n c) (Jg (n:=l.length) (show 0<10 by omega));omega
  rw[ej,Nat.min_eq_right (Jc a h)];exact capG cap l (eS n c) h
def dZ: ∀(k n:Nat),n*10 ^ k<=1000->Xh k n=n*10 ^ k
 |0,n,_=>by rw[Xh,Nat.pow_zero,Jf]
 |k+1,n,h=>by
  have c:Tg=1000000000000:=rfl;rw[Xh];have a:0<10 ^ k:=Jg (by omega);have e:n*10 ^ (k+1)=10*n*10 ^ k:=by rw[Ng,lh 10 n,pg,lh (10 ^ k) 10]
  have d:10*n<=10*n*10 ^ k:=Ue _ a;by_cases b:n=0
  ·subst b;simp
  ·rw[Ka (by omega),Nat.min_eq_right (by omega),dZ k (10*n) (by omega),e]
def zMG{n:Int}{p:Bool}(hp:(cA (n.natAbs%1000) p).isEmpty=false){U:aE}(e:cv cm U=U)(d:cV U=none):
  (ga (46::(cA (n.natAbs%1000) p++U))).val=((n.natAbs%1000:Nat):Int):=by
 obtain⟨k1,k2,k3,_,_⟩:=Bo (r:=n.natAbs%1000) (by omega) p;generalize cA (n.natAbs%1000) p=F at*;obtain⟨c,r,rfl⟩:=Mj (show F≠[] by grind);have hc:cm c=true:=by rw[Yc,Da]at k1;exact k1.1
 have m:yf (46::(c::r++U))=46::(c::r++U):=rfl;have a:cv cm (c::r++U)=U:=by rw[cz _ _ k1,e]
 have f:Zx (46::(c::r++U))=(U,false):=by unfold Zx;rw[show cr (46::(c::r++U)) 1=c from rfl,hc,show(cr (46::(c::r++U)) 0==46&&true)=true from rfl,La rfl,show(46::(c::r++U)).drop 1=c::r++U from rfl,a]
 have b:List.takeWhile cm (c::r++U)=c::r:=by have:=Jw cm (c::r++U);rw[a]at this;exact List.append_cancel_right this
 have i:j6 (46::(c::r++U))=some (c::r):=by unfold j6;rw[show cr (46::(c::r++U)) 1=c from rfl,hc,show(cr (46::(c::r++U)) 0==46&&true)=true from rfl,La rfl,show(46::(c::r++U)).drop 1=c::r++U from rfl,b]
 have j:j5 U=none:=by unfold j5;rw[Uq]at d;rw[d,Ka (by decide)]
 have k:ga (46::(c::r++U))=⟨[],[],some (c::r),none⟩:=by show(⟨ia (46::(c::r++U)),_,j6 (46::(c::r++U)),j5 (Zx (46::(c::r++U))).1⟩:fb)=_;rw[i,f,j];rfl
 rw[k];unfold fb.val;show(((g9 ([]++(c::r)) (3+0 - ((c::r:aE).length:Int))):Nat):Int)=_;unfold g9;rw[Lb,Ka (by omega),show(3+0 - ((c::r:aE).length:Int)).toNat=3 - (c::r:aE).length by omega];have l:eg 0 (c::r)<=1000:=by have:=Ue (eg 0 (c::r)) (Jg (n:=3 - (c::r:aE).length) (show 0<10 by omega));omega
 rw[capG _ _ _ (by unfold Tg;omega),dZ _ _ (by omega),k3]
def zMp{m:Nat}(h:m=0):Lib.decDigits m=[48]:=by subst h;decide+kernel
def yD{t:ze}{U:aE}(f:U=[]/\t.u=10\/U=[37]\/ ∃u,u≠[]/\ZL u=true/\U=Ug u):cv cm U=U/\cV U=none/\(U=[]\/U=[37]\/(d6 U=true/\(zJ U).2=[])):=by
 rcases f with⟨rfl,_⟩|rfl|⟨u,a,h,rfl⟩
 ·exact⟨rfl,rfl, .inl rfl⟩
 ·exact⟨rfl,rfl, .inr (.inl rfl)⟩
 ·have c:=KS a h;have e:=(bS c []).1;have d:=JV a h (x:=[]) (.inl rfl);have b:=AO a h [];rw[Ib]at e d b;exact⟨e,d, .inr (.inr ⟨c,by rw[b,QW]⟩)⟩
def mQ(n:Int)(p:Bool)(U:aE):cv cm (cq (cE n p++U))=cv cm (cH (if(cA (n.natAbs%1000) p).isEmpty then none else some (cA (n.natAbs%1000) p))++U):=q2_T n p U
def vR{n:Int}{p:Bool}(U:aE)(a:(cA (n.natAbs%1000) p).isEmpty=true):cv cm (cq (cE n p++U))=cv cm U:=by rw[mQ,a];rfl
def uR{n:Int}{p:Bool}(U:aE)(a:(cA (n.natAbs%1000) p).isEmpty=false):cv cm (cq (cE n p++U))=46::(cA (n.natAbs%1000) p++U):=by rw[mQ,a];rfl
def zR7(z:aE):cV (46::z)=none:=rfl
def GY(z:aE):d6 (46::z)=false:=rfl
def zM6{s r:aE}{P:List ze}(h:kA s P)(x:cm (cr s 0)=true)(f:r=cv cm s)(F:d6 r=false)(m:(cr r 0==37)=false)(d:Qw r=P):ShS s r:=by
 have u:cq s=s:=by unfold cq Hg;rw[Fa.2 (dh x).1,Fa.2 (dh x).2.1];rfl
 obtain⟨n,p,U,t,rfl,rfl,g,z⟩:=YK h (by grind);obtain⟨w,D,A⟩:=yD z;rw[<-u,mQ]at f;cases j:(cA (n.natAbs%1000) p).isEmpty with
 |true=>
  rw[j]at f;have a:r=U:=by rw[f];exact w
  subst a;rcases A with rfl|rfl|⟨G,_⟩
  ·rw[Pj (Qg rfl)]at d;cases d
  ·cases m
  grind
 |false=>
  rw[j]at f;have a:r=46::(cA (n.natAbs%1000) p++U):=by rw[f];rfl
  have B:=zMG j w D;obtain⟨c,q,i⟩:=Mj (show cA (n.natAbs%1000) p≠[] by grind);have b:=oL (n:=n) (p:=p);have v:cm c=true:=by rw[i,Yc,Da]at b;exact b.1
  have k:cS r=46::(cA (n.natAbs%1000) p++U):=by rw[a];exact Qg rfl
  rw[nk k]at d;injection d with d _;have l:qf (46::(cA (n.natAbs%1000) p++U))=Zb (46::(cA (n.natAbs%1000) p++U)):=by
   have o:iS (46::(cA (n.natAbs%1000) p++U))=true:=by rw[i];exact v
   rw[ow,Ka (by decide),Ka (by decide),show((46:UInt8)==35)=false from rfl,Bc,Ka (by decide),o,La rfl]
  have e: ∀q:aE,(Zb q).1.kg=(ga q).val:=by
   intro q;unfold Zb;split
   ·rfl
   ·split<;>rfl
  rw[l]at d;have y:=e (46::(cA (n.natAbs%1000) p++U));rw[d,B,g]at y;have E:n.natAbs / 1000=0:=by omega
  have C:cE n p++U=48::46::c::(q++U):=by rw[bD,j,zMp E,i];unfold sgT;rw[Ka (by omega)];rfl
  right;exact⟨c,q++U,v,C,by rw[a,i];rfl⟩
def zBY: ∀(y r:aE),y.all cM=true->zJ (y++r)=(y++(zJ r).1,(zJ r).2)
 |[],r,_=>rfl
 |c::y,r,h=>by rw[Yc,Da]at h;rw[Bb,Zo,La h.1,zBY y r h.2];rfl
def zPN{l:aE}(h:l.all cm=true):l.all cM=true:=by
 rw[Ya]at h ⊢;intro b a;unfold cM
 grind
def zM5{s r:aE}{P:List ze}(h:kA s P)(p:cr s 0=101\/cr s 0=69)(F:cm (cr (cq (s.drop 1)) 0)=true)(hr:r=cv cm (cq (s.drop 1)))(i:Qw r=P):False:=by
 obtain⟨l,t,z,hl,rfl,hk,ht,rfl,J⟩:=zSL h p;obtain⟨c,q,e⟩:=Mj (Gl h);have v:zJ z=([],z):=by rcases J with rfl|rfl;exact QW;exact TM []
 have a:zJ (ZA l++z)=(l,z):=by rw[oq z hl,v,Ib]
 rw[e]at p F hr a;rw[show(c::q).drop 1=q from rfl]at F hr;have hc:cM c=true:=by rcases p with h|h<;>(rw[show c=_ from h];rfl)
 -- the sign is a dash, or none
 have x:(ia q).all cM=true:=by
  unfold ia;cases hs:Hg (cr q 0)with
  |false=>rfl
  |true=>
   rw[La rfl];unfold Hg at hs;rw[Pb,Fb,Fb]at hs;rcases hs with hs|hs
   ·exfalso;cases q with
    |nil=>cases hs
    |cons d L=>
     rw[show d=43 from hs,Zo,La hc,Zo,Ka (by decide),Ka (by unfold cF;rw[show cr (43::L) 0=43 from rfl];simp)]at a
     grind
   ·rw[hs];rfl
 have f:c::q=(c::(ia q++(cq q).takeWhile cm))++r:=by rw[hr,Bb,Ja,Jw,rP]
 have m:(c::(ia q++(cq q).takeWhile cm)).all cM=true:=by rw[Yc,hc,List.all_append,x,zPN (vD cm _)];rfl
 rw[f,zBY _ _ m]at a;injection a with n y;have o:cS r=r:=by
  refine Qg ?_;cases r with
  |nil=>rfl
  |cons d u=>
   refine iQ (Fa.2 ?_);rintro rfl;rw[Zo,Ka (by decide),Ka (by unfold cF;rw[show cr (47::u) 0=47 from rfl];simp)]at y
   grind
 cases r with
 |nil=>rw[Pj o]at i;cases i
 |cons d u=>
  rw[nk o]at i;injection i with i _;have k:=Mq d u;rw[i]at k;have j:gi d u=7:=by rcases hk with hk|hk<;>(rw[hk]at k;exact k.symm)
  have M:t.kb=(zJ (d::u)).1:=by
   rw[<-i,QK,j,Uk];have b:(QG (d::u)).1.u=1\/(QG (d::u)).1.u=2:=by
    have:(QG (d::u)).1=t:=by rw[<-i,QK,j,Uk]
    rw[this];exact hk
   unfold QG at b ⊢;split
   ·rename_i A;rw[La A]at b;split
    ·rename_i h2;rw[La h2]at b;rcases fT (da (cv dj ((zJ (d::u)).2.drop 1))).1 with E|E<;>rcases b with b|b<;>rw[show(Xi (da (cv dj ((zJ (d::u)).2.drop 1))).1).u=_ from b]at E<;>cases E
    ·rfl
   ·rfl
  rw[<-M,ht]at n;have:=congrArg List.length n
  grind
def zHE{z r:aE}(h:Zx z=(r,true)):r=z:=by
 unfold Zx at h
 grind
def zMb{z r:aE}(h:(match cV (Zx z).1 with|some r=>(r,false)|none=>Zx z)=(r,true)):r=z:=by
 cases a:cV (Zx z).1 with
 |some y=>grind
 |none=>rw[a]at h;exact zHE h
def zPA{z r:aE}{b:Bool}(h:(match cV z with|some r=>(r,false)|none=>(z,false))=(r,b)):r=z\/cV z=some r:=by
 grind
def zBQ{t:ze}{s r:aE}{P:List ze}(N:zlX t)(h:kA s P)(b:UY t s r)(v:Qw r=P):ShS s r:=by
 have M:P≠[]:=by cases h<;>simp
 have p:r≠[]:=by rintro rfl;rw[Pj (Qg rfl)]at v;exact M v.symm
 have j:cm (cr s 0)=false->cv cm s=s:=by
  intro i;cases s with
  |nil=>rfl
  |cons c q=>rw[cv,show cm c=false from i];rfl
 rcases b with b|⟨_,b⟩|⟨R,Q,g,G⟩|⟨_,K,y,i,g,b⟩
 ·exact .inl b
 ·cases u:dj (cr s 0)with
  |true=> rw[zTz h u]at b;exact absurd b p
  |false=>
   left;rw[b];cases s with
   |nil=>rfl
   |cons c q=>rw[cv,show dj c=false from u];rfl
 ·cases N with
  |cNum n f w E S=>
   have e:Za (cE n (!f)++s)=(r,f):=Q;have a:r=cv cm s\/cV (cv cm s)=some r:=by
    cases d:(cA (n.natAbs%1000) (!f)).isEmpty with
    |true=> left;rw[sS d]at e;rw[JN S]at d;subst d;exact zMb e
    |false=> rw[UR d]at e;exact zPA e
   cases i:cm (cr s 0)with
   |true=>
    rcases a with b|l
    ·exact zM6 h i b g G v
    ·exfalso;have o:cq s=s:=by unfold cq Hg;rw[Fa.2 (dh i).1,Fa.2 (dh i).2.1];rfl
     obtain⟨A,B,U,J,rfl,rfl,_,x⟩:=YK h (by grind);obtain⟨z,O,_⟩:=yD x;rw[<-o]at l;cases d:(cA (A.natAbs%1000) B).isEmpty with
     |true=>rw[vR U d,z,O]at l;cases l
     |false=>rw[uR U d,zR7]at l;cases l
   |false=>
    rw[j i]at a;rcases a with b|l
    ·exact .inl b
    ·obtain⟨w,E,L⟩:=K9 l;exact(zM5 h w E L v).elim
  |cId|cFn|cAt|cHash|cStr|cUrl|cDel|cPct|cDim=>simp at R
  |cMark k w E=>grind
 ·exfalso;have D:cm (cr (cq s) 0)=true/\cv cm (cq (K++s))=cv cm (cq s):=by
   rcases y with rfl|rfl
   ·grind
   ·have m:cm (cr s 0)=true:=i;have o:cq s=s:=by unfold cq Hg;rw[Fa.2 (dh m).1,Fa.2 (dh m).2.1];rfl
    rw[o];exact⟨m,rfl⟩
  obtain⟨C,F⟩:=D;rw[F]at g b;obtain⟨A,B,U,J,rfl,rfl,_,x⟩:=YK h C;obtain⟨z,_,H⟩:=yD x;cases d:(cA (A.natAbs%1000) B).isEmpty with
  |true=>
   rw[vR U d,z]at g b;rcases H with rfl|rfl|⟨_,T⟩
   ·cases g
   ·cases g
   grind
  |false=>rw[uR U d,GY]at g;cases g
abbrev cmtW:aE:=[47,42,42,47]
def kQ{s:aE}{P:List ze}(h:kA s P)(x:aE)(a:cr x 0≠42):([47,42]:aE).isPrefixOf (s++x)=false:=by
 obtain⟨c,r,rfl⟩:=Mj (Gl h);by_cases hc:c=47
 ·have:=iD h (.inl rfl) hc;rw[this];cases x with
  |nil=>rfl
  |cons d t=>
   show((47==(47:UInt8))&&((42==d)&&_))=false;have:((42:UInt8)==d)=false:=Fa.2 (λe=>a e.symm)
   grind
 grind
def KL{s:aE}{P:List ze}(h:kA s P):cS s=s:=by
 refine Qg ?_;have:=kQ h [] (by decide)
 grind
def TR(x:aE):qf (92::10::x)=(⟨9,[92],0,[],false⟩,10::x):=rfl
def zG0{l:aE}(g:l≠[])(h:ZL l=true)(f:dr l=[117,114,108])(b:Bool)(w:aE):
  qf (ZA l++40::((if b then [32]else [])++34::w))=(⟨2,l,0,[],false⟩,(if b then [32]else [])++34::w):=by
 have d:=dK g ((if b then [32]else [])++34::w);have a:=J5 h ((if b then [32]else [])++34::w);obtain⟨c,r,e⟩:=Mj (Tn d);rw[e]at d a ⊢;rw[QK,nE d (by grind),Uk];unfold QG;rw[a];simp only;have i:cr (cv dj ((40::((if b then [32]else [])++34::w)).drop 1)) 0=34:=by cases b<;>rfl
 rw[La (by rfl),f,i,Ka (by decide)];rfl
def JZ{l:aE}(h:dr l=[117,114,108]):l≠[]:=by rintro rfl;cases h
def zOd(l m x:aE)(b:Bool):(ZA l++40::((if b then [32]else [])++34::(cW dl m++[34])))++x=ZA l++40::((if b then [32]else [])++34::((cW dl m++[34])++x)):=by
 grind
def xZ{l m:aE}{b:Bool}(h:ZL l=true)(hl:dr l=[117,114,108])(hm:ZL m=true)(x:aE):
  run ((ZA l++40::((if b then [32]else [])++34::(cW dl m++[34])))++x) (⟨2,l,0,[],false⟩::((if b then [tkSp]else [])++[⟨5,m,0,[],false⟩])) x:=by
 rw[zOd];have hf:=zG0 (JZ hl) h hl b ((cW dl m++[34])++x);have hn:=dK (JZ hl) ((if b then [32]else [])++34::((cW dl m++[34])++x));have hs: ∀q:aE,q=34::((cW dl m++[34])++x)->run q [⟨5,m,0,[],false⟩] x:=by rintro q rfl;have:=kT hm x;rw[Bb]at this;exact⟨34,_,Qg rfl,by rw[this],by rw[this];rfl⟩
 obtain⟨c,r,e⟩:=Mj (Tn hn);rw[e]at hf hn ⊢;have hc:c≠47:=by rintro rfl;exact absurd (show hdB 47=true from Yy hn) (by decide)
 refine⟨c,r,Qg (iQ (Fa.2 hc)),by rw[hf],?_⟩;rw[hf];cases b with
 |false=>exact hs _ rfl
 |true=> exact⟨32,34::((cW dl m++[34])++x),Qg rfl,rfl,hs _ rfl⟩
def EZ{s:aE}{P:List ze}(h:kA s P){x:aE}(a:neu x):run (s++x) P x:=by
 cases h with
 |one t h d f=>
  have g:=zPz h d f a;have i:=kQ (.one t h d f) x (by rcases a with rfl|⟨y,rfl⟩;exact(show(0:UInt8)≠42 by decide);exact(show(47:UInt8)≠42 by decide));obtain⟨c,r,e⟩:=Mj (Gl (.one t h d f));rw[e]at g i ⊢;exact⟨c,r++x,Qg i,by grind,by rw[show c::(r++x)=(c::r)++x from rfl,g];rfl⟩
 |back=> refine⟨92,10::x,Qg rfl,by rw[TR],?_⟩;rw[TR];refine⟨10,x,Qg rfl,rfl,?_⟩;show cv dj x=x;exact U9 rfl a
 |url l m b h j k=>exact xZ h j k x
def zQR{u s r:aE}{p P:List ze}(hu:kA u p)(hs:kA s P)(hr:run (u++s) p r)(j:Qw r=P):ShS s r:=by
 cases hu with
 |one t h hb hu=>
  obtain⟨c,q,h1,h2,h3⟩:=hr;have a:kA (eq t) [t]:= .one t h hb hu;rw[run]at h3;cases hp:([47,42]:aE).isPrefixOf (eq t++s)with
  |true=>
   exfalso;obtain⟨c0,r0,e⟩:=Mj (Gl a);by_cases hc:c0=47
   ·have e2:=iD a (.inl rfl) (by rw[e];exact hc);rw[e2]at hp h1;have f:cr s 0=42:=by
     cases s with
     |nil=>cases hp
     |cons d o=>
      have:((42:UInt8)==d)=true:=by have h':((47==(47:UInt8))&&((42==d)&&true))=true:=hp;simpa using h'
      exact(Fb.1 this).symm
    rw[iD hs (.inr rfl) f]at h1;have:cS ([47]++[42])=[]:=by rw[Ak];rfl
    grind
   grind
  |false=> rw[Qg hp]at h1;rw[<-h1]at h2 h3;have:=zL8 h hu h2;rw[h3]at this;exact zBQ h hs this j
 |back=> obtain⟨c,q,h1,h2,h3⟩:=hr;rw[show cS ([92,10]++s)=92::10::s from Qg rfl]at h1;injection h1 with e1 e2;subst e1 e2;rw[TR]at h3;obtain⟨v,x,k,y,n⟩:=h3;rw[show cS (10::s)=10::s from Qg rfl]at k;injection k with e1 e2;subst e1 e2;rw[run]at n;have i:cv dj s=r:=n;exact zBQ (t:=tkSp) (.cMark 13 (by omega) (by omega)) hs (.inr (.inl ⟨rfl,i.symm⟩)) j
 |url l m b h hl hm=>exact .inl (J2 hr (xZ h hl hm s))
def Lk(R A:aE):Prop:=cS R=A\/ ∃d y,cm d=true/\A=48::46::d::y/\cS R=46::d::y
def ny{R A:aE}(h:Lk R A)(a:A≠[]):cS R≠[]:=by
 rcases h with h|⟨d,y,_,_,h⟩
 ·rw[h];exact a
 ·rw[h];simp
def MZ{R A x:aE}(h:Lk R A)(b:A≠[])(c:([47,42]:aE).isPrefixOf (A++x)=false):Lk (R++x) (A++x):=by
 rcases h with h|⟨d,y,a,rfl,h⟩
 ·left;rw[Gz (by rw[h];exact b) (by rw[h];exact c),h]
 ·right;exact⟨d,y++x,a,rfl,by rw[Gz (by rw[h];simp) (by rw[h];rfl),h];rfl⟩
def KZ{R A:aE}(h:Lk R A)(g:([47,42]:aE).isPrefixOf A=false){t:ze}{ts:List ze}{r:aE}:run R (t::ts) r↔run A (t::ts) r:=by
 rcases h with h|⟨d,y,f,rfl,h⟩
 ·rw[<-U2 (q:=R) (by simp),h]
 ·rw[<-U2 (q:=R) (by simp),h];constructor
  ·rintro⟨c,q,a,e,b⟩;rw[Qg rfl]at a;rw[<-a]at e b;exact⟨48,46::d::y,Qg rfl,by rw[mG d y f];exact e,by rw[mG d y f];exact b⟩
  ·rintro⟨c,q,a,e,b⟩;rw[Qg rfl]at a;rw[<-a,mG d y f]at e b;exact⟨46,d::y,Qg rfl,e,b⟩
def U5{R A:aE}(h:Lk R A):Qw R=Qw A:=by
 rcases h with h|⟨d,y,a,rfl,h⟩
 ·rw[<-Ew R,h]
 ·rw[<-Ew R,h,nk (Qg rfl),nk (l:=48::46::d::y) (Qg rfl),mG d y a]
inductive Syn:aE->List ze->List (List ze×aE)->Prop
 |nil:Syn [] [] []
 |cmt (b s:aE) (ts P:List ze) (st:List (List ze×aE)) (h:Syn b ts st) (hb:b≠[]) (hp:kA s P):Syn (b++cmtW++s) (ts++P) (st++[(ts,b++cmtW)])
 |no (b s:aE) (ts P:List ze) (st:List (List ze×aE)) (h:Syn b ts st) (hp:kA s P) (ht:Qw (b++s)=ts++P):Syn (b++s) (ts++P) (st++[(ts,b)])
def Bd(b:aE)(ts L:List ze)(B:aE)(m:Nat):Prop:= ∃A R a,b=B++A/\A≠[]/\ts=L++a/\a≠[]/\run b L R/\Lk R A/\m<=R.length/\m<=A.length
structure zRF (b:aE) (ts:List ze) (st:List (List ze×aE)):Prop where
 tok:Qw b=ts
 bd: ∀k (h:k<st.length),Bd b ts st[k].1 st[k].2 (st.length - k)
 last:(st=[]/\b=[]/\ts=[])\/ ∃L B u p R,kA u p/\b=B++u/\ts=L++p/\run b L R/\Lk R u
def pc_P{s:aE}{P:List ze}(h:kA s P): ∃t us,P=t::us:=by cases h<;>exact⟨_,_,rfl⟩
def pY {b x:aE}{ts P L:List ze}{B:aE}{m:Nat}(h:Bd b ts L B m)(d:x≠[])
  (a: ∀R,R≠[]->run b L R->(∃A,A≠[]/\Lk R A/\b=B++A)->run (b++x) L (R++x)/\(∀A,A≠[]->Lk R A->b=B++A->Lk (R++x) (A++x))):Bd (b++x) (ts++P) L B (m+1):=by
 obtain⟨A,R,us,h1,h2,h3,h4,f,c,l,n⟩:=h;have i:R≠[]:=by intro e;have:=ny c h2;rw[e]at this;exact this (Qg rfl)
 obtain⟨j,k⟩:=a R i f ⟨A,h2,c,h1⟩;refine⟨A++x,R++x,us++P,by grind,by simp[h2],by grind,by simp[h4],j,k A h2 c h1,?_⟩;have:=Oe.2 d
 grind
def iY{q:aE}(h:cS q=[47]):cS (q++[42])=[]:=by
 rw[Ak q]at h;cases a:([47,42]:aE).isPrefixOf q with
 |true=>
  have b:=jl a;rw[show([47,42]:aE).length=2 from rfl]at b;rw[a,La rfl]at h;cases c:gc (q.drop 2)with
  |none=>grind
  |some p=>
   rw[c]at h;have d:p.length<q.length:=by have d:=(Jo _ c).2;rw[Ic]at d;omega
   rw[Ak,Kv [42] (by exact b),a,La rfl,bv b,wS [42] c];exact iY h
 |false=> rw[a,Ka (by decide)]at h;subst h;rw[Ak];rfl
termination_by q.length
def zQ0{q s:aE}{P us:List ze}(hs:kA s P)(h:VY q s us)(o:us≠[]):False:=by
 obtain⟨c,r,_,⟨⟨e,fl,p,i⟩,y,hk,d⟩,a,b⟩:=h;have j:=Mq c (r++s);rw[a,hk]at j;have k:gi c (r++s)=3:=j.symm;have l:qf (c::(r++s))=Zb ((c::r)++s):=by rw[QK,k,El];rfl
 have t:yf (c::r)≠[]:=by intro e2;rw[e2]at i;cases congrArg Prod.fst i
 have e2:yf ((c::r)++s)=yf (c::r)++s:=by unfold yf;rw[(fq s (by simp)).1];exact Mo s t
 have u:=(zCZ (q:=yf (c::r)) (x:=s) (by rw[i];simp) (λe3=>by
  rw[e3]at i;have:=congrArg Prod.fst i;cases this)).1
 have m:cV ([e,43]++s)=some (cv cm s):=by
  unfold cV;have h1:(cr ([e,43]++s) 0==101||cr ([e,43]++s) 0==69)=true:=by rcases p with rfl|rfl<;>rfl
  have h2:cq (([e,43]++s).drop 1)=s:=rfl;rw[h1,La rfl,h2,d,La rfl]
 have n:Za ((c::r)++s)=(cv cm s,false):=by rw[Jk,e2,u,i];simp only[m]
 have f:(Zb ((c::r)++s)).1.u=12:=by rw[<-l,a,hk]
 rw[l]at b;unfold Zb at f b;rw[n]at f b;simp only at f b;have v:cq s=s:=by unfold cq Hg;rw[Fa.2 (dh d).1,Fa.2 (dh d).2.1];rfl
 cases hn:d6 (cv cm s)with
 |false=>
  grind
 |true=>
  rw[hn,La rfl]at b;obtain⟨A,p2,U,t2,_,rfl,_,E⟩:=YK hs (by grind);obtain⟨F,_,J⟩:=yD E;rw[<-v]at hn b;cases hp:(cA (A.natAbs%1000) p2).isEmpty with
  |true=>
   rw[vR U hp,F]at hn b;rcases J with rfl|rfl|⟨_,hu⟩
   ·cases hn
   ·cases hn
   ·rw[hu,Pj (Qg rfl)]at b;exact o b.symm
  |false=>rw[uR U hp,GY]at hn;cases hn
def mX{R A:aE}(h:Lk R A)(b:A≠[])(y:aE):Lk (R++47::42::y) (A++47::42::y):=by
 rcases h with h|⟨d,z,a,rfl,h⟩
 ·left;rw[KR y (by rw[h];exact b),h]
 ·right;exact⟨d,z++47::42::y,a,rfl,by rw[KR y (by rw[h];simp),h];rfl⟩
def zMg{s:aE}{P:List ze}(h:kA s P):cS (47::42::42::47::s)=s:=by rw[Ak];exact KL h
def M0{s:aE}{P:List ze}(h:kA s P):Qw s=P:=by have:=Iw (EZ h (x:=[]) (.inl rfl));rw[Ib,Pj (Qg rfl),Ib]at this;exact this
def zHQ{α:Type}{l a:List α}(h:l++a=l):a=[]:=by simp_all
def zTd{b:aE}{ts:List ze}{st:List (List ze×aE)}(h:Syn b ts st):zRF b ts st:=by
 induction h with
 |nil=>exact⟨Pj (Qg rfl),λk h=>(by cases h), .inl ⟨rfl,rfl,rfl⟩⟩
 |cmt b s ts P st h hb hp ih=>
  obtain⟨ht,O,hl⟩:=ih;have hx:b++cmtW++s=b++47::42::(42::47::s):=by rw[Ja];rfl
  obtain⟨t0,a6,Q⟩:=pc_P hp;have a:run (b++47::42::(42::47::s)) ts (47::42::(42::47::s)):=by
   rcases hl with⟨_,e,_⟩|⟨L,B,u,p,R,v,g2,U,g4,W⟩
   ·exact absurd e hb
   ·have E:R≠[]:=by intro e;have:=ny W (Gl v);rw[e]at this;exact this (Qg rfl)
    obtain⟨t1,a7,J⟩:=pc_P v;rw[U];refine uL (tQ (42::47::s) g4 E) ?_;have h1:=EZ v (x:=47::42::(42::47::s)) (.inr ⟨_,rfl⟩);rw[J]at h1 ⊢;exact(KZ (mX W (Gl v) (42::47::s)) (kQ v _ (by show(47:UInt8)≠42;decide))).2 h1
  have j:Lk (47::42::(42::47::s)) s:= .inl (zMg hp);rw[hx];refine⟨?_,?_, .inr ⟨ts,b++cmtW,s,P,_,hp,by grind,rfl,a,j⟩⟩
  ·rw[Iw a,U5 j,M0 hp]
  ·intro k hk;rw[Ea,Td]at hk;by_cases m:k<st.length
   ·rw[List.getElem_append_left m];have:=pY (P:=P) (x:=47::42::(42::47::s)) (O k m) (by simp) (λR E F _=>⟨tQ _ F E,λA V Y _=>mX Y V _⟩)
    grind
   ·have n:k=st.length:=by omega
    subst n;rw[List.getElem_append_right (by omega)];simp only[Nat.sub_self,List.getElem_cons_zero];refine⟨s,_,P,by grind,Gl hp,rfl,by rw[Q];simp,a,j,?_⟩;have:=Oe.2 (Gl hp)
    grind
 |no b s ts P st h hp M ih=>
  obtain⟨ht,O,hl⟩:=ih;obtain⟨t0,a6,Q⟩:=pc_P hp;have o:P≠[]:=by rw[Q];simp
  have i:=Gl hp
  -- what is ahead stays
  have keep: ∀(L us:List ze) (R:aE),ts=L++us->R≠[]->run b L R->run (b++s) L (R++s):=by
   intro L us R Z E a;rcases N8 (us:=us++P) a E i (by grind)with h1|⟨_,q,_,h1⟩
   ·exact h1
   ·exact(zQ0 hp h1 (by simp[o])).elim
  have l: ∀(L us:List ze) (R A:aE),ts=L++us->run (b++s) L (R++s)->A≠[]->Lk R A->Lk (R++s) (A++s):=by
   intro L us R A Z a V j;cases f:([47,42]:aE).isPrefixOf (A++s)with
   |false=>exact MZ j V f
   |true=>
    exfalso;rcases j with h1|⟨d,y,_,rfl,_⟩
    ·cases A with
     |nil=>exact V rfl
     |cons c r=>
      cases r with
      |cons d t=>
       have:=Fz R
       grind
      |nil=>
       have hc:c=47:=by
        cases a9:(47:UInt8)==c with
        |true=>grind
        |false=>
         grind
       subst hc;have a8:s=[42]:=by
        refine iD hp (.inr rfl) ?_;cases s with
        |nil=>grind
        |cons d t=>
         have h':(((47:UInt8)==47)&&(((42:UInt8)==d)&&true))=true:=f;have:((42:UInt8)==d)=true:=by simpa using h'
         exact(Fb.1 this).symm
       have h3:=Iw a;rw[M,Z,a8,Pj (iY h1),Ib,Ja]at h3;have:=zHQ h3;simp_all
    ·cases f
  rcases hl with⟨e1,e2,e3⟩|⟨L,B,u,p,R,v,g2,U,g4,W⟩
  ·subst e1 e2 e3;refine⟨M,?_, .inr ⟨[],[],s,P,s,hp,rfl,rfl,rfl, .inl (KL hp)⟩⟩;intro k hk;have n:k=0:=by rw[Ea,Td,Cb]at hk;omega
   subst n;exact⟨s,s,P,rfl,i,rfl,o,rfl, .inl (KL hp),Oe.2 i,Oe.2 i⟩
  ·have E:R≠[]:=by intro e;have:=ny W (Gl v);rw[e]at this;exact this (Qg rfl)
   have h1:=keep L p R U E g4;have h2:=l L p R u U h1 (Gl v) W;have h3:=Iw h1;rw[M,U,Ja]at h3;have h4:=List.append_cancel_left h3;obtain⟨r,F,Y⟩:=V7 h4.symm;have a3:ShS s r:=by
    obtain⟨t1,a7,J⟩:=pc_P v;refine zQR v hp ?_ Y;have f:([47,42]:aE).isPrefixOf (u++s)=false\/cS (R++s)=[]:=by
     rcases h2 with h2|⟨d,y,hd,h2,_⟩
     ·left;rw[<-h2];exact Fz _
     ·grind
    rcases f with f|f
    ·rw[J]at F ⊢;exact(KZ h2 f).1 F
    ·rw[J]at F;obtain⟨c,q,e,_⟩:=F
     grind
   have a:run (b++s) ts r:=by rw[U];exact uL h1 F
   have j:Lk r s:=by
    rcases a3 with rfl|⟨d,y,hd,e1,e2⟩
    ·exact .inl (KL hp)
    ·right;exact⟨d,y,hd,e1,by rw[e2];exact Qg rfl⟩
   have ab:1<=r.length:=by
    rcases a3 with rfl|⟨d,y,_,_,e2⟩
    ·grind
    ·rw[e2];simp
   refine⟨M,?_, .inr ⟨ts,b,s,P,r,hp,rfl,rfl,a,j⟩⟩;intro k hk;rw[Ea,Td]at hk;by_cases m:k<st.length
   ·rw[List.getElem_append_left m];obtain⟨A0,R0,us,f1,f2,f3,f4,f5,f6,f7,f8⟩:=O k m;have:=pY (P:=P) (x:=s) ⟨A0,R0,us,f1,f2,f3,f4,f5,f6,f7,f8⟩ i (λR E F _=>⟨keep _ us R f3 E F,λA V Y _=>l _ us R A f3 (keep _ us R f3 E F) V Y⟩)
    grind
   ·have n:k=st.length:=by omega
    subst n;rw[List.getElem_append_right (by omega)];simp only[Nat.sub_self,List.getElem_cons_zero];refine⟨s,r,P,rfl,i,rfl,o,a,j,?_⟩;have:=Oe.2 i
    grind
end Go.Lv.VT
