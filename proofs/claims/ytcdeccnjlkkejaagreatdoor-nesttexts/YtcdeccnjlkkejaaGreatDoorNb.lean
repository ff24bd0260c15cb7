/- The writing of names. -/
import Derived.Test.YtcdeccnjlkkejaaGreatDoorNam
set_option linter.unusedSimpArgs false
set_option linter.unusedVariables false
namespace Go.Lv.VT
set_option maxRecDepth 100000
def escC(c:UInt8):Str:=bif decide (32<c.toNat)&&decide (c.toNat<127)&& !digB c&& !alB c then [92,c]else 92::(hexS c.toNat++[32])
def pcW(dash:Bool)(k:Nat)(c:UInt8):Str:=bif letB c&&(k==0|| !digB c)&& !dash then [c]else escC c
def encW(dash:Bool):Nat->Str->Str
 |_,[]=>[]
 |k,c::r=>pcW dash k c++encW dash (k - 1) r
theorem KY(c:UInt8):namN c.toNat=letB c:=by
 have: ∀n:Nat,n<256->namN (UInt8.ofNat n).toNat=letB (UInt8.ofNat n):=by decide+kernel
 have h:=this c.toNat (Ob c)
 rwa [Uc]at h
theorem zCe(c:UInt8):Bo (c.toNat:Int)=some (letB c):=by rw[PU,KY]
theorem SN(c:UInt8):qz (c.toNat:Int)=some (digB c):=RU c
theorem aY(c:UInt8):nu (c.toNat:Int)=some (alB c):=of_n (by decide+kernel) c
theorem WZ(c:UInt8):wu64 (c.toNat:Int)=(c.toNat:Int):=by
 have:=Ob c;show IntKind.u64.wrap _=_;have h: ∀n:Int,IntKind.u64.wrap n=n%18446744073709551616:=fun n=>by simp[IntKind.wrap,IntKind.bits,IntKind.signed]
 rw[h];omega
theorem fB(c:UInt8):Zv ((c.toNat:Nat):Int)=some c:=by rw[Zw (Ob c),Uc]
theorem mO(n:Nat):(hexS n).length<=2:=by unfold hexS;split<;>simp
theorem Ku(c:UInt8){acc:Str}(ha:acc.length<=1000000000):ZW ((c.toNat:Int),acc)=some (acc++escC c):=by
 have hc:=Ob c;unfold ZW escC;simp only[ze,SN,aY];have e1:decide ((c.toNat:Int)>32)=decide (32<c.toNat):=by rw[jf];omega
 have e2:decide ((c.toNat:Int)<127)=decide (c.toNat<127):=by rw[jf];omega
 rw[e1,e2];have hsh:short (acc++[(92:UInt8)])=true:=La (by rw[Ba,Eb];omega);have hu:Bq ((wu64 (c.toNat:Int),16),acc++[(92:UInt8)])=some (acc++[(92:UInt8)]++hexS c.toNat):=by unfold Bq;simp only[WZ,hsh];rw[zy (by simp;omega)];rfl
 have hx:=mO c.toNat;have hfin:need (Zb acc.length 1 1) (ze (Bq ((wu64 (c.toNat:Int),16),acc++[(92:UInt8)])) fun y4=>need (Zb y4.length 1 1) (some (y4++[(32:UInt8)])))=some (acc++92::(hexS c.toNat++[32])):=by rw[zy (ah (by omega)),hu];simp only[ze,Aa];rw[zy (ah (by rw[Ba,Ba,Eb];omega))];simp
 simp only[ze]at hfin;rw[hfin];cases decide (32<c.toNat)with
 |false=>rfl
 |true=>
  cases decide (c.toNat<127)with
  |false=>rfl
  |true=>
   cases digB c with
   |true=>rfl
   |false=>
    cases alB c with
    |true=>rfl
    |false=> simp only[zu,Ja,Ec,Bool.and_self,Aa,fB];rw[zy (ah (by omega))]
theorem Wy(c:UInt8):(escC c).length<=4:=by
 have:=mO c.toNat;unfold escC;cases decide (32<c.toNat)&&decide (c.toNat<127)&& !digB c&& !alB c with
 |true=>show 2<=4;omega
 |false=>rw[Ha,Ia,Ba,Eb];omega
theorem DN(dash:Bool)(k:Nat)(c:UInt8):(pcW dash k c).length<=4:=by
 have:=Wy c;unfold pcW;cases letB c&&(k==0|| !digB c)&& !dash with
 |true=>show 1<=4;omega
 |false=>exact this
theorem Xy(dash:Bool): ∀(k:Nat) (l:Str),(encW dash k l).length<=4*l.length
 |_,[]=>by unfold encW;simp
 |k,c::r=>by have:=DN dash k c;have:=Xy dash (k - 1) r;unfold encW;rw[Ba,Ia];omega
theorem zB2{dash:Bool}{k i:Nat}{l:Str}(h:i<l.length):encW dash (k - i) (l.drop i)=pcW dash (k - i) l[i]++encW dash (k - (i+1)) (l.drop (i+1)):=by rw[Ub h,encW,show k - i - 1=k - (i+1) by omega]
theorem zDi {R:Type} {step:Int×List UInt8->Option (LO (Int×List UInt8) (List UInt8) R)} {l acc:Str} {k:Nat} {dash:Bool} (hl:l.length<=100000) (ha:acc.length<=100000000)
  (h1: ∀(i:Nat) (a:Str) (hi:i<l.length),a.length<=500000000->step ((i:Int),a)=some (.again (w64 ((i:Int)+1),a++pcW dash (k - i) l[i])))
  (h2: ∀a,step ((l.length:Int),a)=some (.out a)):Nh step (0,acc)=some (.out (acc++encW dash k l)):=by
 refine Qj (fun z=> ∃(i:Nat) (a:Str),z=((i:Int),a)/\i<=l.length/\a.length<=acc.length+4*i/\a++encW dash (k - i) (l.drop i)=acc++encW dash k l) (fun z=>l.length - z.1.toNat) _ ?_ ⟨0,acc,rfl,by omega,by omega,rfl⟩;rintro _ ⟨i,a,rfl,hi,hal,he⟩;rcases Sc i l.length with h|h
 ·refine .inl ⟨_,h1 i a h (by omega),⟨i+1,_,by rw[Za (by omega) (by omega)];rfl,by omega,?_,?_⟩,by simp only;rw[Za (by omega) (by omega)];omega⟩
  ·have:=DN dash (k - i) l[i];rw[Ba];omega
  ·rw[<-he,zB2 h,Ra]
 ·have:i=l.length:=by omega
  subst this;refine .inr (.inl ⟨_,h2 a,?_⟩);rw[<-he,Pe (Va _)];rw[show encW dash (k - l.length) []=[] by rw[encW],Ab]
def Ko(k:Nat)(l:Str):Bool:= !(k==0)&&l==[45]
def QW(l:Str):Nat:=if [45].isPrefixOf l then 2 else 1
theorem Vy(l:Str):Lm l=some ((QW l:Nat):Int):=by unfold Lm QW;simp only[ze,xu,Aa];cases List.isPrefixOf [45] l<;>rfl
def ql(l:Str):Str:=encW (l==[45]) (QW l) l
theorem Ox{n:Nat}(h:n<16):Qb (hexD n)=true/\hexN (hexD n)=n/\(hexD n==10)=false/\letB (hexD n)=true:=by
 have: ∀n:Nat,n<16->Qb (hexD n)=true/\hexN (hexD n)=n/\(hexD n==10)=false/\letB (hexD n)=true:=by decide+kernel
 exact this n h
theorem UJ{k n:Nat}{c:UInt8}{r:Str}(h:Qb c=true):hexes (k+1) n (c::r)=hexes k (16*n+hexN c) r:=by rw[hexes,Ka h]
theorem rM{n:Nat}(h:n<256)(R:Str):hexes 6 0 (hexS n++32::R)=(n,32::R):=by
 unfold hexS;by_cases h1:n<16
 ·obtain⟨a,b,_⟩:=Ox h1;rw[Ka h1,Ed,UJ a,b,vG _ _ (32::R) (show Qb 32=false by decide)];simp
 ·obtain⟨a,b,_⟩:=Ox (show n / 16<16 by omega);obtain⟨a',b',_⟩:=Ox (show n%16<16 by omega);rw[Ga h1,ma,Ed,UJ a,UJ a',b,b',vG _ _ (32::R) (show Qb 32=false by decide)];rw[show 16*(16*0+n / 16)+n%16=n by omega]
theorem UI{n:Nat}(h:n<256)(R:Str): ∃d t,hexS n++R=d::t/\Qb d=true/\(d==10)=false:=by
 unfold hexS;by_cases h1:n<16
 ·obtain⟨a,_,b,_⟩:=Ox h1;exact⟨_,_,by rw[Ka h1];rfl,a,b⟩
 ·obtain⟨a,_,b,_⟩:=Ox (show n / 16<16 by omega);exact⟨_,_,by rw[Ga h1];rfl,a,b⟩
theorem yP{c:UInt8}(h0:c≠0)(h:c.toNat<128):Uh c.toNat=[c]:=by
 have hn:c.toNat≠0:=by intro e;exact h0 (Pf.1 e)
 unfold Uh;rw[Ga (by omega),Ka h,Uc]
theorem nQ{r:Str}(h:escS (92::r)=true):zm (92::r)=((zq r).1++(zm (zq r).2).1,(zm (zq r).2).2):=by rw[zG,Ga (by decide),Ka h]
theorem vN{c:UInt8}(h0:c≠0)(h:c.toNat<128)(R:Str):zm (escC c++R)=(c::(zm R).1,(zm R).2):=by
 unfold escC;cases hg:decide (32<c.toNat)&&decide (c.toNat<127)&& !digB c&& !alB c with
 |true=>
  rw[Ja];have hx:Qb c=false/\(c==10)=false:=by
   have: ∀n:Nat,n<256->(decide (32<(UInt8.ofNat n).toNat)&&decide ((UInt8.ofNat n).toNat<127)&& !digB (UInt8.ofNat n)&& !alB (UInt8.ofNat n))=true->Qb (UInt8.ofNat n)=false/\(UInt8.ofNat n==10)=false:=by decide+kernel
   have:=this c.toNat (Ob c);rw[Uc]at this;exact this hg
  have he:zq (c::R)=([c],R):=by show(if Qb c then _ else _)=_;rw[Ga (by rw[hx.1];decide)]
  rw[show [92,c]++R=92::c::R from rfl,nQ (by unfold escS;rw[show atS (92::c::R) 0=92 from rfl,show atS (92::c::R) 1=c from rfl,hx.2];rfl),he];rfl
 |false=>
  rw[Ha,ma,Ra];obtain⟨d,t,e,hd,h10⟩:=UI (n:=c.toNat) (Ob c) ([32]++R);have he:zq (hexS c.toNat++([32]++R))=([c],R):=by have hh:=rM (n:=c.toNat) (Ob c) R;rw[show(32::R:Str)=[32]++R from rfl,e]at hh;rw[e];show(if Qb d then(Uh (hexes 6 0 (d::t)).1,unsp (hexes 6 0 (d::t)).2)else _)=_;rw[Ka hd,hh,yP h0 h];rfl
  rw[nQ (by rw[e];unfold escS;rw[show atS (92::d::t) 0=92 from rfl,show atS (92::d::t) 1=d from rfl,h10];rfl),he];rfl
theorem oG{c:UInt8}(h: ¬c.toNat<128):letB c=true/\digB c=false:=by
 have: ∀n:Nat,n<256-> ¬(UInt8.ofNat n).toNat<128->letB (UInt8.ofNat n)=true/\digB (UInt8.ofNat n)=false:=by decide+kernel
 have:=this c.toNat (Ob c);rw[Uc]at this;exact this h
theorem OM{dash:Bool}{k:Nat}{c:UInt8}(h0:c≠0)(hd:dash=true->c.toNat<128)(R:Str):zm (pcW dash k c++R)=(c::(zm R).1,(zm R).2):=by
 unfold pcW;cases hg:letB c&&(k==0|| !digB c)&& !dash with
 |true=> rw[Da,Da]at hg;rw[Ja,Ed,zG,Ka hg.1.1]
 |false=>
  rw[Ha];refine vN h0 ?_ R;by_cases h:c.toNat<128
  ·exact h
  ·obtain⟨a,b⟩:=oG h;rw[a,b,Ec,af]at hg;exact hd (by cases dash<;>simp_all)
theorem wN{dash:Bool}: ∀(k:Nat) (l:Str),Zn l=true->(dash=true-> ∀c∈l,c.toNat<128)->zm (encW dash k l)=(l,[])
 |_,[],_,_=>by rw[encW,qN]
 |k,c::r,h,hd=>by unfold Zn at h;rw[Sd,Da]at h;rw[encW,OM (by rintro rfl;exact absurd h.1 (by decide)) (fun e=>hd e c (Fb ..)),wN (k - 1) r h.2 (fun e x hx=>hd e x (Cb _ hx))]
theorem FZ{l:Str}(h:Zn l=true):zm (ql l)=(l,[]):=by refine wN _ _ h (fun e c hc=> ?_);rw[Lb.1 e,Sa]at hc;subst hc;decide
theorem aC{dash:Bool}{k:Nat}(hk:0<k)(c:UInt8)(R:Str): ∃d t,pcW dash k c++R=d::t/\(d=92/\escS (d::t)=true\/(d=c/\dash=false/\letB d=true/\digB d=false/\t=R)):=by
 have hk0:(k==0)=false:=by rw[Fa];omega
 unfold pcW;rw[hk0,jd];cases hg:letB c&& !digB c&& !dash with
 |true=> rw[Da,Da,je,je]at hg;exact⟨c,R,rfl, .inr ⟨rfl,hg.2,hg.1.1,hg.1.2,rfl⟩⟩
 |false=>
  rw[Ha];unfold escC;cases hg2:decide (32<c.toNat)&&decide (c.toNat<127)&& !digB c&& !alB c with
  |true=>
   refine⟨92,c::R,rfl, .inl ⟨rfl,?_⟩⟩;have:c≠10:=by rintro rfl;revert hg2;decide
   unfold escS;rw[show atS (92::c::R) 1=c from rfl,Fa.2 this];rfl
  |false=> obtain⟨d,t,e,hd,h10⟩:=UI (n:=c.toNat) (Ob c) ([32]++R);refine⟨92,_,by rw[Ha,ma,Ra], .inl ⟨rfl,?_⟩⟩;rw[e];unfold escS;rw[show atS (92::d::t) 1=d from rfl,h10];rfl
theorem dQ{d:UInt8}(h:letB d=true)(h2:digB d=false):fstB d=true\/d=45:=by unfold letB at h;rw[h2,Rf,Md,Lb]at h;exact h
theorem AX{d:UInt8}{t:Str}(hd:d=92)(h:escS (d::t)=true):nmS (d::t)=true:=by subst hd;unfold nmS;rw[show atS (92::t) 0=92 from rfl,Ga (by decide),h,af]
theorem yl{l:Str}(h:l≠[]):nmS (ql l)=true:=by
 cases l with
 |nil=>exact absurd rfl h
 |cons c r=>
  unfold ql encW;obtain⟨d,t,e,hd⟩:=aC (dash:=(c::r:Str)==[45]) (k:=QW (c::r)) (by unfold QW;split<;>omega) c (encW ((c::r:Str)==[45]) (QW (c::r) - 1) r);rw[e];rcases hd with⟨h1,h2⟩|⟨rfl,h2,h3,h4,h5⟩
  ·exact AX h1 h2
  ·rcases dQ h3 h4 with h6|rfl
   ·by_cases h45:d=45
    ·subst h45;exact absurd h6 (by decide)
    ·unfold nmS;rw[show atS (d::t) 0=d from rfl,Ga (by rw[Lb];exact h45),h6,Hf]
   ·have hr:r≠[]:=by rintro rfl;exact absurd h2 (by decide)
    cases r with
    |nil=>exact absurd rfl hr
    |cons c2 r2=>
     have hf:QW (45::c2::r2)=2:=rfl;rw[hf]at h5;obtain⟨d2,t2,e2,hd2⟩:=aC (dash:=(45::c2::r2:Str)==[45]) (k:=2 - 1) (by omega) c2 (encW ((45::c2::r2:Str)==[45]) (2 - 1 - 1) r2);have ht:t=d2::t2:=by rw[h5,encW,e2]
     rw[ht];unfold nmS;rw[show atS (45::d2::t2) 0=45 from rfl,Ka (show((45:UInt8)==45)=true from rfl),show atS (45::d2::t2) 1=d2 from rfl,show(45::d2::t2:Str).drop 1=d2::t2 from rfl];rcases hd2 with⟨_,h7⟩|⟨_,_,h8,h9,_⟩
     ·rw[h7,af]
     ·rcases dQ h8 h9 with h10|rfl
      ·rw[h10];rfl
      ·simp
theorem Rq(m:UInt8):zZ m []=(some [],[]):=by rw[zZ]
theorem qR(m c:UInt8)(r:Str):zZ m (c::r)=if c==m then(some [],r)
  else if c==10 then(none,c::r)
  else if c==92 then
   (if r.isEmpty then(some [],[])
   else if atS r 0==10 then zZ m (r.drop 1)
   else((zZ m (zq r).2).1.map ((zq r).1++ ·),(zZ m (zq r).2).2))
  else((zZ m r).1.map (c:: ·),(zZ m r).2):=by rw[zZ]
theorem uD(m:UInt8)(l:Str):(zZ m l).2<:+l:=by
 match l with
 |[]=>rw[Rq];exact Ae _
 |c::r=>
  rw[qR];have hr:=Te c r;split
  ·exact hr
  ·split
   ·exact Ae _
   ·split
    ·split
     ·exact List.nil_suffix
     ·split
      ·exact(uD m (r.drop 1)).trans ((Lf 1 r).trans hr)
      ·have:=zP r;exact(uD m (zq r).2).trans ((ZO r).trans hr)
    ·exact(uD m r).trans hr
termination_by l.length
decreasing_by
 all_goals first|(have:=zP r;simp only[Ia];omega)|(simp only[Ia,Dc];omega)
theorem nG(a b:Str)(x:Option Str):(x.map (b++ ·)).map (a++ ·)=x.map ((a++b)++ ·):=by
 cases x with
 |none=>rfl
 |some t=>show some (a++(b++t))=some ((a++b)++t);rw[Ra]
theorem KP(a:Str)(b:UInt8)(x:Option Str):(x.map (b:: ·)).map (a++ ·)=x.map ((a++[b])++ ·):=nG a [b] x
def Vj:Option Str->zb
 |some t=>⟨5,t,0,[],false⟩
 |none=>⟨6,[],0,[],false⟩
theorem zCW{s q:Str}{m:UInt8}(hs:s.length<=big)(hm:m::q<:+s):qh (sr s (m::q))=some (Vj (zZ m q).1,sr s (zZ m q).2):=by
 have hb:big=4194304:=rfl;have hq:=uj hm;unfold qh;simp only[ze,Wh hs hm,Aa,Rp,Ji hs hm]
 let res:LX (za×zb×List UInt8) (zb×za):=match(zZ m q).1 with
  |some t=> .out (sr s (zZ m q).2,⟨0,[],0,[],false⟩,t)
  |none=> .ret (⟨6,[],0,[],false⟩,sr s (zZ m q).2)
 rw[Wp (r:=res)]
 ·show LX.go res _=_;cases h:(zZ m q).1 with
  |some t=>simp only[res,h];rfl
  |none=>simp only[res,h];rfl
 refine Qj (fun z=> ∃(p acc:Str),z=(sr s p,⟨0,[],0,[],false⟩,acc)/\p<:+s/\acc.length+4*p.length<=4*s.length/\(zZ m q).1=(zZ m p).1.map (acc++ ·)/\(zZ m q).2=(zZ m p).2) (fun z=>s.length - z.1.at_.toNat) _ ?_
  ⟨q,[],rfl,hq,by have:=hq.length_le;rw[Lc];omega,by simp,rfl⟩
 rintro _ ⟨p,acc,rfl,hp,hl,he1,he2⟩;simp only[Wh hs hp,Aa,Dp,UL,IW];cases p with
 |nil=> refine .inr (.inl ⟨_,rfl,?_⟩);rw[Rq]at he1 he2;simp only[res,he1,he2,Jb,Ab]
 |cons c t=>
  have hlen:=hp.length_le;rw[Ia]at hlen hl;have ht:=uj hp;rw[qR]at he1 he2;rw[show(c::t).isEmpty=false from rfl,Ha,Rp,show((c.toNat:Int)==(m.toNat:Int))=(c==m)from eB c m,show atS (c::t) 0=c from rfl,Ji hs hp];have mono: ∀u:Str,u.length<=t.length->u<:+s->s.length - beh s u<s.length - beh s (c::t):=by intro u hu hus;unfold beh;rw[Ia];omega
  cases hcm:c==m with
  |true=> rw[hcm,Ka rfl]at he1 he2;refine .inr (.inl ⟨_,by rw[Ja],?_⟩);simp only[res,he1,he2,Jb,Ab]
  |false=>
   rw[hcm,Ga (by decide)]at he1 he2;rw[Ha];cases h10:c==10 with
   |true=> rw[h10,Ka rfl]at he1 he2;refine .inr (.inr ⟨_,by rw[Ja],?_⟩);simp only[res,he1,he2,Option.map_none]
   |false=>
    rw[h10,Ga (by decide)]at he1 he2;rw[Ha];cases h92:c==92 with
    |false=> rw[h92,Ga (by decide)]at he1 he2;simp only[zu,Ha,Aa,xe,Ny];rw[zy (ah (by omega))];exact .inl ⟨_,rfl,⟨t,acc++[c],rfl,ht,by rw[Ba,Eb];omega,by rw[he1,KP],he2⟩,mono t (by omega) ht⟩
    |true=>
     rw[h92,Ka rfl]at he1 he2;simp only[zu,Ja,vv hs hp,Aa,Xc];have hpk:pk (c::t) 1=pk t 0:=rfl;rw[hpk,Dp];cases t with
     |nil=>
      rw[show([]:Str).isEmpty=true from rfl,Ka rfl]at he1 he2;have hbe:beh s [c]=s.length - 1:=rfl;have h2:(if((s.length:Int)<w64 ((beh s [c]:Int)+2))then(s.length:Int)else w64 ((beh s [c]:Int)+2))=((beh s []:Nat):Int):=by rw[Za (by omega) (by omega),Ka (by omega)];unfold beh;rw[Lc];omega
      refine .inl ⟨(sr s [],⟨0,[],0,[],false⟩,acc),?_,⟨[],acc,rfl,List.nil_suffix,by rw[Lc];omega,by rw[he1,Rq],by rw[he2,Rq]⟩,mono [] (by simp) List.nil_suffix⟩;simp only[List.isEmpty_nil,Ja,Oc,Ha,Aa];rw[h2]
     |cons d u=>
      rw[show(d::u).isEmpty=false from rfl,Ga (by decide)]at he1 he2;simp only[show(d::u).isEmpty=false from rfl,Ec,Ja,Ha,Aa,UL];cases hd:atS (d::u) 0==10 with
      |true=>
       rw[hd,Ka rfl]at he1 he2;have hu:=uj ht;rw[Ia]at hlen hl;have hbe:beh s (c::d::u)=s.length - (u.length+1+1):=by unfold beh;rw[Ia,Ia]
       have h2:(if((s.length:Int)<w64 ((beh s (c::d::u):Int)+2))then(s.length:Int)else w64 ((beh s (c::d::u):Int)+2))=((beh s u:Nat):Int):=by rw[Za (by omega) (by omega),Ga (by omega)];unfold beh;rw[Ia,Ia];omega
       refine .inl ⟨(sr s u,⟨0,[],0,[],false⟩,acc),?_,⟨u,acc,rfl,hu,by omega,he1,he2⟩,mono u (by rw[Ia];omega) hu⟩;simp only[Ja];rw[h2]
      |false=> rw[hd,Ga (by decide)]at he1 he2;have h4:=Ju (d::u);have h5:=zP (d::u);refine .inl ⟨(sr s (zq (d::u)).2,⟨0,[],0,[],false⟩,acc++(zq (d::u)).1),?_,⟨_,_,rfl,(ZO _).trans ht,by rw[Ba];omega,by rw[he1,nG],he2⟩,mono _ h5 ((ZO _).trans ht)⟩;simp only[Ha,XI hs hp (show acc.length<=1000000000 by omega),Aa]
theorem FW{n:Nat}(h0:n≠0)(h:n<16777216):ZT (w32 (n:Int))=some (Uh n):=by
 have a1:Zb 0 1 1=true:=ah (by omega);have a2:Zb 0 2 1=true:=ah (by omega);have a3:Zb 0 3 1=true:=ah (by omega);have a4:Zb 0 4 1=true:=ah (by omega);have a80:(128+n%64)<256:=by omega
 have m80:(128+n / 64%64)<256:=by omega
 have k80:(128+n / 4096%64)<256:=by omega
 unfold ZT ZY Uh;simp only[Kn (show n<2147483648 by omega),BO (show n<2147483648 by omega),ze,shr6,CW,yV,NP,Zw a80,Zw m80,Zw k80,Aa];by_cases h1:n<128
 ·rw[La (by omega),Ja,Dx,Zw (by omega),Aa,zy a1,Ga (by omega),Ka h1,Ig (by omega)]
 ·rw[Ib (by omega),Ha];by_cases h2:n<2048
  ·rw[La (by omega),Ja,jW (by omega),Zw (by omega)];simp only[Aa];rw[zy a2,Ga (by omega),Ga (by omega),Ka h2];rfl
  ·rw[Ib (by omega),Ha];by_cases h3:n<55296
   ·rw[La (by omega),Ja,zh];simp only[Ja];rw[WF (by omega),Zw (by omega)];simp only[Aa];rw[zy a3,Ga (by omega),Ga (by omega),Ga (by omega),Ka (by omega)];rfl
   ·rw[Ib (by omega),Ha,zh];simp only[YX];by_cases h4:57343<n/\n<65536
    ·rw[La (by omega),La (by omega),Xc,Ja,WF (by omega),Zw (by omega)];simp only[Aa];rw[zy a3,Ga (by omega),Ga (by omega),Ga (by omega),Ka (by omega)];rfl
    ·rw[show(decide ((57343:Int)<(n:Int))&&decide ((n:Int)<=65535))=false by rw[Fg];simp only[Nf];omega,Ha];by_cases h5:65535<n/\n<=1114111
     ·rw[La (by omega),La (by omega),Xc,Ja,iW (by omega),Zw (by omega)];simp only[Aa];rw[zy a4,Ga (by omega),Ga (by omega),Ga (by omega),Ga (by omega)];rfl
     ·rw[show(decide ((n:Int)>65535)&&decide ((n:Int)<=1114111))=false by rw[Fg];simp only[Nf];omega,Ha,zy a3,Ka (by omega)];rfl
theorem YR:ZT 65533=some dm:=by have h:=FW (n:=65533) (by omega) (by omega);rw[Kn (by omega)]at h;exact h
theorem I4{s l:Str}{c:UInt8}(hs:s.length<=big)(hr:c::l<:+s):
  ZJ (sr s (c::l))=some (sr s (zq l).2,(zq l).1):=by
 have hl:=uj hr;unfold ZJ;simp only[Ji hs hr,ze,Wh hs hl,Aa,Dp];cases l with
 |nil=> rw[show([]:Str).isEmpty=true from rfl,Ja,YR];rfl
 |cons d r=>
  rw[show(d::r).isEmpty=false from rfl,Ha,dF];simp only[Aa,wC];cases hx:Qb (atS (d::r) 0)with
  |false=>
   rw[Ec,Ja,Rp,Ny];simp only[Aa,Ji hs hl];rw[zy (ah (n:=0) (by omega))];have:zq (d::r)=([d],r):=by show(if Qb d then _ else _)=_;rw[Ga (by rw[show Qb d=false from hx];decide)]
   rw[this]
  |true=>
   rw[Oc,Ha];have he:zq (d::r)=(Uh (hexes 6 0 (d::r)).1,unsp (hexes 6 0 (d::r)).2):=by show(if Qb d then _ else _)=_;rw[Ka (show Qb d=true from hx)]
   rw[he];rw[Qk (vO (l:=d::r) hl (fun n i q hq hn hi=> ?_))]
   ·have hq:(hexes 6 0 (d::r)).2<:+s:=(gD 6 0 _).trans hl;have hlt:=xH 6 0 (d::r);rw[show 16 ^ 6*(0+1)=16777216 from rfl]at hlt;simp only[Wh hs hq,Aa,uw];have hj:(bif spB (atS (hexes 6 0 (d::r)).2 0)then some (LX.out (((hexes 6 0 (d::r)).1:Int),(⟨s,w64 ((beh s (hexes 6 0 (d::r)).2:Int)+1)⟩:za)))else some (LX.out (((hexes 6 0 (d::r)).1:Int),sr s (hexes 6 0 (d::r)).2)):Option (LX (Int×za) (za×List UInt8)))
      =some (LX.out (((hexes 6 0 (d::r)).1:Int),sr s (unsp (hexes 6 0 (d::r)).2))):=by
     cases hh:(hexes 6 0 (d::r)).2 with
     |nil=>rfl
     |cons e t=> rw[hh]at hq;rw[show atS (e::t) 0=e from rfl,Ji hs hq];show _=some (LX.out (_,sr s (if spB e then t else e::t)));cases spB e<;>rfl
    rw[hj,zh];simp only;by_cases h0:(hexes 6 0 (d::r)).1=0
    ·rw[h0,show((((0:Nat):Int))==0)=true from rfl,Ja,zh];simp only[Kn (show 65533<2147483648 by omega),show w32 (65533:Int)=65533 from Kn (n:=65533) (by omega),YR,Aa];rfl
    ·rw[show(((hexes 6 0 (d::r)).1:Int)==0)=false by rw[Fa];omega,Ha,zh];simp only[FW h0 hlt,Aa]
   ·simp only[Wh hs hq,Aa,dF,wC];have hb6:decide ((i:Int)<6)=decide (i<6):=by rw[jf];omega
    rw[hb6];cases decide (i<6)with
    |false=>rfl
    |true=>
     rw[Ja,Xb];cases hx2:Qb (atS q 0)with
     |false=>rfl
     |true=>
      cases q with
      |nil=>exact absurd hx2 (by decide)
      |cons e t=>
       have hI:hexI (atS (e::t) 0)=(hexN (atS (e::t) 0):Int):=by unfold hexI;rw[Ka hx2]
       rw[hI,pW hn (AC hx2),Ji hs hq,Za (by omega) (by omega)];rfl
theorem Oy:badS []=[]:=by rw[badS]
theorem Pz(c:UInt8)(r:Str):badS (c::r)=if c==41 then r else if escS (c::r)then badS (zq r).2 else badS r:=by rw[badS]
theorem iB(l:Str):badS l<:+l:=by
 match l with
 |[]=>rw[Oy];exact Ae _
 |c::r=>
  rw[Pz];have hr:=Te c r;split
  ·exact hr
  ·split
   ·have:=zP r;exact(iB (zq r).2).trans ((ZO r).trans hr)
   ·exact(iB r).trans hr
termination_by l.length
decreasing_by
 all_goals first|(have:=zP r;simp only[Ia];omega)|(simp only[Ia];omega)
theorem zDK{s t:Str}{c:UInt8}(hs:s.length<=big)(h:c::t<:+s):geti s (w64 ((beh s t:Int) - 1))=some c:=by
 have hb:big=4194304:=rfl;have h1:=h.length_le;rw[Ia]at h1;have hd:=Hu h;have e1:beh s t=beh s (c::t)+1:=by unfold beh;rw[Ia];omega
 have hlt:beh s (c::t)<s.length:=by unfold beh;rw[Ia];omega
 rw[Za (by omega) (by omega),show(beh s t:Int) - 1=((beh s (c::t):Nat):Int) by omega,QX hlt];rw[Ub hlt]at hd;injection hd with hd _;rw[hd]
theorem badR{s q:Str}(hs:s.length<=big)(hq:q<:+s):ZQ (sr s q)=some (⟨8,[],0,[],false⟩,sr s (badS q)):=by
 unfold ZQ;refine lI ?_;refine Qj (fun z=> ∃(p:Str),z=(sr s p,(⟨0,[],0,[],false⟩:zb))/\p<:+s/\badS q=badS p) (fun z=>s.length - z.1.at_.toNat) _ ?_ ⟨q,rfl,hq,rfl⟩;rintro _ ⟨p,rfl,hp,he⟩;simp only[ze,Wh hs hp,Aa,Dp];cases p with
 |nil=>exact .inr (.inr ⟨_,rfl,by rw[he,Oy]⟩)
 |cons c t=>
  have hlen:=hp.length_le;rw[Ia]at hlen;have ht:=uj hp;have mono: ∀u:Str,u.length<=t.length->u<:+s->s.length - beh s u<s.length - beh s (c::t):=by intro u hu hus;unfold beh;rw[Ia];omega
  rw[show(c::t).isEmpty=false from rfl,Ha,FI hs hp];rw[Pz]at he;simp only[Aa];cases hesc:escS (c::t)with
  |true=>
   have h92:(c==41)=false:=by unfold escS at hesc;rw[Da,Lb]at hesc;rw[show c=92 from hesc.1];decide
   rw[hesc,h92,Ga (by decide),Ka rfl]at he;rw[Ja,I4 hs hp];exact .inl ⟨_,rfl,⟨_,rfl,(ZO t).trans ht,he⟩,mono _ (zP t) ((ZO t).trans ht)⟩
  |false=>
   rw[Ha,Ji hs hp,zDK hs hp];simp only[Aa];rw[show((c.toNat:Int)==41)=(c==41)from eB c 41];rw[hesc,Ga (by decide: ¬(false=true))]at he;cases h41:c==41 with
   |true=> rw[h41,Ka rfl]at he;exact .inr (.inr ⟨_,by rw[Ja],by rw[he]⟩)
   |false=> rw[h41,Ga (by decide)]at he;exact .inl ⟨_,by rw[Ha],⟨t,rfl,ht,he⟩,mono t (Va _) ht⟩
theorem Dq:urlS []=(some [],[]):=by rw[urlS]
theorem Im(c:UInt8)(r:Str):urlS (c::r)=if c==41 then(some [],r)
  else if spB c then(match past spB r with
   |[]=>(some [],[])
   |d::r'=>if d==41 then(some [],r')else(none,badS (d::r')))
  else if c==34||c==39||c==40||unB c||c==92&& !escS (c::r)then(none,badS (c::r))
  else if c==92 then((urlS (zq r).2).1.map ((zq r).1++ ·),(urlS (zq r).2).2)
  else((urlS r).1.map (c:: ·),(urlS r).2):=by rw[urlS];cases past spB r<;>rfl
theorem TG(l:Str):(urlS l).2<:+l:=by
 match l with
 |[]=>rw[Dq];exact Ae _
 |c::r=>
  rw[Im];have hr:=Te c r;split
  ·exact hr
  ·split
   ·have hp:=(Wn spB r).trans hr;cases hq:past spB r with
    |nil=>exact List.nil_suffix
    |cons d r'=>
     rw[hq]at hp;simp only;split
     ·exact(Te d r').trans hp
     ·exact(iB _).trans hp
   ·split
    ·exact iB _
    ·split
     ·have:=zP r;exact(TG (zq r).2).trans ((ZO r).trans hr)
     ·exact(TG r).trans hr
termination_by l.length
decreasing_by
 all_goals first|(have:=zP r;simp only[Ia];omega)|(simp only[Ia];omega)
def Tj:Option Str->zb
 |some t=>⟨7,t,0,[],false⟩
 |none=>⟨8,[],0,[],false⟩
theorem zDb(c:UInt8): ∃y,zu (!(bif bif bif bif (c.toNat:Int)==34 then true else(c.toNat:Int)==39 then true else(c.toNat:Int)==40 then true else decide ((c.toNat:Int)<=8)then true else(c.toNat:Int)==11)) (ZM ((c.toNat:Int),14,31)) (default:Bool)=some y/\
  (bif bif bif bif bif bif (c.toNat:Int)==34 then true else(c.toNat:Int)==39 then true else(c.toNat:Int)==40 then true else decide ((c.toNat:Int)<=8)then true else(c.toNat:Int)==11 then true else y then true else(c.toNat:Int)==127)=(c==34||c==39||c==40||unB c):=by
 have key: ∀n:Nat,n<256->((zu (!(bif bif bif bif (n:Int)==34 then true else(n:Int)==39 then true else(n:Int)==40 then true else decide ((n:Int)<=8)then true else(n:Int)==11)) (ZM ((n:Int),14,31)) (default:Bool)).elim false fun y=>
  (bif bif bif bif bif bif (n:Int)==34 then true else(n:Int)==39 then true else(n:Int)==40 then true else decide ((n:Int)<=8)then true else(n:Int)==11 then true else y then true else(n:Int)==127)==(UInt8.ofNat n==34||UInt8.ofNat n==39||UInt8.ofNat n==40||unB (UInt8.ofNat n)))=true:=by decide+kernel
 have h:=key c.toNat (Ob c);rw[Uc]at h;cases hc:zu (!(bif bif bif bif (c.toNat:Int)==34 then true else(c.toNat:Int)==39 then true else(c.toNat:Int)==40 then true else decide ((c.toNat:Int)<=8)then true else(c.toNat:Int)==11)) (ZM ((c.toNat:Int),14,31)) (default:Bool)with
 |none=>rw[hc]at h;cases h
 |some y=> rw[hc]at h;exact⟨y,rfl,Lb.1 h⟩
theorem ML(c:UInt8)(t:Str):(pk (c::t) 0== -1)=false:=by rw[Dp];rfl
theorem urlR{s q0:Str}(hs:s.length<=big)(hq0:q0<:+s):Qr (sr s q0)=some (Tj (urlS (past spB q0)).1,sr s (urlS (past spB q0)).2):=by
 have hb:big=4194304:=rfl;unfold Qr;rw[fA hs hq0];simp only[ze,Aa];have hq:=Fq spB hq0;generalize past spB q0=q at hq ⊢;refine lI ?_;refine Qj (fun z=> ∃(p acc:Str),z=(sr s p,(⟨0,[],0,[],false⟩:zb),acc)/\p<:+s/\acc.length+4*p.length<=4*s.length/\(urlS q).1=(urlS p).1.map (acc++ ·)/\(urlS q).2=(urlS p).2) (fun z=>s.length - z.1.at_.toNat) _ ?_
  ⟨q,[],rfl,hq,by have:=hq.length_le;rw[Lc];omega,by simp,rfl⟩
 rintro _ ⟨p,acc,rfl,hp,hl,he1,he2⟩;simp only[Wh hs hp,Aa,uw];cases p with
 |nil=> refine .inr (.inr ⟨_,rfl,?_⟩);rw[Dq]at he1 he2;rw[he1,he2];simp only[Jb,Ab,Tj]
 |cons c t=>
  have hlen:=hp.length_le;rw[Ia]at hlen hl;have ht:=uj hp;have mono: ∀u:Str,u.length<=t.length->u<:+s->s.length - beh s u<s.length - beh s (c::t):=by intro u hu hus;unfold beh;rw[Ia];omega
  rw[Im]at he1 he2;rw[show atS (c::t) 0=c from rfl];cases hsp:spB c with
  |true=>
   have h41:(c==41)=false:=by rw[Fa];rintro rfl;exact absurd hsp (by decide)
   rw[h41,hsp,Ga (by decide),Ka rfl]at he1 he2;have hps:past spB (c::t)=past spB t:=by rw[past,Ka hsp]
   have hpt:past spB t<:+s:=Fq spB ht;rw[Ja,fA hs hp,hps];simp only[Aa,Wh hs hpt];cases hpp:past spB t with
   |nil=> rw[hpp]at he1 he2;refine .inr (.inr ⟨_,rfl,?_⟩);simp only at he1 he2;rw[he1,he2];simp only[Jb,Ab,Tj]
   |cons d r'=>
    rw[hpp]at he1 he2 hpt;simp only at he1 he2;unfold bne;rw[TL,ML,show atS (d::r') 0=d from rfl];cases hd:d==41 with
    |true=> rw[hd,Ka rfl]at he1 he2;refine .inr (.inr ⟨_,?_,rfl⟩);simp only[Oc,Ha,zh,ML,TL,show atS (d::r') 0=d from rfl,hd,Ja,Ji hs hpt];rw[he1,he2];simp only[Jb,Ab,Tj]
    |false=> rw[hd,Ga (by decide)]at he1 he2;refine .inr (.inr ⟨_,?_,rfl⟩);simp only[Ec,Ja,badR hs hpt,Aa,zqI];rw[he1,he2];rfl
  |false=>
   rw[Ha,zh];simp only[ML,TL,show atS (c::t) 0=c from rfl,Ha,Ji hs hp];cases h41:c==41 with
   |true=> rw[h41,Ka rfl]at he1 he2;refine .inr (.inr ⟨_,by rw[Ja],?_⟩);rw[he1,he2];simp only[Jb,Ab,Tj]
   |false=>
    rw[h41,Ga (by decide),hsp,Ga (by decide)]at he1 he2;rw[Ha];obtain⟨y,hy1,hy2⟩:=zDb c;rw[Rp,hy1];simp only[Aa];rw[hy2];cases hun:(c==34||c==39||c==40||unB c)with
    |true=> rw[hun,Hf,Ka rfl]at he1 he2;refine .inr (.inr ⟨_,?_,rfl⟩);rw[Ja,badR hs hp];simp only[Aa];rw[he1,he2];rfl
    |false=>
     rw[hun,jd]at he1 he2;rw[Ha];unfold bne;rw[show((c.toNat:Int)==92)=(c==92)from eB c 92];cases h92:c==92 with
     |false=> rw[h92,Yc,Ga (by decide),Ga (by decide)]at he1 he2;rw[Ec,Ja,Ny];simp only[Aa];rw[zy (ah (by omega))];exact .inl ⟨_,rfl,⟨t,acc++[c],rfl,ht,by rw[Ba,Eb];omega,by rw[he1,KP],he2⟩,mono t (Va _) ht⟩
     |true=>
      rw[h92,Xb]at he1 he2;rw[Oc,Ha,FI hs hp];simp only[Aa];cases hesc:escS (c::t)with
      |true=> rw[hesc,Oc,Ga (by decide),Ka rfl]at he1 he2;have h4:=Ju t;have h5:=zP t;refine .inl ⟨(sr s (zq t).2,⟨0,[],0,[],false⟩,acc++(zq t).1),?_,⟨_,_,rfl,(ZO _).trans ht,by rw[Ba];omega,by rw[he1,nG],he2⟩,mono _ h5 ((ZO _).trans ht)⟩;simp only[Ja,XI hs hp (show acc.length<=1000000000 by omega),Aa]
      |false=> rw[hesc,Ec,Ka rfl]at he1 he2;refine .inr (.inr ⟨_,?_,rfl⟩);rw[Ha,badR hs hp];simp only[Aa];rw[he1,he2];rfl
def hdB(b:UInt8):Bool:=b==45||fstB b||b==92
theorem Wq{q:Str}(h:nmS q=true):hdB (atS q 0)=true:=by
 unfold nmS at h;unfold hdB;cases h45:atS q 0==45 with
 |true=>rfl
 |false=>
  rw[h45,Ga (by decide),Md]at h;rcases h with h|h
  ·rw[h];rfl
  ·unfold escS at h;rw[Da]at h;rw[h.1,af]
theorem Rw{b:UInt8}(h:hdB b=true):spB b=false/\(b==34)=false/\(b==39)=false/\(b==35)=false/\(b==64)=false/\(b==47)=false/\(b==60)=false/\(b==43)=false/\(b==46)=false/\digB b=false/\b≠0:=by
 have: ∀n:Nat,n<256->hdB (UInt8.ofNat n)=true->spB (UInt8.ofNat n)=false/\(UInt8.ofNat n==34)=false/\(UInt8.ofNat n==39)=false/\(UInt8.ofNat n==35)=false/\(UInt8.ofNat n==64)=false/\(UInt8.ofNat n==47)=false/\(UInt8.ofNat n==60)=false/\(UInt8.ofNat n==43)=false/\(UInt8.ofNat n==46)=false/\digB (UInt8.ofNat n)=false/\UInt8.ofNat n≠0:=by decide+kernel
 have:=this b.toNat (Ob b);rw[Uc]at this;exact this h
theorem OW{q:Str}(h:nmS q=true):nbS q=false:=by
 obtain⟨_,_,_,_,_,_,_,h43,h46,hdg,_⟩:=Rw (Wq h);unfold nbS unsign Sg;rw[h43,jd];cases h45:atS q 0==45 with
 |false=> rw[Ga (by decide)];unfold undot;rw[h46,Ga (by decide),hdg]
 |true=>
  rw[Ka rfl];unfold nmS at h;rw[h45,Ka rfl]at h;have h1:hdB (atS q 1)=true:=by
   unfold hdB;cases hf:fstB (atS q 1)with
   |true=>simp
   |false=>
    cases h4:atS q 1==45 with
    |true=>rfl
    |false=> rw[hf,h4,jd,jd]at h;unfold escS at h;rw[Da,Qy]at h;rw[h.1];rfl
  obtain⟨_,_,_,_,_,_,_,_,g46,gdg,_⟩:=Rw h1;unfold undot;rw[Qy,g46,Ga (by decide),Qy,gdg]
theorem LW{s r:Str}:(decide ((0:Int)<=(beh s r:Int))&&decide ((beh s r:Int)<=(s.length:Int)))=true:=by have:=Uk s r;rw[La (by omega),La (by omega)];rfl
theorem LG{s r:Str}(hr:r<:+s):List.drop ((beh s r:Int)).toNat s=r:=by rw[Bc,Hu hr]
theorem lv{a b:UInt8}{m t:Str}(h:(b==a)=false):(a::m).isPrefixOf (b::t)=false:=by
 rw[List.isPrefixOf];have:(a==b)=false:=by rw[Fa]at h ⊢;exact fun e=>h e.symm
 rw[this];rfl
theorem zCU{a:UInt8}{m q:Str}(h0:a≠0)(h:(atS q 0==a)=false):(a::m).isPrefixOf q=false:=by
 cases q with
 |nil=>rfl
 |cons b t=>exact lv h
def capF(cap:Nat):Nat->Str->Nat
 |n,[]=>n
 |n,c::r=>capF cap (min cap (decN n c)) r
theorem vQ(cap:Nat): ∀(l:Str) (n:Nat) (c:UInt8),capF cap n (l++[c])=min cap (decN (capF cap n l) c)
 |[],_,_=>rfl
 |d::l,n,c=>by show capF cap (min cap (decN n d)) (l++[c])=_;rw[vQ cap l];rfl
theorem dB(cap:Nat): ∀(l:Str) (n:Nat),n<=cap->capF cap n l<=cap
 |[],_,h=>h
 |c::l,n,_=>dB cap l _ (Nat.min_le_left ..)
theorem BP {R:Type} {step:Int×Int->Option (LO (Int×Int) Int R)} {l:Str} {cap:Nat} (hl:l.all digB=true) (hn:l.length<=100000) (hc:cap<=1000000000000)
  (h1: ∀(v:Int) (i:Nat) (hi:i<l.length),step (v,(i:Int))=some (.again (if(cap:Int)<w64 (w64 (10*v)+w64 (wu8 ((l[i].toNat:Int) - 48)))then(cap:Int)else w64 (w64 (10*v)+w64 (wu8 ((l[i].toNat:Int) - 48))),w64 ((i:Int)+1))))
  (h2: ∀v:Int,step (v,(l.length:Int))=some (.out v)):Nh step (0,0)=some (.out ((capF cap 0 l:Nat):Int)):=by
 refine Qj (fun s=> ∃i:Nat,i<=l.length/\s=(((capF cap 0 (l.take i):Nat):Int),(i:Int))) (fun s=>l.length - s.2.toNat) _ ?_ ⟨0,by omega,rfl⟩;rintro _ ⟨i,hi,rfl⟩;rcases Sc i l.length with h|h
 ·refine .inl ⟨_,h1 _ i h,⟨i+1,by omega,?_⟩,by simp only;rw[Za (by omega) (by omega)];omega⟩;have hd:=Lu (Ya.1 hl _ (Ue h));have ht:capF cap 0 (l.take (i+1))=min cap (decN (capF cap 0 (l.take i)) l[i]):=by rw[Xf h,vQ]
  have hb:=dB cap (l.take i) 0 (Ac _);have hu:wu8 ((l[i].toNat:Int) - 48)=((l[i].toNat - 48:Nat):Int):=by show IntKind.u8.wrap _=_;rw[IntKind.wrap_u8];omega
  unfold decN at ht;rw[hu,Za (n:=10*_) (by omega) (by omega),Za (n:=((l[i].toNat - 48:Nat):Int)) (by omega) (by omega),Za (n:=(i:Int)+1) (by omega) (by omega),Za (by omega) (by omega)];refine Prod.ext ?_ ?_
  ·grind
  ·grind
 grind
theorem gP: ∀(k n:Nat),n<=Pi->Ej k n<=Pi
 |0,_,h=>h
 |k+1,n,h=>by
  unfold Ej;split
  ·exact h
  ·exact gP k _ (Nat.min_le_left ..)
theorem V8 {R:Type} {step:Int×Int->Option (LO (Int×Int) Int R)} {v:Nat} {p:Int} (hp:p<=4000000) (hp': -4000000<=p) (hv:v<=1000000000000)
  (h: ∀(a b:Int),step (a,b)=bif bif bif decide (a>0)then decide (b>0)else false then decide (b<1000000000000)else false then some (.again (w64 (a - 1),if 1000000000000<w64 (10*b)then 1000000000000 else w64 (10*b)))else some (.out b)):
  Nh step (p,(v:Int))=some (.out ((Ej p.toNat v:Nat):Int)):=by
 have hm:Pi=1000000000000:=rfl;refine Qj (fun s=> ∃(a:Int) (b:Nat),s=(a,(b:Int))/\a<=4000000/\ -4000000<=a/\b<=1000000000000/\Ej a.toNat b=Ej p.toNat v) (fun s=>s.1.toNat) _ ?_ ⟨p,v,rfl,hp,hp',hv,rfl⟩;rintro _ ⟨a,b,rfl,ha,ha',hb,he⟩;rw[h];by_cases h1:a>0
 ·obtain⟨k,hk⟩: ∃k,a.toNat=k+1:=⟨a.toNat - 1,by omega⟩;rw[hk,Ej]at he;rw[La h1,Ja];by_cases h2:b=0\/Pi<=b
  ·grind
  ·rw[Ga h2]at he;have e1:decide (((b:Nat):Int)>0)=true:=La (by omega);have e2:decide (((b:Nat):Int)<1000000000000)=true:=La (by omega);rw[e1,Ja,e2,Ja];refine .inl ⟨_,rfl,⟨a - 1,min Pi (10*b),?_,by omega,by omega,by omega,?_⟩,by simp only;rw[Za (by omega) (by omega)];omega⟩
   ·rw[Za (by omega) (by omega),Za (by omega) (by omega)]
    grind
   grind
 ·rw[Ib h1,Ha];refine .inr (.inl ⟨_,rfl,?_⟩);rw[<-he,show a.toNat=0 by omega];rfl
structure NumP where
 sg:Str
 D:Str
 F:Option Str
 X:Option (UInt8×Str×Str)
def dotS:Option Str->Str
 |none=>[]
 |some f=>46::f
def expT:Option (UInt8×Str×Str)->Str
 |none=>[]
 |some (e,s,x)=>e::(s++x)
def NumP.txt(n:NumP):Str:=n.sg++(n.D++(dotS n.F++expT n.X))
def sgB(s:Str):Bool:=s==[]||s==[43]||s==[45]
def NumP.ok(n:NumP):Bool:=sgB n.sg&&n.D.all digB&&(match n.F with|none=> !n.D.isEmpty|some f=> !f.isEmpty&&f.all digB)&&
 (match n.X with|none=>true|some (e,s,x)=>(e==101||e==69)&&sgB s&& !x.isEmpty&&x.all digB)
def expV:Option (UInt8×Str×Str)->Int
 |none=>0
 |some (_,s,x)=>if s==[45]then -((capF 1048576 0 x:Nat):Int)else((capF 1048576 0 x:Nat):Int)
def thoV(A:Str)(p:Int):Nat:=Ej p.toNat (capF Pi 0 (if p<0 then A.take ((A.length:Int)+p).toNat else A))
def NumP.val(n:NumP):Int:=
 let v:=thoV (n.D++n.F.getD []) (3+expV n.X - ((n.F.getD []).length:Int))
 if n.sg==[45]then -(v:Int)else(v:Int)
theorem OC{s:Str}(h:sgB s=true):s=[]\/s=[43]\/s=[45]:=by
 unfold sgB at h
 grind
theorem bM{s q:Str}(h:sgB s=true)(hq: ∀c r,q=c::r->List.contains [43,45] c=false):Lib.trimLeftS (s++q) [43,45]=q:=by
 have h0:Lib.trimLeftS q [43,45]=q:=by
  unfold Lib.trimLeftS;cases q with
  |nil=>rfl
  |cons c r=>simp_all
 rcases OC h with rfl|rfl|rfl
 ·exact h0
 ·show List.dropWhile _ (43::q)=_;rw[Lh];exact h0
 ·show List.dropWhile _ (45::q)=_;rw[Lh];exact h0
theorem VN{e:UInt8}(he:e=101\/e=69)(t:Str): ∀(l:Str),(l.all fun b=>digB b||b==46)=true->Lib.indexAny (l++e::t) [101,69]=(l.length:Int)
 |[],_=>by
  rw[Ic,Lib.indexAny]
  grind
 |c::l,h=>by
  rw[Sd,Da]at h;have hc:List.contains [101,69] c=false:=by
   have: ∀n:Nat,n<256->(digB (UInt8.ofNat n)||UInt8.ofNat n==46)=true->List.contains [101,69] (UInt8.ofNat n)=false:=by decide+kernel
   have:=this c.toNat (Ob c);rw[Uc]at this;exact this h.1
  rw[ma,Lib.indexAny,hc,VN he t l h.2]
  grind
theorem MX{l:Str}(h:l.all digB=true):(l.all fun b=>digB b||b==46)=true:=by
 grind
theorem Py{l:Str}(h: ∀b∈l,b.toNat<128):jh l=true:=by
 unfold jh
 grind
theorem PZ{l:Str}(h:jh l=true): ∀b∈l,b.toNat<128:=by
 unfold jh at h
 grind
theorem zBT{D:Str}(hD:D.all digB=true)(F:Option Str): ∃f,Lib.cut (D++dotS F) [46]=(D,F.getD [],f):=by
 unfold Lib.cut;rw[yD];cases F with
 |none=> rw[show dotS none=[]from rfl,Ab,sG _ hD,Ga (by decide)];simp_all
 |some g=> rw[show dotS (some g)=46::g from rfl,uG _ _ hD,Ka (by omega)];simp_all
theorem gN {D:Str} {F:Option Str} {E:Int} (hD:D.all digB=true) (hF:(F.getD []).all digB=true) (hl:D.length+(F.getD []).length<=50000) (hE:E<=2000000) (hE': -2000000<=E) (y1:UInt8) (sg:Str)
  (hy:((y1.toNat:Int)==45)=(sg==[45])) (hsh:short (D++dotS F)=true):
  (ze (cutF (D++dotS F,[46])) fun y11=>
 need (vg y11.1.length y11.2.1.length)<|
 zW (X:=Str×Int) (
   bif decide (w64 ((3+E) - (y11.2.1.length:Int))<0)then
    need (decide (0<=(if w64 (((y11.1++y11.2.1).length:Int)+w64 ((3+E) - (y11.2.1.length:Int)))>0 then w64 (((y11.1++y11.2.1).length:Int)+w64 ((3+E) - (y11.2.1.length:Int)))else 0))&&decide ((if w64 (((y11.1++y11.2.1).length:Int)+w64 ((3+E) - (y11.2.1.length:Int)))>0 then w64 (((y11.1++y11.2.1).length:Int)+w64 ((3+E) - (y11.2.1.length:Int)))else 0)<=((y11.1++y11.2.1).length:Int)))<|
    some (LX.out (List.take (if w64 (((y11.1++y11.2.1).length:Int)+w64 ((3+E) - (y11.2.1.length:Int)))>0 then w64 (((y11.1++y11.2.1).length:Int)+w64 ((3+E) - (y11.2.1.length:Int)))else 0).toNat (y11.1++y11.2.1),w64 ((3+E) - (y11.2.1.length:Int))))
   else
    some (LX.out (y11.1++y11.2.1,w64 ((3+E) - (y11.2.1.length:Int))))) fun j12=>
 need (decide (j12.1.length<=maxLen))<|
 ZC (fun(s13:Int×Int)=>
   bif decide (s13.2<(j12.1.length:Int))then
    need (decide (0<=s13.2)&&decide (s13.2<(j12.1.length:Int)))<|
    ze j12.1[s13.2.toNat]? fun y14=>
    some (LO.again (if 1000000000000<w64 (w64 (10*s13.1)+w64 (wu8 ((y14.toNat:Int) - 48)))then 1000000000000 else w64 (w64 (10*s13.1)+w64 (wu8 ((y14.toNat:Int) - 48))),w64 (s13.2+1)))
   else
    some (LO.out s13.1):Int×Int->Option (LO (Int×Int) (Int) _)) (0,0) fun o15=>
 ZC (fun(s16:Int×Int)=>
   bif bif bif decide (s16.1>0)then decide (s16.2>0)else false then decide (s16.2<1000000000000)else false then
    some (LO.again (w64 (s16.1 - 1),if 1000000000000<w64 (10*s16.2)then 1000000000000 else w64 (10*s16.2)))
   else
    some (LO.out s16.2):Int×Int->Option (LO (Int×Int) (Int) _)) (j12.2,o15) fun o17=>
 zW (X:=Int) (
   bif (y1.toNat:Int)==45 then
    some (LX.out (w64 (0 - o17)))
   else
    some (LX.out o17)) fun j18=>
 some j18)=some (if sg==[45]then -((thoV (D++F.getD []) (3+E - ((F.getD []).length:Int)):Nat):Int)else((thoV (D++F.getD []) (3+E - ((F.getD []).length:Int)):Nat):Int)):=by
 obtain⟨f,hcut⟩:=zBT hD F;have t3:cutF (D++dotS F,[46])=some (D,F.getD [],f):=by unfold cutF;rw[zy (by exact hsh)];exact congrArg some hcut
 have hml:maxLen=9223372036854775807:=rfl;have hmost:Pi=1000000000000:=rfl;simp only[ze,t3,Aa];generalize F.getD []=G at*;rw[zy (xy.2 (by omega))];obtain⟨p,hp⟩: ∃p:Int,p=3+E - (G.length:Int):=⟨_,rfl⟩;rw[<-hp,Za (n:=p) (by omega) (by omega)];have hA:(D++G).all digB=true:=by rw[Mg,hD,hF];rfl
 have hAl:(D++G).length<=50000:=by rw[Ba];omega
 generalize D++G=A at*;have key: ∀B:Str,B.all digB=true->B.length<=50000->(need (decide (B.length<=maxLen))<|
 ZC (fun(s13:Int×Int)=>
   bif decide (s13.2<(B.length:Int))then
    need (decide (0<=s13.2)&&decide (s13.2<(B.length:Int)))<|
    (B[s13.2.toNat]?).bind fun y14=>
    some (LO.again (if 1000000000000<w64 (w64 (10*s13.1)+w64 (wu8 ((y14.toNat:Int) - 48)))then 1000000000000 else w64 (w64 (10*s13.1)+w64 (wu8 ((y14.toNat:Int) - 48))),w64 (s13.2+1)))
   else
    some (LO.out s13.1):Int×Int->Option (LO (Int×Int) (Int) _)) (0,0) fun o15=>
 ZC (fun(s16:Int×Int)=>
   bif bif bif decide (s16.1>0)then decide (s16.2>0)else false then decide (s16.2<1000000000000)else false then
    some (LO.again (w64 (s16.1 - 1),if 1000000000000<w64 (10*s16.2)then 1000000000000 else w64 (10*s16.2)))
   else
    some (LO.out s16.2):Int×Int->Option (LO (Int×Int) (Int) _)) (p,o15) fun o17=>
 zW (X:=Int) (
   bif (y1.toNat:Int)==45 then
    some (LX.out (w64 (0 - o17)))
   else
    some (LX.out o17)) fun j18=>
 some j18)=some (if sg==[45]then -((Ej p.toNat (capF Pi 0 B):Nat):Int)else((Ej p.toNat (capF Pi 0 B):Nat):Int)):=by
  intro B hB hBl;have hcap:=dB Pi B 0 (Ac _);rw[zy (La (by omega))];rw[Qk (BP (cap:=Pi) hB (by omega) (by omega) (fun v i hi=> ?_) (fun v=> ?_))]
  ·have htm:=gP p.toNat _ hcap;rw[Qk (V8 (by omega) (by omega) (by omega) (fun a b=> ?_)),hy]
   ·cases hs:sg==[45]with
    |true=> rw[Ja,zh,Za (by omega) (by omega),Ka rfl];congr 1;omega
    |false=>simp_all
   ·simp only
  ·simp_all
  ·grind
 unfold thoV;by_cases hn:p<0
 ·rw[La hn,Ja,Ka hn];have hk:(if w64 ((A.length:Int)+p)>0 then w64 ((A.length:Int)+p)else 0)=((((A.length:Int)+p).toNat:Nat):Int):=by rw[Za (by omega) (by omega)];split<;>omega
  rw[hk,zy (by grind),zh,Bc]
  grind
 ·rw[Ib hn,Ha,Ga hn,zh]
  grind
theorem JV{n:NumP}(h:n.ok=true)(hl:n.txt.length<=40000):ZR n.txt=some n.val:=by
 obtain⟨sg,D,F,X⟩:=n;unfold NumP.ok at h;simp only[Da]at h;obtain⟨⟨⟨hsg,hD⟩,hFo⟩,hX⟩:=h;have hF:(F.getD []).all digB=true:=by
  cases F with
  |none=>rfl
  |some f=>grind
 have hne:D++dotS F≠[]:=by
  cases F with
  |none=>simp_all
  |some f=>simp[dotS]
 have hpar:((D++dotS F).all fun b=>digB b||b==46)=true:=by
  rw[Mg,MX hD];cases F with
  |none=>rfl
  |some f=>rw[show dotS (some f)=46::f from rfl,Sd,MX (show f.all digB=true from hF)];rfl
 have hlen:sg.length+(D.length+((dotS F).length+(expT X).length))<=40000:=by
  have:(NumP.txt ⟨sg,D,F,X⟩).length=sg.length+(D.length+((dotS F).length+(expT X).length)):=by unfold NumP.txt;simp only[Ba]
  omega
 have hFl:(F.getD []).length<=(dotS F).length:=by
  cases F with
  |none=>grind
  |some f=>show f.length<=(46::f).length;grind
 have hhead: ∀c r,D++(dotS F++expT X)=c::r->List.contains [43,45] c=false:=by
  rw[<-Ra];intro c r e;cases hq:D++dotS F with
  |nil=>grind
  |cons d q=>
   rw[hq,ma]at e;injection e with e1 _;subst e1;rw[hq,Sd,Da,Md]at hpar;rcases hpar.1 with hd|hd
   ·exact(QV hd).2.2.2.2
   grind
 have hy1: ∃b,geti (NumP.txt ⟨sg,D,F,X⟩) 0=some b/\(((b.toNat:Int)==45)=(sg==[45])):=by
  unfold NumP.txt;show∃b,geti (sg++(D++(dotS F++expT X))) 0=some b/\_;rcases OC hsg with rfl|rfl|rfl
  ·cases hq:D++(dotS F++expT X)with
   |nil=>simp_all
   |cons c r=>
    refine⟨c,rfl,?_⟩;have:=hhead c r hq;refine Fa.2 (fun e=> ?_);have:c=45:=Pf.1 (by grind)
    grind
  ·exact⟨43,rfl,rfl⟩
  ·exact⟨45,rfl,rfl⟩
 obtain⟨y1,hg,hyy⟩:=hy1;have t1:Rk (NumP.txt ⟨sg,D,F,X⟩,[43,45])=some (D++(dotS F++expT X)):=by unfold Rk;rw[zy (show(short ([43,45]:Str)&&jh [43,45])=true by decide)];exact congrArg some (bM hsg hhead)
 unfold ZR;simp only[ze,hg,t1,Aa];have hsh:short (D++dotS F)=true:=La (by grind);have hasc:jh (D++dotS F)=true:=KN hpar;cases X with
 |none=>
  have t2:QZ (D++(dotS F++expT none),[101,69])=some (-1):=by show QZ (D++(dotS F++[]),[101,69])=_;rw[Ab];unfold QZ;rw[zy (by simp only[hsh,hasc,Xc,Xb];decide)];exact congrArg some (GH _ hpar)
  simp only[t2,Aa,show decide ((-1:Int)>=0)=false from rfl,Ha,zh];rw[show D++(dotS F++expT none)=D++dotS F by show D++(dotS F++[])=_;grind];have:=gN (E:=0) hD hF (by omega) (by omega) (by omega) y1 sg hyy hsh;exact this
 |some ex=>
  obtain⟨e,s,x⟩:=ex;simp only[Da]at hX;obtain⟨⟨⟨he,hs⟩,hxne⟩,hx⟩:=hX;have he':e=101\/e=69:=by rw[Md,Lb,Lb]at he;exact he
  have hexl:(expT (some (e,s,x))).length=1+(s.length+x.length):=by show(e::(s++x)).length=_;rw[Ia,Ba];omega
  have hass:D++(dotS F++expT (some (e,s,x)))=(D++dotS F)++e::(s++x):=by rw[<-Ra];rfl
  have hasx:jh ((D++dotS F)++e::(s++x))=true:=by
   refine Py (fun b hb=> ?_);rcases ib.1 hb with hb|hb
   ·exact PZ hasc b hb
   ·rcases ja.1 hb with hb|hb
    ·subst hb;rcases he' with rfl|rfl<;>decide
    ·rcases ib.1 hb with hb|hb
     ·rcases OC hs with rfl|rfl|rfl
      ·cases hb
      ·simp_all
      simp_all
     ·have:=Lu (Ya.1 hx b hb);omega
  have hlt:((D++dotS F)++e::(s++x)).length<=40000:=by rw[Ba,Ia,Ba,Ba];omega
  have t2:QZ (D++(dotS F++expT (some (e,s,x))),[101,69])=some ((D++dotS F).length:Int):=by rw[hass];unfold QZ;show need (short ((D++dotS F)++e::(s++x))&&short [101,69]&&jh ((D++dotS F)++e::(s++x))&&jh [101,69]) _=_;rw[show short ((D++dotS F)++e::(s++x))=true from La (by omega),hasx];exact congrArg some (VN he' (s++x) _ hpar)
  have hdrop:List.drop (D++dotS F).length ((D++dotS F)++e::(s++x))=e::(s++x):=List.drop_left;have hdrop1:List.drop ((D++dotS F).length+1) ((D++dotS F)++e::(s++x))=s++x:=by rw[<-Tf,hdrop];rfl
  have hd0:(D++dotS F).length<=40000:=by rw[Ba];omega
  have hw1:w64 (((D++dotS F).length:Int)+1)=(((D++dotS F).length+1:Nat):Int):=by rw[Za (by omega) (by omega)];omega
  simp only[t2,Aa];rw[La (show(((D++dotS F).length:Nat):Int)>=0 by omega),Ja,hw1,hass];have hlt2:(D++dotS F).length+1<=((D++dotS F)++e::(s++x)).length:=by rw[Ba (bs:=e::(s++x)),Ia];omega
  rw[zy (by grind),Bc,hdrop1];have hxh: ∀c r,x=c::r->List.contains [43,45] c=false:=by intro c r e;subst e;rw[Sd,Da]at hx;exact(QV hx.1).2.2.2.2
  have t4:Rk (s++x,[43,45])=some x:=by unfold Rk;rw[zy (show(short ([43,45]:Str)&&jh [43,45])=true by decide)];exact congrArg some (bM hs hxh)
  have hxl:x.length<=40000:=by omega
  have hml:maxLen=9223372036854775807:=rfl;simp only[t4,Aa];rw[zy (La (by omega))];have hcap:=dB 1048576 x 0 (Ac _);rw[Qk (BP (cap:=1048576) hx (by omega) (by omega) (fun v i hi=> ?_) (fun v=> ?_))]
  ·have hg8: ∃y8,geti ((D++dotS F)++e::(s++x)) (((D++dotS F).length+1:Nat):Int)=some y8/\(((y8.toNat:Int)==45)=(s==[45])):=by
    have hgg: ∀(b:UInt8) (r:Str),s++x=b::r->geti ((D++dotS F)++e::(s++x)) (((D++dotS F).length+1:Nat):Int)=some b:=by
     intro b r e1;unfold geti;have:((D++dotS F)++e::(s++x))[(D++dotS F).length+1]? =some b:=by rw[Rc (by omega),show(D++dotS F).length+1 - (D++dotS F).length=1 by omega,Ef,e1];rfl
     rw[Bc,this,La (by omega)];rfl
    rcases OC hs with rfl|rfl|rfl
    ·cases hxx:x with
     |nil=>grind
     |cons c r=>
      refine⟨c,by grind,?_⟩;have:=hxh c r hxx;refine Fa.2 (fun e=> ?_);have h45:c=45:=Pf.1 (by grind)
      grind
    ·grind
    ·grind
   obtain⟨y8,h8,h8'⟩:=hg8;simp only[h8,Aa];rw[h8'];have hj:(bif s==[45]then(some (LX.out ((D++dotS F)++e::(s++x),3,w64 (0 - ((capF 1048576 0 x:Nat):Int)))):Option (LX (Str×Int×Int) (LX (Str×Int) Int)))else some (LX.out ((D++dotS F)++e::(s++x),3,((capF 1048576 0 x:Nat):Int))))
     =some (LX.out ((D++dotS F)++e::(s++x),3,expV (some (e,s,x)))):=by
    unfold expV;simp only;cases s==[45]with
    |true=>rw[Ja,Ka rfl,Za (by omega) (by omega)];simp
    |false=>grind
   have hEb:expV (some (e,s,x))<=1048576/\ -1048576<=expV (some (e,s,x)):=by unfold expV;simp only;split<;>omega
   refine(congrArg (fun o=>zW (zW o _) _) hj).trans ?_;simp only[zh];rw[show decide ((((D++dotS F).length:Nat):Int)<=((((D++dotS F)++e::(s++x)).length:Nat):Int))=true from La (by omega),zy (by rfl)];simp only[zh,Bc,List.take_left];rw[Za (by omega) (by omega)];exact gN (E:=expV (some (e,s,x))) hD hF (by omega) (by omega) (by omega) y1 sg hyy hsh
  ·simp_all
  ·grind
theorem eD {S X R:Type} {step:S->Option (LO S X R)} {k:X->Option R} (Inv:S->Prop) (μ:S->Nat) (y:R)
  (h: ∀s,Inv s->(∃s',step s=some (.again s')/\Inv s'/\μ s'<μ s)\/(∃x,step s=some (.out x)/\k x=some y)\/step s=some (.ret y)) {s:S} (hs:Inv s):ZC step s k=some y:=by
 have key: ∀(m:Nat) (s:S),μ s<m->Inv s-> ∃r:LX X R,Qs step m s=some r/\r.go k=some y:=by
  intro m
  induction m with
  |zero=>intro s h;omega
  |succ m ih=>
   intro s hm hs;simp only[Qs];rcases h s hs with⟨s',h1,h2,h3⟩|⟨x,h1,h2⟩|h1
   ·grind
   ·simp_all
   simp_all
 obtain⟨r,h1,h2⟩:=key (μ s+1) s (by omega) hs;rw[Wp (Xn h1)];exact h2
theorem WP(p:UInt8->Bool): ∀l:Str,past p l=l.dropWhile p
 |[]=>rfl
 |c::r=>by
  rw[past,Lh];cases h:p c with
  |true=>exact WP p r
  |false=>rfl
theorem Hy(p:UInt8->Bool)(l:Str):l.takeWhile p++past p l=l:=by rw[WP,List.takeWhile_append_dropWhile]
theorem TB(p:UInt8->Bool): ∀l:Str,(l.takeWhile p).all p=true
 |[]=>rfl
 |c::r=>by simp_all
def sgOf(l:Str):Str:=if Sg (atS l 0)then [atS l 0]else []
theorem SF(l:Str):sgOf l++unsign l=l:=by
 unfold sgOf unsign;cases h:Sg (atS l 0)with
 |false=>rfl
 |true=>
  rw[Ka rfl,Ka rfl];cases l with
  |nil=>exact absurd h (by decide)
  |cons c r=>rfl
theorem DW(l:Str):sgB (sgOf l)=true:=by
 unfold sgOf;cases h:Sg (atS l 0)with
 |false=>rfl
 |true=> rw[Ka rfl];unfold Sg at h;rw[Md,Lb,Lb]at h;rcases h with h|h<;>rw[h]<;>rfl
def dotP(q:Str):Option Str:=if atS q 0==46&&digB (atS q 1)then some ((q.drop 1).takeWhile digB)else none
def expP(q:Str):Option (UInt8×Str×Str):=
 if(atS q 0==101||atS q 0==69)&&digB (atS (unsign (q.drop 1)) 0)then some (atS q 0,sgOf (q.drop 1),(unsign (q.drop 1)).takeWhile digB)else none
def numP(l:Str):NumP:=⟨sgOf l,(unsign l).takeWhile digB,dotP (past digB (unsign l)),expP (zS (past digB (unsign l))).1⟩
theorem J4(q:Str):dotS (dotP q)++(zS q).1=q/\(zS q).2=(dotP q).isNone:=by
 unfold dotP zS;cases h:atS q 0==46&&digB (atS q 1)with
 |false=>exact⟨rfl,rfl⟩
 |true=>
  rw[Ka rfl,Ka rfl];cases q with
  |nil=>exact absurd h (by decide)
  |cons c r=> rw[Da,Lb]at h;refine⟨?_,rfl⟩;show(46::List.takeWhile digB r)++past digB r=c::r;rw[ma,Hy,show c=46 from h.1]
theorem jY(q:Str):expT (expP q)++(match expS q with|some r=>r|none=>q)=q:=by
 unfold expP expS;cases h1:atS q 0==101||atS q 0==69 with
 |false=>rfl
 |true=>
  cases h2:digB (atS (unsign (q.drop 1)) 0)with
  |false=>rfl
  |true=>
   simp only[Bool.and_self,Wd];cases q with
   |nil=>exact absurd h1 (by decide)
   |cons c r=> show(c::(sgOf r++List.takeWhile digB (unsign r)))++past digB (unsign r)=c::r;rw[ma,Ra,Hy,SF]
theorem fI(l:Str):(numP l).txt++(zC l).1=l:=by
 have h1:=(J4 (past digB (unsign l))).1;have h2:=jY (zS (past digB (unsign l))).1;have h3:(zC l).1=(match expS (zS (past digB (unsign l))).1 with|some r=>r|none=>(zS (past digB (unsign l))).1):=by unfold zC;simp only;cases expS (zS (past digB (unsign l))).1<;>rfl
 rw[h3];show(sgOf l++(List.takeWhile digB (unsign l)++(dotS (dotP (past digB (unsign l)))++expT (expP (zS (past digB (unsign l))).1))))++_=l;rw[Ra,Ra,Ra,h2,h1,Hy,SF]
theorem iF{p:UInt8->Bool}{q:Str}(h:p (atS q 0)=true)(h0:p 0=false):(q.takeWhile p).isEmpty=false:=by
 cases q with
 |nil=>rw[show atS [] 0=0 from rfl,h0]at h;cases h
 |cons c r=>rw[List.takeWhile_cons,Ka (show p c=true from h)];rfl
theorem vF{l:Str}(h:nbS l=true):(numP l).ok=true:=by
 unfold NumP.ok numP;simp only[DW,TB,Xb,Da];refine⟨?_,?_⟩
 ·unfold dotP;cases hd:atS (past digB (unsign l)) 0==46&&digB (atS (past digB (unsign l)) 1)with
  |true=> rw[Ka rfl];simp only[TB,Xc];rw[Da]at hd;rw[iF (p:=digB) (by rw[Qy];exact hd.2) (by decide)];rfl
  |false=>
   rw[Ga (by decide)];simp only;cases hq:digB (atS (unsign l) 0)with
   |true=>rw[iF hq (by decide)];rfl
   |false=>
    exfalso;have hp:past digB (unsign l)=unsign l:=by
     cases hu:unsign l with
     |nil=>rfl
     |cons c r=>rw[hu]at hq;rw[past,Ga (by rw[show digB c=false from hq];decide)]
    rw[hp]at hd;unfold nbS undot at h;cases h46:atS (unsign l) 0==46 with
    |false=>grind
    |true=>
     rw[h46,Ka rfl,Qy]at h
     grind
 ·unfold expP;cases hd:(atS (zS (past digB (unsign l))).1 0==101||atS (zS (past digB (unsign l))).1 0==69)&&digB (atS (unsign ((zS (past digB (unsign l))).1.drop 1)) 0)with
  |false=>rfl
  |true=> rw[Ka rfl];rw[Da]at hd;simp only[hd.1,DW,TB,Xc,Xb];rw[iF hd.2 (by decide)];rfl
theorem zEu{n:NumP}(h:n.ok=true):n.txt≠[]:=by
 obtain⟨sg,D,F,X⟩:=n;unfold NumP.ok at h;simp only[Da]at h;intro e;unfold NumP.txt at e;simp only[List.append_eq_nil_iff]at e;obtain⟨e1,e2,e3,e4⟩:=e;subst e2;cases F with
 |none=>grind
 |some f=>cases e3
theorem V9{c:UInt8}{r:Str}(h:nbS (c::r)=true):(zC (c::r)).1<:+r:=by
 have h1:=fI (c::r);have h2:=zEu (vF h);cases ht:(numP (c::r)).txt with
 |nil=>grind
 |cons d t=>
  grind
def zA(l:Str):zb×Str:=
 if nmS (zC l).1 then(⟨12,[],(numP l).val,(zm (zC l).1).1,(zC l).2⟩,(zm (zC l).1).2)
 else if atS (zC l).1 0==37 then(⟨11,[],(numP l).val,[],false⟩,(zC l).1.drop 1)
 else(⟨10,[],(numP l).val,[],(zC l).2⟩,(zC l).1)
theorem zBU{s l t e:Str}(hl:l<:+s)(h:t++e=l):List.drop (beh s l) (List.take (beh s e) s)=t:=by
 obtain⟨p,rfl⟩:=hl;subst h;have h1:beh (p++(t++e)) (t++e)=p.length:=by unfold beh;simp only[Ba];omega
 have h2:beh (p++(t++e)) e=(p++t).length:=by unfold beh;simp only[Ba];omega
 grind
theorem zAg{s l:Str}(hs:s.length<=40000)(hl:l<:+s)(h:nbS l=true):ZE (sr s l)=some ((zA l).1,sr s (zA l).2):=by
 have hsb:s.length<=big:=by unfold big;omega
 have he:=U5 hl;have hle:=hl.length_le;have hsp:=fI l;have hel:(zC l).1.length<=l.length:=by have:=congrArg List.length hsp;rw[Ba]at this;omega
 have htl:(numP l).txt.length<=40000:=by have:=congrArg List.length hsp;rw[Ba]at this;omega
 unfold ZE;rw[iY hsb hl];simp only[ze,Aa];have h1:(beh s l:Int)<=(beh s (zC l).1:Int):=by unfold beh;omega
 have h2:=Uk s (zC l).1;rw[zy (by simp_all),Bc,Bc,zBU hl hsp,JV (vF h) htl];simp only[Aa];rw[show zD (0,sr s (zC l).1)=some (nmS (zC l).1)from FL (k:=0) hsb he (by omega)];simp only[Aa];unfold zA;cases hn:nmS (zC l).1 with
 |true=> rw[Ja,bF hsb he,Ka rfl];rfl
 |false=>
  rw[Ha,Wh hsb he,Ga (by decide)];simp only[Aa,zEO];cases h37:atS (zC l).1 0==37 with
  |true=> rw[Ja,zh,Dv hsb he (by grind),Ka rfl]
  |false=>simp_all
theorem Ot(l:Str):(zm l).1.length<=4*l.length:=by
 match l with
 |[]=>rw[qN];grind
 |c::r=>
  rw[zG];split
  ·have:=Ot r
   grind
  ·split
   ·have h1:=zP r;have h2:=Ju r;have:=Ot (zq r).2
    grind
   grind
termination_by l.length
decreasing_by
 all_goals grind
def qC(l:Str):zb×Str:=
 if atS (zm l).2 0==40 then
  (if(lowS (zm l).1==[117,114,108])&& !(atS (past spB ((zm l).2.drop 1)) 0==34||atS (past spB ((zm l).2.drop 1)) 0==39)
  then(Tj (urlS (past spB ((zm l).2.drop 1))).1,(urlS (past spB ((zm l).2.drop 1))).2)
  else(⟨2,(zm l).1,0,[],false⟩,(zm l).2.drop 1))
 else(⟨1,(zm l).1,0,[],false⟩,(zm l).2)
theorem zCi{s q:Str}(hs:s.length<=40000)(hq:q<:+s):Zz (sr s q)=some ((qC q).1,sr s (qC q).2):=by
 have hsb:s.length<=big:=by unfold big;omega
 have hn:(zm q).2<:+s:=(Ml q).trans hq;have h4:=Ot q;have hql:=hq.length_le;have hnl:(zm q).1.length<=big:=by unfold big;omega
 unfold Zz;rw[bF hsb hq];simp only[ze,Aa,Wh hsb hn];unfold bne qC;rw[zEP];cases h40:atS (zm q).2 0==40 with
 |false=>rfl
 |true=>
  have hne:atS (zm q).2 0≠0:=by rw[Lb.1 h40];decide
  rw[Oc,Ha,Ka rfl,Dv hsb hn hne,gJ hnl (by decide),Tx];simp only[Aa];have hd:=Em hn 1;cases hu:lowS (zm q).1==[117,114,108]with
  |false=>rfl
  |true=>
   rw[Ja,fA hsb hd,Xb];have hp:=Fq spB hd;simp only[Aa,Wh hsb hp];rw[dW,bW];cases h34:atS (past spB ((zm q).2.drop 1)) 0==34 with
   |true=>rfl
   |false=>
    cases h39:atS (past spB ((zm q).2.drop 1)) 0==39 with
    |true=>rfl
    |false=> rw[urlR hsb hd];rfl
theorem pY{c:UInt8}{r:Str}(h:letB c=true\/escS (c::r)=true):(zm (c::r)).2<:+r:=by
 rw[zG];split
 ·exact Ml r
 ·rename_i hl;rw[Ka (h.resolve_left hl)];exact(Ml _).trans (ZO r)
theorem EP{c:UInt8}{r:Str}(h:nmS (c::r)=true):letB c=true\/escS (c::r)=true:=by
 unfold nmS at h;cases h45:atS (c::r) 0==45 with
 |true=> left;rw[show c=45 from Lb.1 h45];decide
 |false=>
  rw[h45,Ga (by decide),Md]at h;rcases h with h|h
  ·left;unfold letB;rw[show fstB c=true from h];rfl
  ·exact .inr h
theorem jZ{c:UInt8}{r:Str}(h:nmS (c::r)=true):(qC (c::r)).2<:+r:=by
 have hn:=pY (EP h);have hd:(zm (c::r)).2.drop 1<:+r:=(Lf 1 _).trans hn;unfold qC;split
 ·split
  ·exact(TG _).trans ((Wn spB _).trans hd)
  ·exact hd
 ·exact hn
def nxU(c:UInt8)(r:Str):zb×Str:=
  if nmS (c::r)then qC (c::r)
  else if Bh c==0 then(⟨9,[c],0,[],false⟩,r)
  else(uh (Bh c),r)
def nxT(c:UInt8)(r:Str):zb×Str:=
  if nbS (c::r)then zA (c::r)
  else if [45,45,62].isPrefixOf (c::r)then(uh 15,(c::r).drop 3)
  else if [60,33,45,45].isPrefixOf (c::r)then(uh 14,(c::r).drop 4)
  else if c==64&&nmS r then(⟨3,(zm r).1,0,[],false⟩,(zm r).2)
  else nxU c r
def Zp:Str->zb×Str
 |[]=>(⟨0,[],0,[],false⟩,[])
 |c::r=>
  if spB c then(uh 13,past spB (c::r))
  else if c==34||c==39 then(Vj (zZ c r).1,(zZ c r).2)
  else if c==35&&(letB (atS r 0)||escS r)then(⟨4,(zm r).1,0,[],nmS r⟩,(zm r).2)
  else nxT c r
theorem Xu(c:UInt8)(r:Str):Zp (c::r)=
  if spB c then(uh 13,past spB (c::r))
  else if c==34||c==39 then(Vj (zZ c r).1,(zZ c r).2)
  else if c==35&&(letB (atS r 0)||escS r)then(⟨4,(zm r).1,0,[],nmS r⟩,(zm r).2)
  else if nbS (c::r)then zA (c::r)
  else if [45,45,62].isPrefixOf (c::r)then(uh 15,(c::r).drop 3)
  else if [60,33,45,45].isPrefixOf (c::r)then(uh 14,(c::r).drop 4)
  else if c==64&&nmS r then(⟨3,(zm r).1,0,[],false⟩,(zm r).2)
  else if nmS (c::r)then qC (c::r)
  else if Bh c==0 then(⟨9,[c],0,[],false⟩,r)
  else(uh (Bh c),r):=rfl
theorem zs1{c:UInt8}{r:Str}(h:nbS (c::r)=true):(zA (c::r)).2<:+r:=by
 have h1:=V9 h;unfold zA;split
 ·exact(Ml _).trans h1
 ·split
  ·exact(Lf 1 _).trans h1
  ·exact h1
theorem Kl(c:UInt8)(r:Str):(Zp (c::r)).2<:+r:=by
 rw[Xu];split
 ·rename_i h;show past spB (c::r)<:+r;rw[past,Ka h];exact Wn spB r
 ·split
  ·exact uD c r
  ·split
   ·exact Ml r
   ·split
    ·rename_i h;exact zs1 h
    ·split
     ·exact Lf 2 r
     ·split
      ·exact Lf 3 r
      ·split
       ·exact Ml r
       ·split
        ·rename_i h;exact jZ h
        grind
theorem wY(c:UInt8):decide (Lib.indexByte [58,59,44,91,93,40,41,123,125] c>=0)= !(Bh c==0)/\(Bh c≠0->wu8 (16+wu8 (Lib.indexByte [58,59,44,91,93,40,41,123,125] c))=Bh c):=by
 have: ∀n:Nat,n<256->decide (Lib.indexByte [58,59,44,91,93,40,41,123,125] (UInt8.ofNat n)>=0)= !(Bh (UInt8.ofNat n)==0)/\(Bh (UInt8.ofNat n)≠0->wu8 (16+wu8 (Lib.indexByte [58,59,44,91,93,40,41,123,125] (UInt8.ofNat n)))=Bh (UInt8.ofNat n)):=by decide+kernel
 have:=this c.toNat (Ob c);simp_all
theorem Sn{m q:Str}(h:m.isPrefixOf q=true):m.length<=q.length:=by
 grind
def Jv(s:Str)(X:zb×Str):Option (zb×za):=some (X.1,sr s X.2)
theorem zEG{s q:Str}{c:UInt8}{r:Str}(hs:s.length<=40000)(hq:q<:+s)(hc:q=c::r):Z9 (sr s q)=some ((Zp q).1,sr s (Zp q).2):=by
 subst hc;have hsb:s.length<=big:=by unfold big;omega
 have hr:=uj hq;have hd1:(c::r).drop 1=r:=rfl;rw[show Zp (c::r)=if spB c then(uh 13,past spB (c::r))else if c==34||c==39 then(Vj (zZ c r).1,(zZ c r).2)else if c==35&&(letB (atS r 0)||escS r)then(⟨4,(zm r).1,0,[],nmS r⟩,(zm r).2)else nxT c r from rfl];unfold Z9;simp only[ze,Wh hsb hq,Aa];rw[zy LW];simp only[uw,Aa,dW,bW,zEN,zEQ,LG hq,xu,show atS (c::r) 0=c from rfl,XL];cases hsp:spB c with
 |true=> rw[Ja,fA hsb hq,Ka rfl];rfl
 |false=>
  rw[Ha,Ga (by decide)];cases hqu:c==34||c==39 with
  |true=> rw[Ja,zCW hsb hq,Ka rfl];rfl
  |false=>
   rw[Ha,Ga (by decide)];have hsc:zt (1,sr s (c::r))=some (escS r):=DD (k:=1) hsb hq (by omega);have hnm1:zD (1,sr s (c::r))=some (nmS r):=FL (k:=1) hsb hq (by omega);have hnm0:zD (0,sr s (c::r))=some (nmS (c::r)):=FL (k:=0) hsb hq (by omega);have hst:(⟨s,w64 ((beh s (c::r):Int)+1)⟩:za)=sr s r:=by rw[Ji hsb hq]
   rw[hst];have tail:((Zt (sr s (c::r))).bind fun y10=>
    bif y10 then
     (ZE (sr s (c::r))).bind fun y11=>
     some (y11.1,y11.2)
    else
     (some ([45,45,62].isPrefixOf (c::r))).bind fun y12=>
     bif y12 then
      some ((⟨15,[],0,[],false⟩:zb),(⟨s,w64 ((beh s (c::r):Int)+3)⟩:za))
     else
      (some ([60,33,45,45].isPrefixOf (c::r))).bind fun y13=>
      bif y13 then
       some ((⟨14,[],0,[],false⟩:zb),(⟨s,w64 ((beh s (c::r):Int)+4)⟩:za))
      else
       (zu (c==64) (zD (1,sr s (c::r))) (default:Bool)).bind fun y14=>
       bif bif c==64 then y14 else false then
        (zL (sr s r)).bind fun y15=>
        some ((⟨3,y15.1,0,[],false⟩:zb),y15.2)
       else
        (zD (0,sr s (c::r))).bind fun y16=>
        bif y16 then
         (Zz (sr s (c::r))).bind fun y17=>
         some (y17.1,y17.2)
        else
         (strings_IndexByte ([58,59,44,91,93,40,41,123,125],wu8 (pk (c::r) 0))).bind fun y18=>
         bif decide (y18>=0)then
          some ((⟨wu8 (16+wu8 y18),[],0,[],false⟩:zb),sr s r)
         else
          need (decide (1<=((c::r).length:Int)))<|
          some ((⟨9,List.take 1 (c::r),0,[],false⟩:zb),sr s r))=
    Jv s (nxT c r):=by
    unfold nxT;simp only[zCA hsb hq,Aa];cases hnb:nbS (c::r)with
    |true=> rw[Ja,zAg hs hq hnb,Ka rfl];rfl
    |false=>
     rw[Ha,Ga (by decide)];cases h3:[45,45,62].isPrefixOf (c::r)with
     |true=> rw[Ja,Ka rfl,show(3:Int)=((3:Nat):Int)from rfl,UA (n:=3) hsb hq (Sn h3)];rfl
     |false=>
      rw[Ha,Ga (by decide)];cases h4:[60,33,45,45].isPrefixOf (c::r)with
      |true=> rw[Ja,Ka rfl,show(4:Int)=((4:Nat):Int)from rfl,UA (n:=4) hsb hq (Sn h4)];rfl
      |false=>
       rw[Ha,Ga (by decide),hnm1,hnm0];have rest: ∀z:Bool,((some z).bind fun y14=>bif y14 then
        (zL (sr s r)).bind fun y15=>
        some ((⟨3,y15.1,0,[],false⟩:zb),y15.2)
       else
        (some (nmS (c::r))).bind fun y16=>
        bif y16 then
         (Zz (sr s (c::r))).bind fun y17=>
         some (y17.1,y17.2)
        else
         (strings_IndexByte ([58,59,44,91,93,40,41,123,125],wu8 (pk (c::r) 0))).bind fun y18=>
         bif decide (y18>=0)then
          some ((⟨wu8 (16+wu8 y18),[],0,[],false⟩:zb),sr s r)
         else
          need (decide (1<=((c::r).length:Int)))<|
          some ((⟨9,List.take 1 (c::r),0,[],false⟩:zb),sr s r))=Jv s (if z then(⟨3,(zm r).1,0,[],false⟩,(zm r).2)else nxU c r):=by
        intro z;unfold nxU;simp only[Aa];cases z with
        |true=> rw[Ja,bF hsb hr];rfl
        |false=>
         rw[Ha,Ga (by decide)];cases hnm:nmS (c::r)with
         |true=>rw[Ja,zCi hs hq];rfl
         |false=>
          rw[Ha,Ga (by decide),Rp,dE];have hb:(wu8 (c.toNat:Int)).toNat.toUInt8=c:=by rw[Dx,Ig (Ob c),Bc];exact Uc
          rw[hb];obtain⟨m1,m2⟩:=wY c;simp only[Aa,m1];cases hm:Bh c==0 with
          |true=> rw[Oc,Ha,zy (La (by grind))];rfl
          |false=> rw[Ec,Ja,m2 (Fa.1 hm)];rfl
       cases h64:c==64 with
       |false=> simp_all
       |true=> have:=rest (nmS r);simp_all
   cases h35:c==35 with
   |false=> simp only[ZF,Aa,Ha,xe,Yc];exact tail
   |true=>
    simp only[ZB,Aa,Ja,Xc,Xb,vv hsb hq,jN];have e1:atS (c::r) 1=atS r 0:=rfl;rw[e1,hsc];have hh:(bif letB (atS r 0)||escS r then(zD (1,sr s (c::r))).bind fun y8=>(zL (sr s r)).bind fun y9=>some ((⟨4,y9.1,0,[],y8⟩:zb),y9.2)else Jv s (nxT c r))=Jv s (if(letB (atS r 0)||escS r)then(⟨4,(zm r).1,0,[],nmS r⟩,(zm r).2)else nxT c r):=by
     cases letB (atS r 0)||escS r with
     |false=>rfl
     |true=>rw[Ja,hnm1,bF hsb hr];rfl
    show _=Jv s (if(letB (atS r 0)||escS r)then(⟨4,(zm r).1,0,[],nmS r⟩,(zm r).2)else nxT c r);rw[<-hh];cases hl:letB (atS r 0)with
    |true=>rfl
    |false=> simp_all
def clsS:Str->Option Str
 |[]=>none
 |c::r=>if c==42&&atS r 0==47 then some (r.drop 1)else clsS r
theorem ul: ∀(l:Str) {r:Str},clsS l=some r->r<:+l/\r.length+2<=l.length
 |[],r,h=>by cases h
 |c::t,r,h=>by
  unfold clsS at h;split at h
  ·rename_i hc;rw[Da,Lb,Lb]at hc;injection h with h;subst h;have:=xq (l:=t) (n:=0) (by rw[hc.2];decide);exact⟨(Lf 1 t).trans (Te c t),by rw[Dc,Ia];omega⟩
  ·obtain⟨h1,h2⟩:=ul t h;exact⟨h1.trans (Te c t),by rw[Ia];omega⟩
theorem pre2(b:UInt8)(l:Str):([42,47]:Str).isPrefixOf (b::l)=(b==42&&atS l 0==47):=by
 have h1:((42:UInt8)==b)=(b==42):=by rw[Bool.eq_iff_iff,Lb,Lb];exact eq_comm
 rw[List.isPrefixOf,h1];cases l with
 |nil=>rfl
 |cons d t=>
  have h2:((47:UInt8)==d)=(d==47):=by rw[Bool.eq_iff_iff,Lb,Lb];exact eq_comm
  rw[List.isPrefixOf,h2,List.isPrefixOf];rw[Xc];rfl
theorem iQ: ∀l:Str,Lib.index l [42,47]=match clsS l with|none=> -1|some r=>((l.length - r.length - 2:Nat):Int)
 |[]=>rfl
 |b::l=>by
  rw[Lib.index,pre2,clsS];cases h:b==42&&atS l 0==47 with
  |true=> rw[Ka rfl,Ka rfl];rw[Da,Lb,Lb]at h;have:=xq (l:=l) (n:=0) (by rw[h.2];decide);simp only[Dc,Ia];omega
  |false=>
   simp only[ic,Ye];rw[iQ l];cases hc:clsS l with
   |none=>rfl
   |some r=> have:=(ul l hc).2;simp only;rw[Ga (by rw[Lb];omega),Ia];omega
def cmtS(l:Str):Str:=
 if([47,42]:Str).isPrefixOf l then
  (match h:clsS (l.drop 2)with
  |some q=>cmtS q
  |none=>[])
 else l
termination_by l.length
decreasing_by
 have:=(ul _ h).2;rw[Dc]at this;omega
theorem aj(l:Str):cmtS l=if([47,42]:Str).isPrefixOf l then(match clsS (l.drop 2)with|some q=>cmtS q|none=>[])else l:=by
 rw[cmtS];split
 ·split<;>rename_i h<;>rw[h]
 ·rfl
theorem Z4{l:Str}(h:([47,42]:Str).isPrefixOf l=false):cmtS l=l:=by rw[aj,h];rfl
theorem Jl(l:Str):cmtS l<:+l:=by
 rw[aj];split
 ·split
  ·rename_i q hq;have h1:=ul _ hq;have h2:=h1.2;rw[Dc]at h2;exact(Jl q).trans (h1.1.trans (Lf 2 l))
  ·exact List.nil_suffix
 ·exact Ae _
termination_by l.length
decreasing_by
 all_goals first|omega|(simp only[Dc]at *; omega)
theorem Aq(l:Str):cmtS (cmtS l)=cmtS l:=by
 rw[aj l];split
 ·split
  ·rename_i q hq;have h2:=(ul _ hq).2;rw[Dc]at h2;exact Aq q
  ·exact Z4 rfl
 ·rename_i h;exact Z4 (Bool.eq_false_iff.2 h)
termination_by l.length
decreasing_by
 all_goals first|omega|(simp only[Dc]at *; omega)
theorem yx(l:Str):([47,42]:Str).isPrefixOf (cmtS l)=false:=by
 have h:=Aq l;cases hp:([47,42]:Str).isPrefixOf (cmtS l)with
 |false=>rfl
 |true=>
  exfalso;rw[aj (cmtS l),hp,Ka rfl]at h;have hl:=Sn hp;rw[show([47,42]:Str).length=2 from rfl]at hl;cases hc:clsS ((cmtS l).drop 2)with
  |none=>rw[hc]at h;rw[<-h]at hl;simp at hl
  |some q=> rw[hc]at h;have h1:=(ul _ hc).2;have h2:=(Jl q).length_le;simp only at h;rw[h,Dc]at*;omega
theorem MQ{s q:Str}(hs:s.length<=40000)(hq:q<:+s):Zh (sr s q)=some (sr s (cmtS q)):=by
 have hsb:s.length<=big:=by unfold big;omega
 unfold Zh;refine eD (fun z=> ∃p,z=sr s p/\p<:+s/\cmtS p=cmtS q) (fun z=>s.length - z.at_.toNat) _ ?_ ⟨q,rfl,hq,rfl⟩;rintro _ ⟨p,rfl,hp,he⟩;rw[zy LW];simp only[ze,LG hp,xu,Aa];rw[aj p]at he;cases hpre:([47,42]:Str).isPrefixOf p with
 |false=> rw[hpre,Ga (by decide)]at he;exact .inr (.inl ⟨_,rfl,by rw[he]⟩)
 |true=>
  rw[hpre,Ka rfl]at he;have hl:=Sn hpre;rw[show([47,42]:Str).length=2 from rfl]at hl;have hle:=hp.length_le;have hb:=JN hp hl;have hb2:=Uk s (p.drop 2);rw[Ja];have hw:w64 ((beh s p:Int)+2)=((beh s (p.drop 2):Nat):Int):=by rw[<-hb,Za (by omega) (by omega)];omega
  rw[hw,zy (by rw[La (by omega),La (by omega)];rfl),LG (Em hp 2)];have hlen:(p.drop 2).length<=40000:=by rw[Dc];omega
  have hi:ol (p.drop 2,[42,47])=some (Lib.index (p.drop 2) [42,47]):=by unfold ol;rw[zy (by exact La (show(p.drop 2).length<4294967281 by omega))]
  rw[hi,iQ];simp only[Aa];cases hc:clsS (p.drop 2)with
  |none=> rw[hc]at he;refine .inr (.inr ?_);rw[<-he];show _=some (LO.ret (⟨s,(beh s []:Int)⟩:za));unfold beh;rw[Lc];rfl
  |some r=>
   rw[hc]at he;obtain⟨h1,h2⟩:=ul _ hc;have hrs:r<:+s:=h1.trans (Em hp 2);rw[Dc]at h2 hlen;simp only;rw[Ib (by omega),Ha];refine .inl ⟨sr s r,?_,⟨r,rfl,hrs,he⟩,?_⟩
   ·rw[Dc,Za (n:=_+4) (by omega) (by omega)];have:(beh s p:Int)+(((p.length - 2 - r.length - 2:Nat):Int)+4)=((beh s r:Nat):Int):=by unfold beh;omega
    rw[this,Za (by have:=Uk s r;omega) (by have:=Uk s r;omega)]
   ·show s.length - beh s r<s.length - beh s p;unfold beh;omega
def qi(l:Str):List zb:=
 match h:cmtS l with
 |[]=>[]
 |c::r=>(Zp (c::r)).1::qi (Zp (c::r)).2
termination_by l.length
decreasing_by
 have h1:=(Kl c r).length_le;have h2:=(Jl l).length_le;rw[h,Ia]at h2;omega
theorem QE{l:Str}(h:cmtS l=[]):qi l=[]:=by
 rw[qi];split
 ·rfl
 ·rename_i h2;rw[h]at h2;cases h2
theorem QJ{l:Str}{c:UInt8}{r:Str}(h:cmtS l=c::r):qi l=(Zp (c::r)).1::qi (Zp (c::r)).2:=by
 rw[qi];split
 ·rename_i h2;rw[h]at h2;cases h2
 ·rename_i h2;rw[h]at h2;injection h2 with h3 h4;subst h3 h4;rfl
theorem LC(l:Str):qi (cmtS l)=qi l:=by
 cases h:cmtS l with
 |nil=>rw[QE h];exact QE (Z4 rfl)
 |cons c r=> rw[QJ h];exact QJ (by rw[<-h,Aq])
theorem bN(l:Str):(qi l).length<=l.length:=by
 cases h:cmtS l with
 |nil=>rw[QE h];exact Ac _
 |cons c r=>
  have h4:(Zp (c::r)).2.length<l.length:=by have h1:=(Kl c r).length_le;have h2:=(Jl l).length_le;rw[h,Ia]at h2;omega
  rw[QJ h,Ia];have:=bN (Zp (c::r)).2;omega
termination_by l.length
decreasing_by
 all_goals omega
theorem NQ: ∀l:Str,(Proofs.Cl.cleanS l).length<=3*l.length:=by
 have: ∀(n:Nat) (l:Str),l.length<=n->(Proofs.Cl.cleanS l).length<=3*l.length:=by
  intro n
  induction n with
  |zero=>
   intro l h;cases l with
   |nil=>rw[Proofs.Cl.cleanS];exact Va _
   |cons c r=>rw[Ia]at h;omega
  |succ n ih=>
   intro l h;rw[Proofs.Cl.cleanS.eq_def];split
   ·exact Va _
   ·rename_i r;rw[Ia,Ia]at h;have:=ih r (by omega);rw[Ia,Ia,Ia];omega
   ·rename_i c r _;rw[Ia]at h;have:=ih r (by omega);rw[Bool.cond_eq_ite];split
    ·simp only[Ia];omega
    ·rw[Bool.cond_eq_ite];split
     ·simp only[Ia];omega
     ·simp only[Ia];omega
 exact fun l=>this l.length l (Va _)
def Ei(w:Str):List zb×Int:=if 4000<w.length then([],28)else if 1500<(qi (Proofs.Cl.cleanS w)).length then([],4)else(qi (Proofs.Cl.cleanS w),0)
theorem zBE{n:Nat}(h:n<=100000):Zb n 1 56=true:=by unfold Zb;exact La (by omega)
theorem xI(w:Str):ZL w=some (Ei w):=by
 unfold ZL Ei;by_cases hlong:4000<w.length
 ·have hcl:jl w=some ([],28):=by unfold jl;rw[Ka hlong]
  unfold Yz;rw[hcl,Ka hlong];rfl
 ·have hcl:jl w=some (Proofs.Cl.cleanS w,0):=by unfold jl;rw[Ga hlong]
  rw[Ga hlong];have h3:=NQ w;generalize Proofs.Cl.cleanS w=s at hcl h3;have hs:s.length<=40000:=by omega
  unfold Yz;rw[hcl];simp only[ze,Aa];rw[show((0:Int) != 0)=false from rfl,Ha,sr_0,MQ hs (Ae s)];simp only[Aa];have hmain: ∃z:Int×List zb,ZC (fun(s3:Int×List zb×za)=>
    bif decide (s3.2.2.at_<(s.length:Int))then
     bif decide (w64 (s3.1+1)>1500)then
      some (LO.ret (4,s3.2.1))
     else
      (Z9 s3.2.2).bind fun y4=>
      (QI ((y4.1,s3.2.2.at_,y4.2.at_),s3.2.1)).bind fun y5=>
      (Zh y4.2).bind fun y6=>
      some (LO.again (w64 (s3.1+1),y5,y6))
    else
     some (LO.out (s3.2.1,s3.2.2)):Int×List zb×za->Option (LO (Int×List zb×za) (List zb×za) (Int×List zb))) (0,[],sr s (cmtS s)) (fun o7=>some (0,o7.1))=some z/\
    z=(if 1500<(qi s).length then(4,(qi s).take 1500)else(0,qi s)):=by
   refine⟨_,eD (fun z=> ∃(acc:List zb) (q:Str),z=((acc.length:Int),acc,sr s q)/\q<:+s/\cmtS q=q/\acc.length<=1500/\acc++qi q=qi s) (fun z=>s.length - z.2.2.at_.toNat) (if 1500<(qi s).length then(4,(qi s).take 1500)else(0,qi s)) ?_ ⟨[],cmtS s,rfl,Jl s,Aq s,by simp,by rw[Ic,LC]⟩,rfl⟩;rintro _ ⟨acc,q,rfl,hq,hqc,ha,he⟩;simp only;have hle:=hq.length_le;cases q with
   |nil=>
    have hb:((beh s []:Nat):Int)=(s.length:Int):=by unfold beh;rw[Lc];rfl
    have hd:decide (((beh s []:Nat):Int)<(s.length:Int))=false:=Ib (by omega);simp only[hd,Ha];rw[QE (Z4 rfl),Ab]at he;refine .inr (.inl ⟨_,rfl,?_⟩);rw[<-he,Ga (by omega)]
   |cons c r=>
    rw[Ia]at hle;have hb:beh s (c::r)<s.length:=by unfold beh;rw[Ia];omega
    have hd:decide (((beh s (c::r):Nat):Int)<(s.length:Int))=true:=La (by omega);have hw:w64 ((acc.length:Int)+1)=(acc.length:Int)+1:=Za (by omega) (by omega);simp only[hd,Ja,hw];rw[QJ hqc]at he;have hlen:=congrArg List.length he;rw[Ba,Ia]at hlen;by_cases hfull:acc.length=1500
    ·have hd2:decide ((acc.length:Int)+1>1500)=true:=La (by omega);simp only[hd2,Ja];refine .inr (.inr ?_);rw[Ka (by omega),<-he,<-hfull,List.take_left]
    ·have hd2:decide ((acc.length:Int)+1>1500)=false:=Ib (by omega);simp only[hd2,Ha,zEG hs hq rfl,Aa];unfold QI;rw[zy (zBE (by simp only;omega))];have hns:(Zp (c::r)).2<:+s:=(Kl c r).trans (uj hq);simp only[Aa,MQ hs hns];refine .inl ⟨_,rfl,⟨acc++[(Zp (c::r)).1],cmtS (Zp (c::r)).2,?_,(Jl _).trans hns,Aq _,by rw[Ba,Eb];omega,?_⟩,?_⟩
     ·rw[Ba,Eb];refine Prod.ext ?_ rfl;show(acc.length:Int)+1=((acc.length+1:Nat):Int);omega
     ·rw[LC,Ra];exact he
     ·have h1:=(Kl c r).length_le;have h2:=(Jl (Zp (c::r)).2).length_le;show s.length - beh s (cmtS (Zp (c::r)).2)<s.length - beh s (c::r);unfold beh at*;rw[Ia]at*;omega
  obtain⟨z,hz1,hz2⟩:=hmain;rw[hz1,hz2];by_cases hmany:1500<(qi s).length
  ·rw[Ka hmany,Ka hmany];rfl
  ·rw[Ga hmany,Ga hmany];rfl
end Go.Lv.VT
