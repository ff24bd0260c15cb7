/- The writing of names. -/
import Derived.Test.YtcdeccnjlkkejaaGreatDoorNam
set_option linter.unusedSimpArgs false
set_option linter.unusedVariables false
namespace Go.Lv.VT
set_option maxRecDepth 100000
def escC(c:UInt8):Str:=bif decide (32<c.toNat)&&decide (c.toNat<127)&& !digB c&& !alB c then [92,c]else 92::(hexS c.toNat++[32])
def pcW(dash:Bool)(k:Nat)(c:UInt8):Str:=bif letB c&&(k==0|| !digB c)&& !dash then [c]else escC c
def encW(dash:Bool):Nat->Str->Str
 |_,[]=>[]
 |k,c::r=>pcW dash k c++encW dash (k - 1) r
theorem zBo(c:UInt8):namN c.toNat=letB c:=by
 have: ∀n:Nat,n<256->namN (UInt8.ofNat n).toNat=letB (UInt8.ofNat n):=by decide+kernel
 have h:=this c.toNat (Ob c)
 rwa [Mc]at h
theorem zDQ(c:UInt8):Gp (c.toNat:Int)=some (letB c):=by rw[pV,zBo]
theorem bO(c:UInt8):qR (c.toNat:Int)=some (digB c):=rV c
theorem zA8(c:UInt8):Ew (c.toNat:Int)=some (alB c):=of_n (by decide+kernel) c
theorem zAt(c:UInt8):wu64 (c.toNat:Int)=(c.toNat:Int):=by
 have:=Ob c;show IntKind.u64.wrap _=_;have h: ∀n:Int,IntKind.u64.wrap n=n%18446744073709551616:=fun n=>by simp[IntKind.wrap,IntKind.bits,IntKind.signed]
 rw[h];omega
theorem wy(c:UInt8):Z4 ((c.toNat:Nat):Int)=some c:=by rw[ZB (Ob c),Mc]
theorem iP(n:Nat):(hexS n).length<=2:=by unfold hexS;split<;>simp
theorem Pv(c:UInt8){acc:Str}(ha:acc.length<=1000000000):qg ((c.toNat:Int),acc)=some (acc++escC c):=by
 have hc:=Ob c;unfold qg escC;simp only[ze,bO,zA8];have e1:decide ((c.toNat:Int)>32)=decide (32<c.toNat):=by rw[Yf];omega
 have e2:decide ((c.toNat:Int)<127)=decide (c.toNat<127):=by rw[Yf];omega
 rw[e1,e2];have hsh:short (acc++[(92:UInt8)])=true:=Ha (by rw[Ba,Va];omega);have hu:Ir ((wu64 (c.toNat:Int),16),acc++[(92:UInt8)])=some (acc++[(92:UInt8)]++hexS c.toNat):=by unfold Ir;simp only[zAt,hsh];rw[zl (by simp;omega)];rfl
 have hx:=iP c.toNat;have hfin:need (Zc acc.length 1 1) (ze (Ir ((wu64 (c.toNat:Int),16),acc++[(92:UInt8)])) fun y4=>need (Zc y4.length 1 1) (some (y4++[(32:UInt8)])))=some (acc++92::(hexS c.toNat++[32])):=by rw[zl (xh (by omega)),hu];simp only[ze,Aa];rw[zl (xh (by rw[Ba,Ba,Va];omega))];simp
 simp only[ze]at hfin;rw[hfin];cases decide (32<c.toNat)with
 |false=>rfl
 |true=>
  cases decide (c.toNat<127)with
  |false=>rfl
  |true=>
   cases digB c with
   |true=>rfl
   |false=>
    cases alB c with
    |true=>rfl
    |false=> simp only[zw,Da,Lb,Bool.and_self,Aa,wy];rw[zl (xh (by omega))]
theorem Dk(c:UInt8):(escC c).length<=4:=by
 have:=iP c.toNat;unfold escC;cases decide (32<c.toNat)&&decide (c.toNat<127)&& !digB c&& !alB c with
 |true=>show 2<=4;omega
 |false=>rw[Ca,Fa,Ba,Va];omega
theorem yH(dash:Bool)(k:Nat)(c:UInt8):(pcW dash k c).length<=4:=by
 have:=Dk c;unfold pcW;cases letB c&&(k==0|| !digB c)&& !dash with
 |true=>show 1<=4;omega
 |false=>exact this
theorem Jl(dash:Bool): ∀(k:Nat) (l:Str),(encW dash k l).length<=4*l.length
 |_,[]=>by unfold encW;simp
 |k,c::r=>by have:=yH dash k c;have:=Jl dash (k - 1) r;unfold encW;rw[Ba,Fa];omega
theorem zDC{dash:Bool}{k i:Nat}{l:Str}(h:i<l.length):encW dash (k - i) (l.drop i)=pcW dash (k - i) l[i]++encW dash (k - (i+1)) (l.drop (i+1)):=by rw[Rb h,encW,show k - i - 1=k - (i+1) by omega]
theorem zEW {R:Type} {step:Int×List UInt8->Option (LO (Int×List UInt8) (List UInt8) R)} {l acc:Str} {k:Nat} {dash:Bool} (hl:l.length<=100000) (ha:acc.length<=100000000)
  (h1: ∀(i:Nat) (a:Str) (hi:i<l.length),a.length<=500000000->step ((i:Int),a)=some (.again (w64 ((i:Int)+1),a++pcW dash (k - i) l[i])))
  (h2: ∀a,step ((l.length:Int),a)=some (.out a)):bg step (0,acc)=some (.out (acc++encW dash k l)):=by
 refine ZM (fun z=> ∃(i:Nat) (a:Str),z=((i:Int),a)/\i<=l.length/\a.length<=acc.length+4*i/\a++encW dash (k - i) (l.drop i)=acc++encW dash k l) (fun z=>l.length - z.1.toNat) _ ?_ ⟨0,acc,rfl,by omega,by omega,rfl⟩;rintro _ ⟨i,a,rfl,hi,hal,he⟩;rcases Tc i l.length with h|h
 ·refine .inl ⟨_,h1 i a h (by omega),⟨i+1,_,by rw[zJ (by omega) (by omega)];rfl,by omega,?_,?_⟩,by simp only;rw[zJ (by omega) (by omega)];omega⟩
  ·have:=yH dash (k - i) l[i];rw[Ba];omega
  ·rw[<-he,zDC h,Na]
 ·have:i=l.length:=by omega
  subst this;refine .inr (.inl ⟨_,h2 a,?_⟩);rw[<-he,Be (Ya _)];rw[show encW dash (k - l.length) []=[] by rw[encW],ja]
def Bq(k:Nat)(l:Str):Bool:= !(k==0)&&l==[45]
def Z5(l:Str):Nat:=if [45].isPrefixOf l then 2 else 1
theorem Rz(l:Str):Un l=some ((Z5 l:Nat):Int):=by unfold Un Z5;simp only[ze,Aw,Aa];cases List.isPrefixOf [45] l<;>rfl
def Z8(l:Str):Str:=encW (l==[45]) (Z5 l) l
theorem Dz{n:Nat}(h:n<16):qL (hexD n)=true/\hexN (hexD n)=n/\(hexD n==10)=false/\letB (hexD n)=true:=by
 have: ∀n:Nat,n<16->qL (hexD n)=true/\hexN (hexD n)=n/\(hexD n==10)=false/\letB (hexD n)=true:=by decide+kernel
 exact this n h
theorem WF{k n:Nat}{c:UInt8}{r:Str}(h:qL c=true):hexes (k+1) n (c::r)=hexes k (16*n+hexN c) r:=by rw[hexes,La h]
theorem XO{n:Nat}(h:n<256)(R:Str):hexes 6 0 (hexS n++32::R)=(n,32::R):=by
 unfold hexS;by_cases h1:n<16
 ·obtain⟨a,b,_⟩:=Dz h1;rw[La h1,Ad,WF a,b,Bz _ _ (32::R) (show qL 32=false by decide)];simp
 ·obtain⟨a,b,_⟩:=Dz (show n / 16<16 by omega);obtain⟨a',b',_⟩:=Dz (show n%16<16 by omega);rw[Ja h1,Db,Ad,WF a,WF a',b,b',Bz _ _ (32::R) (show qL 32=false by decide)];rw[show 16*(16*0+n / 16)+n%16=n by omega]
theorem jK{n:Nat}(h:n<256)(R:Str): ∃d t,hexS n++R=d::t/\qL d=true/\(d==10)=false:=by
 unfold hexS;by_cases h1:n<16
 ·obtain⟨a,_,b,_⟩:=Dz h1;exact⟨_,_,by rw[La h1];rfl,a,b⟩
 ·obtain⟨a,_,b,_⟩:=Dz (show n / 16<16 by omega);exact⟨_,_,by rw[Ja h1];rfl,a,b⟩
theorem XR{c:UInt8}(h0:c≠0)(h:c.toNat<128):Nh c.toNat=[c]:=by
 have hn:c.toNat≠0:=by intro e;exact h0 (Vf.1 e)
 unfold Nh;rw[Ja (by omega),La h,Mc]
theorem wS{r:Str}(h:escS (92::r)=true):zo (92::r)=((zq r).1++(zo (zq r).2).1,(zo (zq r).2).2):=by rw[zM,Ja (by decide),La h]
theorem NQ{c:UInt8}(h0:c≠0)(h:c.toNat<128)(R:Str):zo (escC c++R)=(c::(zo R).1,(zo R).2):=by
 unfold escC;cases hg:decide (32<c.toNat)&&decide (c.toNat<127)&& !digB c&& !alB c with
 |true=>
  rw[Da];have hx:qL c=false/\(c==10)=false:=by
   have: ∀n:Nat,n<256->(decide (32<(UInt8.ofNat n).toNat)&&decide ((UInt8.ofNat n).toNat<127)&& !digB (UInt8.ofNat n)&& !alB (UInt8.ofNat n))=true->qL (UInt8.ofNat n)=false/\(UInt8.ofNat n==10)=false:=by decide+kernel
   have:=this c.toNat (Ob c);rw[Mc]at this;exact this hg
  have he:zq (c::R)=([c],R):=by show(if qL c then _ else _)=_;rw[Ja (by rw[hx.1];decide)]
  rw[show [92,c]++R=92::c::R from rfl,wS (by unfold escS;rw[show atS (92::c::R) 0=92 from rfl,show atS (92::c::R) 1=c from rfl,hx.2];rfl),he];rfl
 |false=>
  rw[Ca,Db,Na];obtain⟨d,t,e,hd,h10⟩:=jK (n:=c.toNat) (Ob c) ([32]++R);have he:zq (hexS c.toNat++([32]++R))=([c],R):=by have hh:=XO (n:=c.toNat) (Ob c) R;rw[show(32::R:Str)=[32]++R from rfl,e]at hh;rw[e];show(if qL d then(Nh (hexes 6 0 (d::t)).1,unsp (hexes 6 0 (d::t)).2)else _)=_;rw[La hd,hh,XR h0 h];rfl
  rw[wS (by rw[e];unfold escS;rw[show atS (92::d::t) 0=92 from rfl,show atS (92::d::t) 1=d from rfl,h10];rfl),he];rfl
theorem VI{c:UInt8}(h: ¬c.toNat<128):letB c=true/\digB c=false:=by
 have: ∀n:Nat,n<256-> ¬(UInt8.ofNat n).toNat<128->letB (UInt8.ofNat n)=true/\digB (UInt8.ofNat n)=false:=by decide+kernel
 have:=this c.toNat (Ob c);rw[Mc]at this;exact this h
theorem MO{dash:Bool}{k:Nat}{c:UInt8}(h0:c≠0)(hd:dash=true->c.toNat<128)(R:Str):zo (pcW dash k c++R)=(c::(zo R).1,(zo R).2):=by
 unfold pcW;cases hg:letB c&&(k==0|| !digB c)&& !dash with
 |true=> rw[Ga,Ga]at hg;rw[Da,Ad,zM,La hg.1.1]
 |false=>
  rw[Ca];refine NQ h0 ?_ R;by_cases h:c.toNat<128
  ·exact h
  ·obtain⟨a,b⟩:=VI h;rw[a,b,Lb,Cf]at hg;exact hd (by cases dash<;>simp_all)
theorem LP{dash:Bool}: ∀(k:Nat) (l:Str),Zz l=true->(dash=true-> ∀c∈l,c.toNat<128)->zo (encW dash k l)=(l,[])
 |_,[],_,_=>by rw[encW,qV]
 |k,c::r,h,hd=>by unfold Zz at h;rw[Sd,Ga]at h;rw[encW,MO (by rintro rfl;exact absurd h.1 (by decide)) (fun e=>hd e c (Pb ..)),LP (k - 1) r h.2 (fun e x hx=>hd e x (Ub _ hx))]
theorem K3{l:Str}(h:Zz l=true):zo (Z8 l)=(l,[]):=by refine LP _ _ h (fun e c hc=> ?_);rw[Jb.1 e,Sa]at hc;subst hc;decide
theorem FE{dash:Bool}{k:Nat}(hk:0<k)(c:UInt8)(R:Str): ∃d t,pcW dash k c++R=d::t/\(d=92/\escS (d::t)=true\/(d=c/\dash=false/\letB d=true/\digB d=false/\t=R)):=by
 have hk0:(k==0)=false:=by rw[Ia];omega
 unfold pcW;rw[hk0,Od];cases hg:letB c&& !digB c&& !dash with
 |true=> rw[Ga,Ga,Rf,Rf]at hg;exact⟨c,R,rfl, .inr ⟨rfl,hg.2,hg.1.1,hg.1.2,rfl⟩⟩
 |false=>
  rw[Ca];unfold escC;cases hg2:decide (32<c.toNat)&&decide (c.toNat<127)&& !digB c&& !alB c with
  |true=>
   refine⟨92,c::R,rfl, .inl ⟨rfl,?_⟩⟩;have:c≠10:=by rintro rfl;revert hg2;decide
   unfold escS;rw[show atS (92::c::R) 1=c from rfl,Ia.2 this];rfl
  |false=> obtain⟨d,t,e,hd,h10⟩:=jK (n:=c.toNat) (Ob c) ([32]++R);refine⟨92,_,by rw[Ca,Db,Na], .inl ⟨rfl,?_⟩⟩;rw[e];unfold escS;rw[show atS (92::d::t) 1=d from rfl,h10];rfl
theorem aS{d:UInt8}(h:letB d=true)(h2:digB d=false):fstB d=true\/d=45:=by unfold letB at h;rw[h2,Nf,Pd,Jb]at h;exact h
theorem CZ{d:UInt8}{t:Str}(hd:d=92)(h:escS (d::t)=true):nmS (d::t)=true:=by subst hd;unfold nmS;rw[show atS (92::t) 0=92 from rfl,Ja (by decide),h,Cf]
theorem wm{l:Str}(h:l≠[]):nmS (Z8 l)=true:=by
 cases l with
 |nil=>exact absurd rfl h
 |cons c r=>
  unfold Z8 encW;obtain⟨d,t,e,hd⟩:=FE (dash:=(c::r:Str)==[45]) (k:=Z5 (c::r)) (by unfold Z5;split<;>omega) c (encW ((c::r:Str)==[45]) (Z5 (c::r) - 1) r);rw[e];rcases hd with⟨h1,h2⟩|⟨rfl,h2,h3,h4,h5⟩
  ·exact CZ h1 h2
  ·rcases aS h3 h4 with h6|rfl
   ·by_cases h45:d=45
    ·subst h45;exact absurd h6 (by decide)
    ·unfold nmS;rw[show atS (d::t) 0=d from rfl,Ja (by rw[Jb];exact h45),h6,xe]
   ·have hr:r≠[]:=by rintro rfl;exact absurd h2 (by decide)
    cases r with
    |nil=>exact absurd rfl hr
    |cons c2 r2=>
     have hf:Z5 (45::c2::r2)=2:=rfl;rw[hf]at h5;obtain⟨d2,t2,e2,hd2⟩:=FE (dash:=(45::c2::r2:Str)==[45]) (k:=2 - 1) (by omega) c2 (encW ((45::c2::r2:Str)==[45]) (2 - 1 - 1) r2);have ht:t=d2::t2:=by rw[h5,encW,e2]
     rw[ht];unfold nmS;rw[show atS (45::d2::t2) 0=45 from rfl,La (show((45:UInt8)==45)=true from rfl),show atS (45::d2::t2) 1=d2 from rfl,show(45::d2::t2:Str).drop 1=d2::t2 from rfl];rcases hd2 with⟨_,h7⟩|⟨_,_,h8,h9,_⟩
     ·rw[h7,Cf]
     ·rcases aS h8 h9 with h10|rfl
      ·rw[h10];rfl
      ·simp
theorem QV(m:UInt8):zW m []=(some [],[]):=by rw[zW]
theorem Qo(m c:UInt8)(r:Str):zW m (c::r)=if c==m then(some [],r)
  else if c==10 then(none,c::r)
  else if c==92 then
   (if r.isEmpty then(some [],[])
   else if atS r 0==10 then zW m (r.drop 1)
   else((zW m (zq r).2).1.map ((zq r).1++ ·),(zW m (zq r).2).2))
  else((zW m r).1.map (c:: ·),(zW m r).2):=by rw[zW]
theorem RF(m:UInt8)(l:Str):(zW m l).2<:+l:=by
 match l with
 |[]=>rw[QV];exact Ed _
 |c::r=>
  rw[Qo];have hr:=He c r;split
  ·exact hr
  ·split
   ·exact Ed _
   ·split
    ·split
     ·exact Hg
     ·split
      ·exact(RF m (r.drop 1)).trans ((Hf 1 r).trans hr)
      ·have:=zS r;exact(RF m (zq r).2).trans ((Zg r).trans hr)
    ·exact(RF m r).trans hr
termination_by l.length
decreasing_by
 all_goals first|(have:=zS r;simp only[Fa];omega)|(simp only[Fa,Gc];omega)
theorem Xy(a b:Str)(x:Option Str):(x.map (b++ ·)).map (a++ ·)=x.map ((a++b)++ ·):=by
 cases x with
 |none=>rfl
 |some t=>show some (a++(b++t))=some ((a++b)++t);rw[Na]
theorem ME(a:Str)(b:UInt8)(x:Option Str):(x.map (b:: ·)).map (a++ ·)=x.map ((a++[b])++ ·):=Xy a [b] x
def Gl:Option Str->zb
 |some t=>⟨5,t,0,[],false⟩
 |none=>⟨6,[],0,[],false⟩
theorem zEw{s q:Str}{m:UInt8}(hs:s.length<=big)(hm:m::q<:+s):qJ (sr s (m::q))=some (Gl (zW m q).1,sr s (zW m q).2):=by
 have hb:big=4194304:=rfl;have hq:=Zb hm;unfold qJ;simp only[ze,yh hs hm,Aa,Ar,Pi hs hm]
 let res:LX (za×zb×List UInt8) (zb×za):=match(zW m q).1 with
  |some t=> .out (sr s (zW m q).2,⟨0,[],0,[],false⟩,t)
  |none=> .ret (⟨6,[],0,[],false⟩,sr s (zW m q).2)
 rw[Gn (r:=res)]
 ·show LX.go res _=_;cases h:(zW m q).1 with
  |some t=>simp only[res,h];rfl
  |none=>simp only[res,h];rfl
 refine ZM (fun z=> ∃(p acc:Str),z=(sr s p,⟨0,[],0,[],false⟩,acc)/\p<:+s/\acc.length+4*p.length<=4*s.length/\(zW m q).1=(zW m p).1.map (acc++ ·)/\(zW m q).2=(zW m p).2) (fun z=>s.length - z.1.at_.toNat) _ ?_
  ⟨q,[],rfl,hq,by have:=hq.length_le;rw[Ib];omega,by simp,rfl⟩
 rintro _ ⟨p,acc,rfl,hp,hl,he1,he2⟩;simp only[yh hs hp,Aa,Pq,BN,TY];cases p with
 |nil=> refine .inr (.inl ⟨_,rfl,?_⟩);rw[QV]at he1 he2;simp only[res,he1,he2,Fb,ja]
 |cons c t=>
  have hlen:=hp.length_le;rw[Fa]at hlen hl;have ht:=Zb hp;rw[Qo]at he1 he2;rw[show(c::t).isEmpty=false from rfl,Ca,Ar,show((c.toNat:Int)==(m.toNat:Int))=(c==m)from QA c m,show atS (c::t) 0=c from rfl,Pi hs hp];have mono: ∀u:Str,u.length<=t.length->u<:+s->s.length - beh s u<s.length - beh s (c::t):=by intro u hu hus;unfold beh;rw[Fa];omega
  cases hcm:c==m with
  |true=> rw[hcm,La rfl]at he1 he2;refine .inr (.inl ⟨_,by rw[Da],?_⟩);simp only[res,he1,he2,Fb,ja]
  |false=>
   rw[hcm,Ja (by decide)]at he1 he2;rw[Ca];cases h10:c==10 with
   |true=> rw[h10,La rfl]at he1 he2;refine .inr (.inr ⟨_,by rw[Da],?_⟩);simp only[res,he1,he2,Option.map_none]
   |false=>
    rw[h10,Ja (by decide)]at he1 he2;rw[Ca];cases h92:c==92 with
    |false=> rw[h92,Ja (by decide)]at he1 he2;simp only[zw,Ca,Aa,Pe,dz];rw[zl (xh (by omega))];exact .inl ⟨_,rfl,⟨t,acc++[c],rfl,ht,by rw[Ba,Va];omega,by rw[he1,ME],he2⟩,mono t (by omega) ht⟩
    |true=>
     rw[h92,La rfl]at he1 he2;simp only[zw,Da,Fx hs hp,Aa,Oc];have hpk:pk (c::t) 1=pk t 0:=rfl;rw[hpk,Pq];cases t with
     |nil=>
      rw[show([]:Str).isEmpty=true from rfl,La rfl]at he1 he2;have hbe:beh s [c]=s.length - 1:=rfl;have h2:(if((s.length:Int)<w64 ((beh s [c]:Int)+2))then(s.length:Int)else w64 ((beh s [c]:Int)+2))=((beh s []:Nat):Int):=by rw[zJ (by omega) (by omega),La (by omega)];unfold beh;rw[Ib];omega
      refine .inl ⟨(sr s [],⟨0,[],0,[],false⟩,acc),?_,⟨[],acc,rfl,Hg,by rw[Ib];omega,by rw[he1,QV],by rw[he2,QV]⟩,mono [] (by simp) Hg⟩;simp only[List.isEmpty_nil,Da,Yb,Ca,Aa];rw[h2]
     |cons d u=>
      rw[show(d::u).isEmpty=false from rfl,Ja (by decide)]at he1 he2;simp only[show(d::u).isEmpty=false from rfl,Lb,Da,Ca,Aa,BN];cases hd:atS (d::u) 0==10 with
      |true=>
       rw[hd,La rfl]at he1 he2;have hu:=Zb ht;rw[Fa]at hlen hl;have hbe:beh s (c::d::u)=s.length - (u.length+1+1):=by unfold beh;rw[Fa,Fa]
       have h2:(if((s.length:Int)<w64 ((beh s (c::d::u):Int)+2))then(s.length:Int)else w64 ((beh s (c::d::u):Int)+2))=((beh s u:Nat):Int):=by rw[zJ (by omega) (by omega),Ja (by omega)];unfold beh;rw[Fa,Fa];omega
       refine .inl ⟨(sr s u,⟨0,[],0,[],false⟩,acc),?_,⟨u,acc,rfl,hu,by omega,he1,he2⟩,mono u (by rw[Fa];omega) hu⟩;simp only[Da];rw[h2]
      |false=> rw[hd,Ja (by decide)]at he1 he2;have h4:=Nr (d::u);have h5:=zS (d::u);refine .inl ⟨(sr s (zq (d::u)).2,⟨0,[],0,[],false⟩,acc++(zq (d::u)).1),?_,⟨_,_,rfl,(Zg _).trans ht,by rw[Ba];omega,by rw[he1,Xy],he2⟩,mono _ h5 ((Zg _).trans ht)⟩;simp only[Ca,nK hs hp (show acc.length<=1000000000 by omega),Aa]
theorem kY{n:Nat}(h0:n≠0)(h:n<16777216):qb (w32 (n:Int))=some (Nh n):=by
 have a1:Zc 0 1 1=true:=xh (by omega);have a2:Zc 0 2 1=true:=xh (by omega);have a3:Zc 0 3 1=true:=xh (by omega);have a4:Zc 0 4 1=true:=xh (by omega);have a80:(128+n%64)<256:=by omega
 have m80:(128+n / 64%64)<256:=by omega
 have k80:(128+n / 4096%64)<256:=by omega
 unfold qb qh Nh;simp only[Po (show n<2147483648 by omega),OQ (show n<2147483648 by omega),ze,shr6,GY,FY,aP,ZB a80,ZB m80,ZB k80,Aa];by_cases h1:n<128
 ·rw[Ha (by omega),Da,cu,ZB (by omega),Aa,zl a1,Ja (by omega),La h1,Cg (by omega)]
 ·rw[Xa (by omega),Ca];by_cases h2:n<2048
  ·rw[Ha (by omega),Da,YY (by omega),ZB (by omega)];simp only[Aa];rw[zl a2,Ja (by omega),Ja (by omega),La h2];rfl
  ·rw[Xa (by omega),Ca];by_cases h3:n<55296
   ·rw[Ha (by omega),Da,zh];simp only[Da];rw[uG (by omega),ZB (by omega)];simp only[Aa];rw[zl a3,Ja (by omega),Ja (by omega),Ja (by omega),La (by omega)];rfl
   ·rw[Xa (by omega),Ca,zh];simp only[VZ];by_cases h4:57343<n/\n<65536
    ·rw[Ha (by omega),Ha (by omega),Oc,Da,uG (by omega),ZB (by omega)];simp only[Aa];rw[zl a3,Ja (by omega),Ja (by omega),Ja (by omega),La (by omega)];rfl
    ·rw[show(decide ((57343:Int)<(n:Int))&&decide ((n:Int)<=65535))=false by rw[Kg];simp only[Ag];omega,Ca];by_cases h5:65535<n/\n<=1114111
     ·rw[Ha (by omega),Ha (by omega),Oc,Da,XY (by omega),ZB (by omega)];simp only[Aa];rw[zl a4,Ja (by omega),Ja (by omega),Ja (by omega),Ja (by omega)];rfl
     ·rw[show(decide ((n:Int)>65535)&&decide ((n:Int)<=1114111))=false by rw[Kg];simp only[Ag];omega,Ca,zl a3,La (by omega)];rfl
theorem FU:qb 65533=some Wl:=by have h:=kY (n:=65533) (by omega) (by omega);rw[Po (by omega)]at h;exact h
theorem Y4{s l:Str}{c:UInt8}(hs:s.length<=big)(hr:c::l<:+s):
  ZV (sr s (c::l))=some (sr s (zq l).2,(zq l).1):=by
 have hl:=Zb hr;unfold ZV;simp only[Pi hs hr,ze,yh hs hl,Aa,Pq];cases l with
 |nil=> rw[show([]:Str).isEmpty=true from rfl,Da,FU];rfl
 |cons d r=>
  rw[show(d::r).isEmpty=false from rfl,Ca,fG];simp only[Aa,wu];cases hx:qL (atS (d::r) 0)with
  |false=>
   rw[Lb,Da,Ar,dz];simp only[Aa,Pi hs hl];rw[zl (xh (n:=0) (by omega))];have:zq (d::r)=([d],r):=by show(if qL d then _ else _)=_;rw[Ja (by rw[show qL d=false from hx];decide)]
   rw[this]
  |true=>
   rw[Yb,Ca];have he:zq (d::r)=(Nh (hexes 6 0 (d::r)).1,unsp (hexes 6 0 (d::r)).2):=by show(if qL d then _ else _)=_;rw[La (show qL d=true from hx)]
   rw[he];rw[Zd (tQ (l:=d::r) hl (fun n i q hq hn hi=> ?_))]
   ·have hq:(hexes 6 0 (d::r)).2<:+s:=(AA 6 0 _).trans hl;have hlt:=WE 6 0 (d::r);rw[show 16 ^ 6*(0+1)=16777216 from rfl]at hlt;simp only[yh hs hq,Aa,Vy];have hj:(bif spB (atS (hexes 6 0 (d::r)).2 0)then some (LX.out (((hexes 6 0 (d::r)).1:Int),(⟨s,w64 ((beh s (hexes 6 0 (d::r)).2:Int)+1)⟩:za)))else some (LX.out (((hexes 6 0 (d::r)).1:Int),sr s (hexes 6 0 (d::r)).2)):Option (LX (Int×za) (za×List UInt8)))
      =some (LX.out (((hexes 6 0 (d::r)).1:Int),sr s (unsp (hexes 6 0 (d::r)).2))):=by
     cases hh:(hexes 6 0 (d::r)).2 with
     |nil=>rfl
     |cons e t=> rw[hh]at hq;rw[show atS (e::t) 0=e from rfl,Pi hs hq];show _=some (LX.out (_,sr s (if spB e then t else e::t)));cases spB e<;>rfl
    rw[hj,zh];simp only;by_cases h0:(hexes 6 0 (d::r)).1=0
    ·rw[h0,show((((0:Nat):Int))==0)=true from rfl,Da,zh];simp only[Po (show 65533<2147483648 by omega),show w32 (65533:Int)=65533 from Po (n:=65533) (by omega),FU,Aa];rfl
    ·rw[show(((hexes 6 0 (d::r)).1:Int)==0)=false by rw[Ia];omega,Ca,zh];simp only[kY h0 hlt,Aa]
   ·simp only[yh hs hq,Aa,fG,wu];have hb6:decide ((i:Int)<6)=decide (i<6):=by rw[Yf];omega
    rw[hb6];cases decide (i<6)with
    |false=>rfl
    |true=>
     rw[Da,Xb];cases hx2:qL (atS q 0)with
     |false=>rfl
     |true=>
      cases q with
      |nil=>exact absurd hx2 (by decide)
      |cons e t=>
       have hI:hexI (atS (e::t) 0)=(hexN (atS (e::t) 0):Int):=by unfold hexI;rw[La hx2]
       rw[hI,cZ hn (Cz hx2),Pi hs hq,zJ (by omega) (by omega)];rfl
theorem Bv:badS []=[]:=by rw[badS]
theorem Rv(c:UInt8)(r:Str):badS (c::r)=if c==41 then r else if escS (c::r)then badS (zq r).2 else badS r:=by rw[badS]
theorem gD(l:Str):badS l<:+l:=by
 match l with
 |[]=>rw[Bv];exact Ed _
 |c::r=>
  rw[Rv];have hr:=He c r;split
  ·exact hr
  ·split
   ·have:=zS r;exact(gD (zq r).2).trans ((Zg r).trans hr)
   ·exact(gD r).trans hr
termination_by l.length
decreasing_by
 all_goals first|(have:=zS r;simp only[Fa];omega)|(simp only[Fa];omega)
theorem zFu{s t:Str}{c:UInt8}(hs:s.length<=big)(h:c::t<:+s):geti s (w64 ((beh s t:Int) - 1))=some c:=by
 have hb:big=4194304:=rfl;have h1:=h.length_le;rw[Fa]at h1;have hd:=Hr h;have e1:beh s t=beh s (c::t)+1:=by unfold beh;rw[Fa];omega
 have hlt:beh s (c::t)<s.length:=by unfold beh;rw[Fa];omega
 rw[zJ (by omega) (by omega),show(beh s t:Int) - 1=((beh s (c::t):Nat):Int) by omega,qA hlt];rw[Rb hlt]at hd;injection hd with hd _;rw[hd]
theorem badR{s q:Str}(hs:s.length<=big)(hq:q<:+s):Z9 (sr s q)=some (⟨8,[],0,[],false⟩,sr s (badS q)):=by
 unfold Z9;refine JK ?_;refine ZM (fun z=> ∃(p:Str),z=(sr s p,(⟨0,[],0,[],false⟩:zb))/\p<:+s/\badS q=badS p) (fun z=>s.length - z.1.at_.toNat) _ ?_ ⟨q,rfl,hq,rfl⟩;rintro _ ⟨p,rfl,hp,he⟩;simp only[ze,yh hs hp,Aa,Pq];cases p with
 |nil=>exact .inr (.inr ⟨_,rfl,by rw[he,Bv]⟩)
 |cons c t=>
  have hlen:=hp.length_le;rw[Fa]at hlen;have ht:=Zb hp;have mono: ∀u:Str,u.length<=t.length->u<:+s->s.length - beh s u<s.length - beh s (c::t):=by intro u hu hus;unfold beh;rw[Fa];omega
  rw[show(c::t).isEmpty=false from rfl,Ca,XJ hs hp];rw[Rv]at he;simp only[Aa];cases hesc:escS (c::t)with
  |true=>
   have h92:(c==41)=false:=by unfold escS at hesc;rw[Ga,Jb]at hesc;rw[show c=92 from hesc.1];decide
   rw[hesc,h92,Ja (by decide),La rfl]at he;rw[Da,Y4 hs hp];exact .inl ⟨_,rfl,⟨_,rfl,(Zg t).trans ht,he⟩,mono _ (zS t) ((Zg t).trans ht)⟩
  |false=>
   rw[Ca,Pi hs hp,zFu hs hp];simp only[Aa];rw[show((c.toNat:Int)==41)=(c==41)from QA c 41];rw[hesc,Ja (by decide: ¬(false=true))]at he;cases h41:c==41 with
   |true=> rw[h41,La rfl]at he;exact .inr (.inr ⟨_,by rw[Da],by rw[he]⟩)
   |false=> rw[h41,Ja (by decide)]at he;exact .inl ⟨_,by rw[Ca],⟨t,rfl,ht,he⟩,mono t (Ya _) ht⟩
theorem xm:urlS []=(some [],[]):=by rw[urlS]
theorem Q0(c:UInt8)(r:Str):urlS (c::r)=if c==41 then(some [],r)
  else if spB c then(match past spB r with
   |[]=>(some [],[])
   |d::r'=>if d==41 then(some [],r')else(none,badS (d::r')))
  else if c==34||c==39||c==40||unB c||c==92&& !escS (c::r)then(none,badS (c::r))
  else if c==92 then((urlS (zq r).2).1.map ((zq r).1++ ·),(urlS (zq r).2).2)
  else((urlS r).1.map (c:: ·),(urlS r).2):=by rw[urlS];cases past spB r<;>rfl
theorem oH(l:Str):(urlS l).2<:+l:=by
 match l with
 |[]=>rw[xm];exact Ed _
 |c::r=>
  rw[Q0];have hr:=He c r;split
  ·exact hr
  ·split
   ·have hp:=(Cr spB r).trans hr;cases hq:past spB r with
    |nil=>exact Hg
    |cons d r'=>
     rw[hq]at hp;simp only;split
     ·exact(He d r').trans hp
     ·exact(gD _).trans hp
   ·split
    ·exact gD _
    ·split
     ·have:=zS r;exact(oH (zq r).2).trans ((Zg r).trans hr)
     ·exact(oH r).trans hr
termination_by l.length
decreasing_by
 all_goals first|(have:=zS r;simp only[Fa];omega)|(simp only[Fa];omega)
def Vi:Option Str->zb
 |some t=>⟨7,t,0,[],false⟩
 |none=>⟨8,[],0,[],false⟩
theorem zEP(c:UInt8): ∃y,zw (!(bif bif bif bif (c.toNat:Int)==34 then true else(c.toNat:Int)==39 then true else(c.toNat:Int)==40 then true else decide ((c.toNat:Int)<=8)then true else(c.toNat:Int)==11)) (Z0 ((c.toNat:Int),14,31)) (default:Bool)=some y/\
  (bif bif bif bif bif bif (c.toNat:Int)==34 then true else(c.toNat:Int)==39 then true else(c.toNat:Int)==40 then true else decide ((c.toNat:Int)<=8)then true else(c.toNat:Int)==11 then true else y then true else(c.toNat:Int)==127)=(c==34||c==39||c==40||unB c):=by
 have key: ∀n:Nat,n<256->((zw (!(bif bif bif bif (n:Int)==34 then true else(n:Int)==39 then true else(n:Int)==40 then true else decide ((n:Int)<=8)then true else(n:Int)==11)) (Z0 ((n:Int),14,31)) (default:Bool)).elim false fun y=>
  (bif bif bif bif bif bif (n:Int)==34 then true else(n:Int)==39 then true else(n:Int)==40 then true else decide ((n:Int)<=8)then true else(n:Int)==11 then true else y then true else(n:Int)==127)==(UInt8.ofNat n==34||UInt8.ofNat n==39||UInt8.ofNat n==40||unB (UInt8.ofNat n)))=true:=by decide+kernel
 have h:=key c.toNat (Ob c);rw[Mc]at h;cases hc:zw (!(bif bif bif bif (c.toNat:Int)==34 then true else(c.toNat:Int)==39 then true else(c.toNat:Int)==40 then true else decide ((c.toNat:Int)<=8)then true else(c.toNat:Int)==11)) (Z0 ((c.toNat:Int),14,31)) (default:Bool)with
 |none=>rw[hc]at h;cases h
 |some y=> rw[hc]at h;exact⟨y,rfl,Jb.1 h⟩
theorem vM(c:UInt8)(t:Str):(pk (c::t) 0== -1)=false:=by rw[Pq];rfl
theorem urlR{s q0:Str}(hs:s.length<=big)(hq0:q0<:+s):QJ (sr s q0)=some (Vi (urlS (past spB q0)).1,sr s (urlS (past spB q0)).2):=by
 have hb:big=4194304:=rfl;unfold QJ;rw[kC hs hq0];simp only[ze,Aa];have hq:=Ll spB hq0;generalize past spB q0=q at hq ⊢;refine JK ?_;refine ZM (fun z=> ∃(p acc:Str),z=(sr s p,(⟨0,[],0,[],false⟩:zb),acc)/\p<:+s/\acc.length+4*p.length<=4*s.length/\(urlS q).1=(urlS p).1.map (acc++ ·)/\(urlS q).2=(urlS p).2) (fun z=>s.length - z.1.at_.toNat) _ ?_
  ⟨q,[],rfl,hq,by have:=hq.length_le;rw[Ib];omega,by simp,rfl⟩
 rintro _ ⟨p,acc,rfl,hp,hl,he1,he2⟩;simp only[yh hs hp,Aa,Vy];cases p with
 |nil=> refine .inr (.inr ⟨_,rfl,?_⟩);rw[xm]at he1 he2;rw[he1,he2];simp only[Fb,ja,Vi]
 |cons c t=>
  have hlen:=hp.length_le;rw[Fa]at hlen hl;have ht:=Zb hp;have mono: ∀u:Str,u.length<=t.length->u<:+s->s.length - beh s u<s.length - beh s (c::t):=by intro u hu hus;unfold beh;rw[Fa];omega
  rw[Q0]at he1 he2;rw[show atS (c::t) 0=c from rfl];cases hsp:spB c with
  |true=>
   have h41:(c==41)=false:=by rw[Ia];rintro rfl;exact absurd hsp (by decide)
   rw[h41,hsp,Ja (by decide),La rfl]at he1 he2;have hps:past spB (c::t)=past spB t:=by rw[past,La hsp]
   have hpt:past spB t<:+s:=Ll spB ht;rw[Da,kC hs hp,hps];simp only[Aa,yh hs hpt];cases hpp:past spB t with
   |nil=> rw[hpp]at he1 he2;refine .inr (.inr ⟨_,rfl,?_⟩);simp only at he1 he2;rw[he1,he2];simp only[Fb,ja,Vi]
   |cons d r'=>
    rw[hpp]at he1 he2 hpt;simp only at he1 he2;unfold bne;rw[yM,vM,show atS (d::r') 0=d from rfl];cases hd:d==41 with
    |true=> rw[hd,La rfl]at he1 he2;refine .inr (.inr ⟨_,?_,rfl⟩);simp only[Yb,Ca,zh,vM,yM,show atS (d::r') 0=d from rfl,hd,Da,Pi hs hpt];rw[he1,he2];simp only[Fb,ja,Vi]
    |false=> rw[hd,Ja (by decide)]at he1 he2;refine .inr (.inr ⟨_,?_,rfl⟩);simp only[Lb,Da,badR hs hpt,Aa,zrN];rw[he1,he2];rfl
  |false=>
   rw[Ca,zh];simp only[vM,yM,show atS (c::t) 0=c from rfl,Ca,Pi hs hp];cases h41:c==41 with
   |true=> rw[h41,La rfl]at he1 he2;refine .inr (.inr ⟨_,by rw[Da],?_⟩);rw[he1,he2];simp only[Fb,ja,Vi]
   |false=>
    rw[h41,Ja (by decide),hsp,Ja (by decide)]at he1 he2;rw[Ca];obtain⟨y,hy1,hy2⟩:=zEP c;rw[Ar,hy1];simp only[Aa];rw[hy2];cases hun:(c==34||c==39||c==40||unB c)with
    |true=> rw[hun,xe,La rfl]at he1 he2;refine .inr (.inr ⟨_,?_,rfl⟩);rw[Da,badR hs hp];simp only[Aa];rw[he1,he2];rfl
    |false=>
     rw[hun,Od]at he1 he2;rw[Ca];unfold bne;rw[show((c.toNat:Int)==92)=(c==92)from QA c 92];cases h92:c==92 with
     |false=> rw[h92,Yc,Ja (by decide),Ja (by decide)]at he1 he2;rw[Lb,Da,dz];simp only[Aa];rw[zl (xh (by omega))];exact .inl ⟨_,rfl,⟨t,acc++[c],rfl,ht,by rw[Ba,Va];omega,by rw[he1,ME],he2⟩,mono t (Ya _) ht⟩
     |true=>
      rw[h92,Xb]at he1 he2;rw[Yb,Ca,XJ hs hp];simp only[Aa];cases hesc:escS (c::t)with
      |true=> rw[hesc,Yb,Ja (by decide),La rfl]at he1 he2;have h4:=Nr t;have h5:=zS t;refine .inl ⟨(sr s (zq t).2,⟨0,[],0,[],false⟩,acc++(zq t).1),?_,⟨_,_,rfl,(Zg _).trans ht,by rw[Ba];omega,by rw[he1,Xy],he2⟩,mono _ h5 ((Zg _).trans ht)⟩;simp only[Da,nK hs hp (show acc.length<=1000000000 by omega),Aa]
      |false=> rw[hesc,Lb,La rfl]at he1 he2;refine .inr (.inr ⟨_,?_,rfl⟩);rw[Ca,badR hs hp];simp only[Aa];rw[he1,he2];rfl
def hdB(b:UInt8):Bool:=b==45||fstB b||b==92
theorem Nt{q:Str}(h:nmS q=true):hdB (atS q 0)=true:=by
 unfold nmS at h;unfold hdB;cases h45:atS q 0==45 with
 |true=>rfl
 |false=>
  rw[h45,Ja (by decide),Pd]at h;rcases h with h|h
  ·rw[h];rfl
  ·unfold escS at h;rw[Ga]at h;rw[h.1,Cf]
theorem Cy{b:UInt8}(h:hdB b=true):spB b=false/\(b==34)=false/\(b==39)=false/\(b==35)=false/\(b==64)=false/\(b==47)=false/\(b==60)=false/\(b==43)=false/\(b==46)=false/\digB b=false/\b≠0:=by
 have: ∀n:Nat,n<256->hdB (UInt8.ofNat n)=true->spB (UInt8.ofNat n)=false/\(UInt8.ofNat n==34)=false/\(UInt8.ofNat n==39)=false/\(UInt8.ofNat n==35)=false/\(UInt8.ofNat n==64)=false/\(UInt8.ofNat n==47)=false/\(UInt8.ofNat n==60)=false/\(UInt8.ofNat n==43)=false/\(UInt8.ofNat n==46)=false/\digB (UInt8.ofNat n)=false/\UInt8.ofNat n≠0:=by decide+kernel
 have:=this b.toNat (Ob b);rw[Mc]at this;exact this h
theorem aY{q:Str}(h:nmS q=true):nbS q=false:=by
 obtain⟨_,_,_,_,_,_,_,h43,h46,hdg,_⟩:=Cy (Nt h);unfold nbS unsign ag;rw[h43,Od];cases h45:atS q 0==45 with
 |false=> rw[Ja (by decide)];unfold undot;rw[h46,Ja (by decide),hdg]
 |true=>
  rw[La rfl];unfold nmS at h;rw[h45,La rfl]at h;have h1:hdB (atS q 1)=true:=by
   unfold hdB;cases hf:fstB (atS q 1)with
   |true=>simp
   |false=>
    cases h4:atS q 1==45 with
    |true=>rfl
    |false=> rw[hf,h4,Od,Od]at h;unfold escS at h;rw[Ga,QQ]at h;rw[h.1];rfl
  obtain⟨_,_,_,_,_,_,_,_,g46,gdg,_⟩:=Cy h1;unfold undot;rw[QQ,g46,Ja (by decide),QQ,gdg]
theorem nY{s r:Str}:(decide ((0:Int)<=(beh s r:Int))&&decide ((beh s r:Int)<=(s.length:Int)))=true:=by have:=Ni s r;rw[Ha (by omega),Ha (by omega)];rfl
theorem jH{s r:Str}(hr:r<:+s):List.drop ((beh s r:Int)).toNat s=r:=by rw[Ua,Hr hr]
theorem Ex{a b:UInt8}{m t:Str}(h:(b==a)=false):(a::m).isPrefixOf (b::t)=false:=by
 rw[List.isPrefixOf];have:(a==b)=false:=by rw[Ia]at h ⊢;exact fun e=>h e.symm
 rw[this];rfl
theorem zEt{a:UInt8}{m q:Str}(h0:a≠0)(h:(atS q 0==a)=false):(a::m).isPrefixOf q=false:=by
 cases q with
 |nil=>rfl
 |cons b t=>exact Ex h
def capF(cap:Nat):Nat->Str->Nat
 |n,[]=>n
 |n,c::r=>capF cap (min cap (decN n c)) r
theorem fK(cap:Nat): ∀(l:Str) (n:Nat) (c:UInt8),capF cap n (l++[c])=min cap (decN (capF cap n l) c)
 |[],_,_=>rfl
 |d::l,n,c=>by show capF cap (min cap (decN n d)) (l++[c])=_;rw[fK cap l];rfl
theorem Gm(cap:Nat): ∀(l:Str) (n:Nat),n<=cap->capF cap n l<=cap
 |[],_,h=>h
 |c::l,n,_=>Gm cap l _ (Nat.min_le_left ..)
theorem dQ {R:Type} {step:Int×Int->Option (LO (Int×Int) Int R)} {l:Str} {cap:Nat} (hl:l.all digB=true) (hn:l.length<=100000) (hc:cap<=1000000000000)
  (h1: ∀(v:Int) (i:Nat) (hi:i<l.length),step (v,(i:Int))=some (.again (if(cap:Int)<w64 (w64 (10*v)+w64 (wu8 ((l[i].toNat:Int) - 48)))then(cap:Int)else w64 (w64 (10*v)+w64 (wu8 ((l[i].toNat:Int) - 48))),w64 ((i:Int)+1))))
  (h2: ∀v:Int,step (v,(l.length:Int))=some (.out v)):bg step (0,0)=some (.out ((capF cap 0 l:Nat):Int)):=by
 refine ZM (fun s=> ∃i:Nat,i<=l.length/\s=(((capF cap 0 (l.take i):Nat):Int),(i:Int))) (fun s=>l.length - s.2.toNat) _ ?_ ⟨0,by omega,rfl⟩;rintro _ ⟨i,hi,rfl⟩;rcases Tc i l.length with h|h
 ·refine .inl ⟨_,h1 _ i h,⟨i+1,by omega,?_⟩,by simp only;rw[zJ (by omega) (by omega)];omega⟩;have hd:=Ur (ma.1 hl _ (De h));have ht:capF cap 0 (l.take (i+1))=min cap (decN (capF cap 0 (l.take i)) l[i]):=by rw[mf h,fK]
  have hb:=Gm cap (l.take i) 0 (Sb _);have hu:wu8 ((l[i].toNat:Int) - 48)=((l[i].toNat - 48:Nat):Int):=by show IntKind.u8.wrap _=_;rw[IntKind.wrap_u8];omega
  unfold decN at ht;rw[hu,zJ (n:=10*_) (by omega) (by omega),zJ (n:=((l[i].toNat - 48:Nat):Int)) (by omega) (by omega),zJ (n:=(i:Int)+1) (by omega) (by omega),zJ (by omega) (by omega)];refine Prod.ext ?_ ?_
  ·grind
  ·grind
 grind
theorem wJ: ∀(k n:Nat),n<=jg->mh k n<=jg
 |0,_,h=>h
 |k+1,n,h=>by
  unfold mh;split
  ·exact h
  ·exact wJ k _ (Nat.min_le_left ..)
theorem TU {R:Type} {step:Int×Int->Option (LO (Int×Int) Int R)} {v:Nat} {p:Int} (hp:p<=4000000) (hp': -4000000<=p) (hv:v<=1000000000000)
  (h: ∀(a b:Int),step (a,b)=bif bif bif decide (a>0)then decide (b>0)else false then decide (b<1000000000000)else false then some (.again (w64 (a - 1),if 1000000000000<w64 (10*b)then 1000000000000 else w64 (10*b)))else some (.out b)):
  bg step (p,(v:Int))=some (.out ((mh p.toNat v:Nat):Int)):=by
 have hm:jg=1000000000000:=rfl;refine ZM (fun s=> ∃(a:Int) (b:Nat),s=(a,(b:Int))/\a<=4000000/\ -4000000<=a/\b<=1000000000000/\mh a.toNat b=mh p.toNat v) (fun s=>s.1.toNat) _ ?_ ⟨p,v,rfl,hp,hp',hv,rfl⟩;rintro _ ⟨a,b,rfl,ha,ha',hb,he⟩;rw[h];by_cases h1:a>0
 ·obtain⟨k,hk⟩: ∃k,a.toNat=k+1:=⟨a.toNat - 1,by omega⟩;rw[hk,mh]at he;rw[Ha h1,Da];by_cases h2:b=0\/jg<=b
  ·grind
  ·rw[Ja h2]at he;have e1:decide (((b:Nat):Int)>0)=true:=Ha (by omega);have e2:decide (((b:Nat):Int)<1000000000000)=true:=Ha (by omega);rw[e1,Da,e2,Da];refine .inl ⟨_,rfl,⟨a - 1,min jg (10*b),?_,by omega,by omega,by omega,?_⟩,by simp only;rw[zJ (by omega) (by omega)];omega⟩
   ·rw[zJ (by omega) (by omega),zJ (by omega) (by omega)]
    grind
   grind
 ·rw[Xa h1,Ca];refine .inr (.inl ⟨_,rfl,?_⟩);rw[<-he,show a.toNat=0 by omega];rfl
structure NumP where
 sg:Str
 D:Str
 F:Option Str
 X:Option (UInt8×Str×Str)
def dotS:Option Str->Str
 |none=>[]
 |some f=>46::f
def expT:Option (UInt8×Str×Str)->Str
 |none=>[]
 |some (e,s,x)=>e::(s++x)
def NumP.txt(n:NumP):Str:=n.sg++(n.D++(dotS n.F++expT n.X))
def sgB(s:Str):Bool:=s==[]||s==[43]||s==[45]
def NumP.ok(n:NumP):Bool:=sgB n.sg&&n.D.all digB&&(match n.F with|none=> !n.D.isEmpty|some f=> !f.isEmpty&&f.all digB)&&
 (match n.X with|none=>true|some (e,s,x)=>(e==101||e==69)&&sgB s&& !x.isEmpty&&x.all digB)
def expV:Option (UInt8×Str×Str)->Int
 |none=>0
 |some (_,s,x)=>if s==[45]then -((capF 1048576 0 x:Nat):Int)else((capF 1048576 0 x:Nat):Int)
def thoV(A:Str)(p:Int):Nat:=mh p.toNat (capF jg 0 (if p<0 then A.take ((A.length:Int)+p).toNat else A))
def NumP.val(n:NumP):Int:=
 let v:=thoV (n.D++n.F.getD []) (3+expV n.X - ((n.F.getD []).length:Int))
 if n.sg==[45]then -(v:Int)else(v:Int)
theorem Fv{s:Str}(h:sgB s=true):s=[]\/s=[43]\/s=[45]:=by
 unfold sgB at h
 grind
theorem PO{s q:Str}(h:sgB s=true)(hq: ∀c r,q=c::r->List.contains [43,45] c=false):Lib.trimLeftS (s++q) [43,45]=q:=by
 have h0:Lib.trimLeftS q [43,45]=q:=by
  unfold Lib.trimLeftS;cases q with
  |nil=>rfl
  |cons c r=>simp_all
 rcases Fv h with rfl|rfl|rfl
 ·exact h0
 ·show List.dropWhile _ (43::q)=_;rw[Og];exact h0
 ·show List.dropWhile _ (45::q)=_;rw[Og];exact h0
theorem FP{e:UInt8}(he:e=101\/e=69)(t:Str): ∀(l:Str),(l.all fun b=>digB b||b==46)=true->Lib.indexAny (l++e::t) [101,69]=(l.length:Int)
 |[],_=>by
  rw[Nc,Lib.indexAny]
  grind
 |c::l,h=>by
  rw[Sd,Ga]at h;have hc:List.contains [101,69] c=false:=by
   have: ∀n:Nat,n<256->(digB (UInt8.ofNat n)||UInt8.ofNat n==46)=true->List.contains [101,69] (UInt8.ofNat n)=false:=by decide+kernel
   have:=this c.toNat (Ob c);rw[Mc]at this;exact this h.1
  rw[Db,Lib.indexAny,hc,FP he t l h.2]
  grind
theorem KZ{l:Str}(h:l.all digB=true):(l.all fun b=>digB b||b==46)=true:=by
 grind
theorem kz{l:Str}(h: ∀b∈l,b.toNat<128):Di l=true:=by
 unfold Di
 grind
theorem zAC{l:Str}(h:Di l=true): ∀b∈l,b.toNat<128:=by
 unfold Di at h
 grind
theorem zDu{D:Str}(hD:D.all digB=true)(F:Option Str): ∃f,Lib.cut (D++dotS F) [46]=(D,F.getD [],f):=by
 unfold Lib.cut;rw[VF];cases F with
 |none=> rw[show dotS none=[]from rfl,ja,YI _ hD,Ja (by decide)];simp_all
 |some g=> rw[show dotS (some g)=46::g from rfl,aI _ _ hD,La (by omega)];simp_all
theorem BQ {D:Str} {F:Option Str} {E:Int} (hD:D.all digB=true) (hF:(F.getD []).all digB=true) (hl:D.length+(F.getD []).length<=50000) (hE:E<=2000000) (hE': -2000000<=E) (y1:UInt8) (sg:Str)
  (hy:((y1.toNat:Int)==45)=(sg==[45])) (hsh:short (D++dotS F)=true):
  (ze (cutF (D++dotS F,[46])) fun y11=>
 need (ZH y11.1.length y11.2.1.length)<|
 Za (X:=Str×Int) (
   bif decide (w64 ((3+E) - (y11.2.1.length:Int))<0)then
    need (decide (0<=(if w64 (((y11.1++y11.2.1).length:Int)+w64 ((3+E) - (y11.2.1.length:Int)))>0 then w64 (((y11.1++y11.2.1).length:Int)+w64 ((3+E) - (y11.2.1.length:Int)))else 0))&&decide ((if w64 (((y11.1++y11.2.1).length:Int)+w64 ((3+E) - (y11.2.1.length:Int)))>0 then w64 (((y11.1++y11.2.1).length:Int)+w64 ((3+E) - (y11.2.1.length:Int)))else 0)<=((y11.1++y11.2.1).length:Int)))<|
    some (LX.out (List.take (if w64 (((y11.1++y11.2.1).length:Int)+w64 ((3+E) - (y11.2.1.length:Int)))>0 then w64 (((y11.1++y11.2.1).length:Int)+w64 ((3+E) - (y11.2.1.length:Int)))else 0).toNat (y11.1++y11.2.1),w64 ((3+E) - (y11.2.1.length:Int))))
   else
    some (LX.out (y11.1++y11.2.1,w64 ((3+E) - (y11.2.1.length:Int))))) fun j12=>
 need (decide (j12.1.length<=maxLen))<|
 Zi (fun(s13:Int×Int)=>
   bif decide (s13.2<(j12.1.length:Int))then
    need (decide (0<=s13.2)&&decide (s13.2<(j12.1.length:Int)))<|
    ze j12.1[s13.2.toNat]? fun y14=>
    some (LO.again (if 1000000000000<w64 (w64 (10*s13.1)+w64 (wu8 ((y14.toNat:Int) - 48)))then 1000000000000 else w64 (w64 (10*s13.1)+w64 (wu8 ((y14.toNat:Int) - 48))),w64 (s13.2+1)))
   else
    some (LO.out s13.1):Int×Int->Option (LO (Int×Int) (Int) _)) (0,0) fun o15=>
 Zi (fun(s16:Int×Int)=>
   bif bif bif decide (s16.1>0)then decide (s16.2>0)else false then decide (s16.2<1000000000000)else false then
    some (LO.again (w64 (s16.1 - 1),if 1000000000000<w64 (10*s16.2)then 1000000000000 else w64 (10*s16.2)))
   else
    some (LO.out s16.2):Int×Int->Option (LO (Int×Int) (Int) _)) (j12.2,o15) fun o17=>
 Za (X:=Int) (
   bif (y1.toNat:Int)==45 then
    some (LX.out (w64 (0 - o17)))
   else
    some (LX.out o17)) fun j18=>
 some j18)=some (if sg==[45]then -((thoV (D++F.getD []) (3+E - ((F.getD []).length:Int)):Nat):Int)else((thoV (D++F.getD []) (3+E - ((F.getD []).length:Int)):Nat):Int)):=by
 obtain⟨f,hcut⟩:=zDu hD F;have t3:cutF (D++dotS F,[46])=some (D,F.getD [],f):=by unfold cutF;rw[zl (by exact hsh)];exact congrArg some hcut
 have hml:maxLen=9223372036854775807:=rfl;have hmost:jg=1000000000000:=rfl;simp only[ze,t3,Aa];generalize F.getD []=G at*;rw[zl (Zf.2 (by omega))];obtain⟨p,hp⟩: ∃p:Int,p=3+E - (G.length:Int):=⟨_,rfl⟩;rw[<-hp,zJ (n:=p) (by omega) (by omega)];have hA:(D++G).all digB=true:=by rw[Ig,hD,hF];rfl
 have hAl:(D++G).length<=50000:=by rw[Ba];omega
 generalize D++G=A at*;have key: ∀B:Str,B.all digB=true->B.length<=50000->(need (decide (B.length<=maxLen))<|
 Zi (fun(s13:Int×Int)=>
   bif decide (s13.2<(B.length:Int))then
    need (decide (0<=s13.2)&&decide (s13.2<(B.length:Int)))<|
    (B[s13.2.toNat]?).bind fun y14=>
    some (LO.again (if 1000000000000<w64 (w64 (10*s13.1)+w64 (wu8 ((y14.toNat:Int) - 48)))then 1000000000000 else w64 (w64 (10*s13.1)+w64 (wu8 ((y14.toNat:Int) - 48))),w64 (s13.2+1)))
   else
    some (LO.out s13.1):Int×Int->Option (LO (Int×Int) (Int) _)) (0,0) fun o15=>
 Zi (fun(s16:Int×Int)=>
   bif bif bif decide (s16.1>0)then decide (s16.2>0)else false then decide (s16.2<1000000000000)else false then
    some (LO.again (w64 (s16.1 - 1),if 1000000000000<w64 (10*s16.2)then 1000000000000 else w64 (10*s16.2)))
   else
    some (LO.out s16.2):Int×Int->Option (LO (Int×Int) (Int) _)) (p,o15) fun o17=>
 Za (X:=Int) (
   bif (y1.toNat:Int)==45 then
    some (LX.out (w64 (0 - o17)))
   else
    some (LX.out o17)) fun j18=>
 some j18)=some (if sg==[45]then -((mh p.toNat (capF jg 0 B):Nat):Int)else((mh p.toNat (capF jg 0 B):Nat):Int)):=by
  intro B hB hBl;have hcap:=Gm jg B 0 (Sb _);rw[zl (Ha (by omega))];rw[Zd (dQ (cap:=jg) hB (by omega) (by omega) (fun v i hi=> ?_) (fun v=> ?_))]
  ·have htm:=wJ p.toNat _ hcap;rw[Zd (TU (by omega) (by omega) (by omega) (fun a b=> ?_)),hy]
   ·cases hs:sg==[45]with
    |true=> rw[Da,zh,zJ (by omega) (by omega),La rfl];congr 1;omega
    |false=>simp_all
   ·simp only
  ·simp_all
  ·grind
 unfold thoV;by_cases hn:p<0
 ·rw[Ha hn,Da,La hn];have hk:(if w64 ((A.length:Int)+p)>0 then w64 ((A.length:Int)+p)else 0)=((((A.length:Int)+p).toNat:Nat):Int):=by rw[zJ (by omega) (by omega)];split<;>omega
  rw[hk,zl (by grind),zh,Ua]
  grind
 ·rw[Xa hn,Ca,Ja hn,zh]
  grind
theorem oW{n:NumP}(h:n.ok=true)(hl:n.txt.length<=40000):qa n.txt=some n.val:=by
 obtain⟨sg,D,F,X⟩:=n;unfold NumP.ok at h;simp only[Ga]at h;obtain⟨⟨⟨hsg,hD⟩,hFo⟩,hX⟩:=h;have hF:(F.getD []).all digB=true:=by
  cases F with
  |none=>rfl
  |some f=>grind
 have hne:D++dotS F≠[]:=by
  cases F with
  |none=>simp_all
  |some f=>simp[dotS]
 have hpar:((D++dotS F).all fun b=>digB b||b==46)=true:=by
  rw[Ig,KZ hD];cases F with
  |none=>rfl
  |some f=>rw[show dotS (some f)=46::f from rfl,Sd,KZ (show f.all digB=true from hF)];rfl
 have hlen:sg.length+(D.length+((dotS F).length+(expT X).length))<=40000:=by
  have:(NumP.txt ⟨sg,D,F,X⟩).length=sg.length+(D.length+((dotS F).length+(expT X).length)):=by unfold NumP.txt;simp only[Ba]
  omega
 have hFl:(F.getD []).length<=(dotS F).length:=by
  cases F with
  |none=>grind
  |some f=>show f.length<=(46::f).length;grind
 have hhead: ∀c r,D++(dotS F++expT X)=c::r->List.contains [43,45] c=false:=by
  rw[<-Na];intro c r e;cases hq:D++dotS F with
  |nil=>grind
  |cons d q=>
   rw[hq,Db]at e;injection e with e1 _;subst e1;rw[hq,Sd,Ga,Pd]at hpar;rcases hpar.1 with hd|hd
   ·exact(QB hd).2.2.2.2
   grind
 have hy1: ∃b,geti (NumP.txt ⟨sg,D,F,X⟩) 0=some b/\(((b.toNat:Int)==45)=(sg==[45])):=by
  unfold NumP.txt;show∃b,geti (sg++(D++(dotS F++expT X))) 0=some b/\_;rcases Fv hsg with rfl|rfl|rfl
  ·cases hq:D++(dotS F++expT X)with
   |nil=>simp_all
   |cons c r=>
    refine⟨c,rfl,?_⟩;have:=hhead c r hq;refine Ia.2 (fun e=> ?_);have:c=45:=Vf.1 (by grind)
    grind
  ·exact⟨43,rfl,rfl⟩
  ·exact⟨45,rfl,rfl⟩
 obtain⟨y1,hg,hyy⟩:=hy1;have t1:uk (NumP.txt ⟨sg,D,F,X⟩,[43,45])=some (D++(dotS F++expT X)):=by unfold uk;rw[zl (show(short ([43,45]:Str)&&Di [43,45])=true by decide)];exact congrArg some (PO hsg hhead)
 unfold qa;simp only[ze,hg,t1,Aa];have hsh:short (D++dotS F)=true:=Ha (by grind);have hasc:Di (D++dotS F)=true:=CP hpar;cases X with
 |none=>
  have t2:Ul (D++(dotS F++expT none),[101,69])=some (-1):=by show Ul (D++(dotS F++[]),[101,69])=_;rw[ja];unfold Ul;rw[zl (by simp only[hsh,hasc,Oc,Xb];decide)];exact congrArg some (SI _ hpar)
  simp only[t2,Aa,show decide ((-1:Int)>=0)=false from rfl,Ca,zh];rw[show D++(dotS F++expT none)=D++dotS F by show D++(dotS F++[])=_;grind];have:=BQ (E:=0) hD hF (by omega) (by omega) (by omega) y1 sg hyy hsh;exact this
 |some ex=>
  obtain⟨e,s,x⟩:=ex;simp only[Ga]at hX;obtain⟨⟨⟨he,hs⟩,hxne⟩,hx⟩:=hX;have he':e=101\/e=69:=by rw[Pd,Jb,Jb]at he;exact he
  have hexl:(expT (some (e,s,x))).length=1+(s.length+x.length):=by show(e::(s++x)).length=_;rw[Fa,Ba];omega
  have hass:D++(dotS F++expT (some (e,s,x)))=(D++dotS F)++e::(s++x):=by rw[<-Na];rfl
  have hasx:Di ((D++dotS F)++e::(s++x))=true:=by
   refine kz (fun b hb=> ?_);rcases Jc.1 hb with hb|hb
   ·exact zAC hasc b hb
   ·rcases Cb.1 hb with hb|hb
    ·subst hb;rcases he' with rfl|rfl<;>decide
    ·rcases Jc.1 hb with hb|hb
     ·rcases Fv hs with rfl|rfl|rfl
      ·cases hb
      ·simp_all
      simp_all
     ·have:=Ur (ma.1 hx b hb);omega
  have hlt:((D++dotS F)++e::(s++x)).length<=40000:=by rw[Ba,Fa,Ba,Ba];omega
  have t2:Ul (D++(dotS F++expT (some (e,s,x))),[101,69])=some ((D++dotS F).length:Int):=by rw[hass];unfold Ul;show need (short ((D++dotS F)++e::(s++x))&&short [101,69]&&Di ((D++dotS F)++e::(s++x))&&Di [101,69]) _=_;rw[show short ((D++dotS F)++e::(s++x))=true from Ha (by omega),hasx];exact congrArg some (FP he' (s++x) _ hpar)
  have hdrop:List.drop (D++dotS F).length ((D++dotS F)++e::(s++x))=e::(s++x):=List.drop_left;have hdrop1:List.drop ((D++dotS F).length+1) ((D++dotS F)++e::(s++x))=s++x:=by rw[<-Pf,hdrop];rfl
  have hd0:(D++dotS F).length<=40000:=by rw[Ba];omega
  have hw1:w64 (((D++dotS F).length:Int)+1)=(((D++dotS F).length+1:Nat):Int):=by rw[zJ (by omega) (by omega)];omega
  simp only[t2,Aa];rw[Ha (show(((D++dotS F).length:Nat):Int)>=0 by omega),Da,hw1,hass];have hlt2:(D++dotS F).length+1<=((D++dotS F)++e::(s++x)).length:=by rw[Ba (bs:=e::(s++x)),Fa];omega
  rw[zl (by grind),Ua,hdrop1];have hxh: ∀c r,x=c::r->List.contains [43,45] c=false:=by intro c r e;subst e;rw[Sd,Ga]at hx;exact(QB hx.1).2.2.2.2
  have t4:uk (s++x,[43,45])=some x:=by unfold uk;rw[zl (show(short ([43,45]:Str)&&Di [43,45])=true by decide)];exact congrArg some (PO hs hxh)
  have hxl:x.length<=40000:=by omega
  have hml:maxLen=9223372036854775807:=rfl;simp only[t4,Aa];rw[zl (Ha (by omega))];have hcap:=Gm 1048576 x 0 (Sb _);rw[Zd (dQ (cap:=1048576) hx (by omega) (by omega) (fun v i hi=> ?_) (fun v=> ?_))]
  ·have hg8: ∃y8,geti ((D++dotS F)++e::(s++x)) (((D++dotS F).length+1:Nat):Int)=some y8/\(((y8.toNat:Int)==45)=(s==[45])):=by
    have hgg: ∀(b:UInt8) (r:Str),s++x=b::r->geti ((D++dotS F)++e::(s++x)) (((D++dotS F).length+1:Nat):Int)=some b:=by
     intro b r e1;unfold geti;have:((D++dotS F)++e::(s++x))[(D++dotS F).length+1]? =some b:=by rw[Sc (by omega),show(D++dotS F).length+1 - (D++dotS F).length=1 by omega,Gf,e1];rfl
     rw[Ua,this,Ha (by omega)];rfl
    rcases Fv hs with rfl|rfl|rfl
    ·cases hxx:x with
     |nil=>grind
     |cons c r=>
      refine⟨c,by grind,?_⟩;have:=hxh c r hxx;refine Ia.2 (fun e=> ?_);have h45:c=45:=Vf.1 (by grind)
      grind
    ·grind
    ·grind
   obtain⟨y8,h8,h8'⟩:=hg8;simp only[h8,Aa];rw[h8'];have hj:(bif s==[45]then(some (LX.out ((D++dotS F)++e::(s++x),3,w64 (0 - ((capF 1048576 0 x:Nat):Int)))):Option (LX (Str×Int×Int) (LX (Str×Int) Int)))else some (LX.out ((D++dotS F)++e::(s++x),3,((capF 1048576 0 x:Nat):Int))))
     =some (LX.out ((D++dotS F)++e::(s++x),3,expV (some (e,s,x)))):=by
    unfold expV;simp only;cases s==[45]with
    |true=>rw[Da,La rfl,zJ (by omega) (by omega)];simp
    |false=>grind
   have hEb:expV (some (e,s,x))<=1048576/\ -1048576<=expV (some (e,s,x)):=by unfold expV;simp only;split<;>omega
   refine(congrArg (fun o=>Za (Za o _) _) hj).trans ?_;simp only[zh];rw[show decide ((((D++dotS F).length:Nat):Int)<=((((D++dotS F)++e::(s++x)).length:Nat):Int))=true from Ha (by omega),zl (by rfl)];simp only[zh,Ua,Ji];rw[zJ (by omega) (by omega)];exact BQ (E:=expV (some (e,s,x))) hD hF (by omega) (by omega) (by omega) y1 sg hyy hsh
  ·simp_all
  ·grind
theorem Rl {S X R:Type} {step:S->Option (LO S X R)} {k:X->Option R} (Inv:S->Prop) (μ:S->Nat) (y:R)
  (h: ∀s,Inv s->(∃s',step s=some (.again s')/\Inv s'/\μ s'<μ s)\/(∃x,step s=some (.out x)/\k x=some y)\/step s=some (.ret y)) {s:S} (hs:Inv s):Zi step s k=some y:=by
 have key: ∀(m:Nat) (s:S),μ s<m->Inv s-> ∃r:LX X R,qU step m s=some r/\r.go k=some y:=by
  intro m
  induction m with
  |zero=>intro s h;omega
  |succ m ih=>
   intro s hm hs;simp only[qU];rcases h s hs with⟨s',h1,h2,h3⟩|⟨x,h1,h2⟩|h1
   ·grind
   ·simp_all
   simp_all
 obtain⟨r,h1,h2⟩:=key (μ s+1) s (by omega) hs;rw[Gn (Sk h1)];exact h2
theorem xQ(p:UInt8->Bool): ∀l:Str,past p l=l.dropWhile p
 |[]=>rfl
 |c::r=>by
  rw[past,Og];cases h:p c with
  |true=>exact xQ p r
  |false=>rfl
theorem Jv(p:UInt8->Bool)(l:Str):l.takeWhile p++past p l=l:=by rw[xQ,List.takeWhile_append_dropWhile]
theorem ED(p:UInt8->Bool): ∀l:Str,(l.takeWhile p).all p=true
 |[]=>rfl
 |c::r=>by simp_all
def sgOf(l:Str):Str:=if ag (atS l 0)then [atS l 0]else []
theorem MN(l:Str):sgOf l++unsign l=l:=by
 unfold sgOf unsign;cases h:ag (atS l 0)with
 |false=>rfl
 |true=>
  rw[La rfl,La rfl];cases l with
  |nil=>exact absurd h (by decide)
  |cons c r=>rfl
theorem HY(l:Str):sgB (sgOf l)=true:=by
 unfold sgOf;cases h:ag (atS l 0)with
 |false=>rfl
 |true=> rw[La rfl];unfold ag at h;rw[Pd,Jb,Jb]at h;rcases h with h|h<;>rw[h]<;>rfl
def dotP(q:Str):Option Str:=if atS q 0==46&&digB (atS q 1)then some ((q.drop 1).takeWhile digB)else none
def expP(q:Str):Option (UInt8×Str×Str):=
 if(atS q 0==101||atS q 0==69)&&digB (atS (unsign (q.drop 1)) 0)then some (atS q 0,sgOf (q.drop 1),(unsign (q.drop 1)).takeWhile digB)else none
def numP(l:Str):NumP:=⟨sgOf l,(unsign l).takeWhile digB,dotP (past digB (unsign l)),expP (zT (past digB (unsign l))).1⟩
theorem V7(q:Str):dotS (dotP q)++(zT q).1=q/\(zT q).2=(dotP q).isNone:=by
 unfold dotP zT;cases h:atS q 0==46&&digB (atS q 1)with
 |false=>exact⟨rfl,rfl⟩
 |true=>
  rw[La rfl,La rfl];cases q with
  |nil=>exact absurd h (by decide)
  |cons c r=> rw[Ga,Jb]at h;refine⟨?_,rfl⟩;show(46::List.takeWhile digB r)++past digB r=c::r;rw[Db,Jv,show c=46 from h.1]
theorem zA3(q:Str):expT (expP q)++(match expS q with|some r=>r|none=>q)=q:=by
 unfold expP expS;cases h1:atS q 0==101||atS q 0==69 with
 |false=>rfl
 |true=>
  cases h2:digB (atS (unsign (q.drop 1)) 0)with
  |false=>rfl
  |true=>
   simp only[Bool.and_self,Ud];cases q with
   |nil=>exact absurd h1 (by decide)
   |cons c r=> show(c::(sgOf r++List.takeWhile digB (unsign r)))++past digB (unsign r)=c::r;rw[Db,Na,Jv,MN]
theorem EF(l:Str):(numP l).txt++(zy l).1=l:=by
 have h1:=(V7 (past digB (unsign l))).1;have h2:=zA3 (zT (past digB (unsign l))).1;have h3:(zy l).1=(match expS (zT (past digB (unsign l))).1 with|some r=>r|none=>(zT (past digB (unsign l))).1):=by unfold zy;simp only;cases expS (zT (past digB (unsign l))).1<;>rfl
 rw[h3];show(sgOf l++(List.takeWhile digB (unsign l)++(dotS (dotP (past digB (unsign l)))++expT (expP (zT (past digB (unsign l))).1))))++_=l;rw[Na,Na,Na,h2,h1,Jv,MN]
theorem RH{p:UInt8->Bool}{q:Str}(h:p (atS q 0)=true)(h0:p 0=false):(q.takeWhile p).isEmpty=false:=by
 cases q with
 |nil=>rw[show atS [] 0=0 from rfl,h0]at h;cases h
 |cons c r=>rw[ah,La (show p c=true from h)];rfl
theorem MC{l:Str}(h:nbS l=true):(numP l).ok=true:=by
 unfold NumP.ok numP;simp only[HY,ED,Xb,Ga];refine⟨?_,?_⟩
 ·unfold dotP;cases hd:atS (past digB (unsign l)) 0==46&&digB (atS (past digB (unsign l)) 1)with
  |true=> rw[La rfl];simp only[ED,Oc];rw[Ga]at hd;rw[RH (p:=digB) (by rw[QQ];exact hd.2) (by decide)];rfl
  |false=>
   rw[Ja (by decide)];simp only;cases hq:digB (atS (unsign l) 0)with
   |true=>rw[RH hq (by decide)];rfl
   |false=>
    exfalso;have hp:past digB (unsign l)=unsign l:=by
     cases hu:unsign l with
     |nil=>rfl
     |cons c r=>rw[hu]at hq;rw[past,Ja (by rw[show digB c=false from hq];decide)]
    rw[hp]at hd;unfold nbS undot at h;cases h46:atS (unsign l) 0==46 with
    |false=>grind
    |true=>
     rw[h46,La rfl,QQ]at h
     grind
 ·unfold expP;cases hd:(atS (zT (past digB (unsign l))).1 0==101||atS (zT (past digB (unsign l))).1 0==69)&&digB (atS (unsign ((zT (past digB (unsign l))).1.drop 1)) 0)with
  |false=>rfl
  |true=> rw[La rfl];rw[Ga]at hd;simp only[hd.1,HY,ED,Oc,Xb];rw[RH hd.2 (by decide)];rfl
theorem zGn{n:NumP}(h:n.ok=true):n.txt≠[]:=by
 obtain⟨sg,D,F,X⟩:=n;unfold NumP.ok at h;simp only[Ga]at h;intro e;unfold NumP.txt at e;simp only[mg]at e;obtain⟨e1,e2,e3,e4⟩:=e;subst e2;cases F with
 |none=>grind
 |some f=>cases e3
theorem zt1{c:UInt8}{r:Str}(h:nbS (c::r)=true):(zy (c::r)).1<:+r:=by
 have h1:=EF (c::r);have h2:=zGn (MC h);cases ht:(numP (c::r)).txt with
 |nil=>grind
 |cons d t=>
  grind
def zB(l:Str):zb×Str:=
 if nmS (zy l).1 then(⟨12,[],(numP l).val,(zo (zy l).1).1,(zy l).2⟩,(zo (zy l).1).2)
 else if atS (zy l).1 0==37 then(⟨11,[],(numP l).val,[],false⟩,(zy l).1.drop 1)
 else(⟨10,[],(numP l).val,[],(zy l).2⟩,(zy l).1)
theorem FI{s l t e:Str}(hl:l<:+s)(h:t++e=l):List.drop (beh s l) (List.take (beh s e) s)=t:=by
 obtain⟨p,rfl⟩:=hl;subst h;have h1:beh (p++(t++e)) (t++e)=p.length:=by unfold beh;simp only[Ba];omega
 have h2:beh (p++(t++e)) e=(p++t).length:=by unfold beh;simp only[Ba];omega
 grind
theorem zBH{s l:Str}(hs:s.length<=40000)(hl:l<:+s)(h:nbS l=true):ZO (sr s l)=some ((zB l).1,sr s (zB l).2):=by
 have hsb:s.length<=big:=by unfold big;omega
 have he:=KU hl;have hle:=hl.length_le;have hsp:=EF l;have hel:(zy l).1.length<=l.length:=by have:=congrArg List.length hsp;rw[Ba]at this;omega
 have htl:(numP l).txt.length<=40000:=by have:=congrArg List.length hsp;rw[Ba]at this;omega
 unfold ZO;rw[zA4 hsb hl];simp only[ze,Aa];have h1:(beh s l:Int)<=(beh s (zy l).1:Int):=by unfold beh;omega
 have h2:=Ni s (zy l).1;rw[zl (by simp_all),Ua,Ua,FI hl hsp,oW (MC h) htl];simp only[Aa];rw[show zK (0,sr s (zy l).1)=some (nmS (zy l).1)from XN (k:=0) hsb he (by omega)];simp only[Aa];unfold zB;cases hn:nmS (zy l).1 with
 |true=> rw[Da,dG hsb he,La rfl];rfl
 |false=>
  rw[Ca,yh hsb he,Ja (by decide)];simp only[Aa,zGG];cases h37:atS (zy l).1 0==37 with
  |true=> rw[Da,zh,Uw hsb he (by grind),La rfl]
  |false=>simp_all
theorem aD(l:Str):(zo l).1.length<=4*l.length:=by
 match l with
 |[]=>rw[qV];grind
 |c::r=>
  rw[zM];split
  ·have:=aD r
   grind
  ·split
   ·have h1:=zS r;have h2:=Nr r;have:=aD (zq r).2
    grind
   grind
termination_by l.length
decreasing_by
 all_goals grind
def qF(l:Str):zb×Str:=
 if atS (zo l).2 0==40 then
  (if(lowS (zo l).1==[117,114,108])&& !(atS (past spB ((zo l).2.drop 1)) 0==34||atS (past spB ((zo l).2.drop 1)) 0==39)
  then(Vi (urlS (past spB ((zo l).2.drop 1))).1,(urlS (past spB ((zo l).2.drop 1))).2)
  else(⟨2,(zo l).1,0,[],false⟩,(zo l).2.drop 1))
 else(⟨1,(zo l).1,0,[],false⟩,(zo l).2)
theorem zDV{s q:Str}(hs:s.length<=40000)(hq:q<:+s):ZK (sr s q)=some ((qF q).1,sr s (qF q).2):=by
 have hsb:s.length<=big:=by unfold big;omega
 have hn:(zo q).2<:+s:=(Mm q).trans hq;have h4:=aD q;have hql:=hq.length_le;have hnl:(zo q).1.length<=big:=by unfold big;omega
 unfold ZK;rw[dG hsb hq];simp only[ze,Aa,yh hsb hn];unfold bne qF;rw[zGH];cases h40:atS (zo q).2 0==40 with
 |false=>rfl
 |true=>
  have hne:atS (zo q).2 0≠0:=by rw[Jb.1 h40];decide
  rw[Yb,Ca,La rfl,Uw hsb hn hne,XL hnl (by decide),Yu];simp only[Aa];have hd:=Ml hn 1;cases hu:lowS (zo q).1==[117,114,108]with
  |false=>rfl
  |true=>
   rw[Da,kC hsb hd,Xb];have hp:=Ll spB hd;simp only[Aa,yh hsb hp];rw[VY,UY];cases h34:atS (past spB ((zo q).2.drop 1)) 0==34 with
   |true=>rfl
   |false=>
    cases h39:atS (past spB ((zo q).2.drop 1)) 0==39 with
    |true=>rfl
    |false=> rw[urlR hsb hd];rfl
theorem zBx{c:UInt8}{r:Str}(h:letB c=true\/escS (c::r)=true):(zo (c::r)).2<:+r:=by
 rw[zM];split
 ·exact Mm r
 ·rename_i hl;rw[La (h.resolve_left hl)];exact(Mm _).trans (Zg r)
theorem RP{c:UInt8}{r:Str}(h:nmS (c::r)=true):letB c=true\/escS (c::r)=true:=by
 unfold nmS at h;cases h45:atS (c::r) 0==45 with
 |true=> left;rw[show c=45 from Jb.1 h45];decide
 |false=>
  rw[h45,Ja (by decide),Pd]at h;rcases h with h|h
  ·left;unfold letB;rw[show fstB c=true from h];rfl
  ·exact .inr h
theorem V5{c:UInt8}{r:Str}(h:nmS (c::r)=true):(qF (c::r)).2<:+r:=by
 have hn:=zBx (RP h);have hd:(zo (c::r)).2.drop 1<:+r:=(Hf 1 _).trans hn;unfold qF;split
 ·split
  ·exact(oH _).trans ((Cr spB _).trans hd)
  ·exact hd
 ·exact hn
def nxU(c:UInt8)(r:Str):zb×Str:=
  if nmS (c::r)then qF (c::r)
  else if Kh c==0 then(⟨9,[c],0,[],false⟩,r)
  else(Ki (Kh c),r)
def nxT(c:UInt8)(r:Str):zb×Str:=
  if nbS (c::r)then zB (c::r)
  else if [45,45,62].isPrefixOf (c::r)then(Ki 15,(c::r).drop 3)
  else if [60,33,45,45].isPrefixOf (c::r)then(Ki 14,(c::r).drop 4)
  else if c==64&&nmS r then(⟨3,(zo r).1,0,[],false⟩,(zo r).2)
  else nxU c r
def Zx:Str->zb×Str
 |[]=>(⟨0,[],0,[],false⟩,[])
 |c::r=>
  if spB c then(Ki 13,past spB (c::r))
  else if c==34||c==39 then(Gl (zW c r).1,(zW c r).2)
  else if c==35&&(letB (atS r 0)||escS r)then(⟨4,(zo r).1,0,[],nmS r⟩,(zo r).2)
  else nxT c r
theorem Wv(c:UInt8)(r:Str):Zx (c::r)=
  if spB c then(Ki 13,past spB (c::r))
  else if c==34||c==39 then(Gl (zW c r).1,(zW c r).2)
  else if c==35&&(letB (atS r 0)||escS r)then(⟨4,(zo r).1,0,[],nmS r⟩,(zo r).2)
  else if nbS (c::r)then zB (c::r)
  else if [45,45,62].isPrefixOf (c::r)then(Ki 15,(c::r).drop 3)
  else if [60,33,45,45].isPrefixOf (c::r)then(Ki 14,(c::r).drop 4)
  else if c==64&&nmS r then(⟨3,(zo r).1,0,[],false⟩,(zo r).2)
  else if nmS (c::r)then qF (c::r)
  else if Kh c==0 then(⟨9,[c],0,[],false⟩,r)
  else(Ki (Kh c),r):=rfl
theorem zt4{c:UInt8}{r:Str}(h:nbS (c::r)=true):(zB (c::r)).2<:+r:=by
 have h1:=zt1 h;unfold zB;split
 ·exact(Mm _).trans h1
 ·split
  ·exact(Hf 1 _).trans h1
  ·exact h1
theorem Ol(c:UInt8)(r:Str):(Zx (c::r)).2<:+r:=by
 rw[Wv];split
 ·rename_i h;show past spB (c::r)<:+r;rw[past,La h];exact Cr spB r
 ·split
  ·exact RF c r
  ·split
   ·exact Mm r
   ·split
    ·rename_i h;exact zt4 h
    ·split
     ·exact Hf 2 r
     ·split
      ·exact Hf 3 r
      ·split
       ·exact Mm r
       ·split
        ·rename_i h;exact V5 h
        grind
theorem zBs(c:UInt8):decide (Lib.indexByte [58,59,44,91,93,40,41,123,125] c>=0)= !(Kh c==0)/\(Kh c≠0->wu8 (16+wu8 (Lib.indexByte [58,59,44,91,93,40,41,123,125] c))=Kh c):=by
 have: ∀n:Nat,n<256->decide (Lib.indexByte [58,59,44,91,93,40,41,123,125] (UInt8.ofNat n)>=0)= !(Kh (UInt8.ofNat n)==0)/\(Kh (UInt8.ofNat n)≠0->wu8 (16+wu8 (Lib.indexByte [58,59,44,91,93,40,41,123,125] (UInt8.ofNat n)))=Kh (UInt8.ofNat n)):=by decide+kernel
 have:=this c.toNat (Ob c);simp_all
theorem Rk{m q:Str}(h:m.isPrefixOf q=true):m.length<=q.length:=by
 grind
def Mw(s:Str)(X:zb×Str):Option (zb×za):=some (X.1,sr s X.2)
theorem zGy{s q:Str}{c:UInt8}{r:Str}(hs:s.length<=40000)(hq:q<:+s)(hc:q=c::r):qz (sr s q)=some ((Zx q).1,sr s (Zx q).2):=by
 subst hc;have hsb:s.length<=big:=by unfold big;omega
 have hr:=Zb hq;have hd1:(c::r).drop 1=r:=rfl;rw[show Zx (c::r)=if spB c then(Ki 13,past spB (c::r))else if c==34||c==39 then(Gl (zW c r).1,(zW c r).2)else if c==35&&(letB (atS r 0)||escS r)then(⟨4,(zo r).1,0,[],nmS r⟩,(zo r).2)else nxT c r from rfl];unfold qz;simp only[ze,yh hsb hq,Aa];rw[zl nY];simp only[Vy,Aa,VY,UY,zGF,zGI,jH hq,Aw,show atS (c::r) 0=c from rfl,Jt];cases hsp:spB c with
 |true=> rw[Da,kC hsb hq,La rfl];rfl
 |false=>
  rw[Ca,Ja (by decide)];cases hqu:c==34||c==39 with
  |true=> rw[Da,zEw hsb hq,La rfl];rfl
  |false=>
   rw[Ca,Ja (by decide)];have hsc:zx (1,sr s (c::r))=some (escS r):=bE (k:=1) hsb hq (by omega);have hnm1:zK (1,sr s (c::r))=some (nmS r):=XN (k:=1) hsb hq (by omega);have hnm0:zK (0,sr s (c::r))=some (nmS (c::r)):=XN (k:=0) hsb hq (by omega);have hst:(⟨s,w64 ((beh s (c::r):Int)+1)⟩:za)=sr s r:=by rw[Pi hsb hq]
   rw[hst];have tail:((ZG (sr s (c::r))).bind fun y10=>
    bif y10 then
     (ZO (sr s (c::r))).bind fun y11=>
     some (y11.1,y11.2)
    else
     (some ([45,45,62].isPrefixOf (c::r))).bind fun y12=>
     bif y12 then
      some ((⟨15,[],0,[],false⟩:zb),(⟨s,w64 ((beh s (c::r):Int)+3)⟩:za))
     else
      (some ([60,33,45,45].isPrefixOf (c::r))).bind fun y13=>
      bif y13 then
       some ((⟨14,[],0,[],false⟩:zb),(⟨s,w64 ((beh s (c::r):Int)+4)⟩:za))
      else
       (zw (c==64) (zK (1,sr s (c::r))) (default:Bool)).bind fun y14=>
       bif bif c==64 then y14 else false then
        (zR (sr s r)).bind fun y15=>
        some ((⟨3,y15.1,0,[],false⟩:zb),y15.2)
       else
        (zK (0,sr s (c::r))).bind fun y16=>
        bif y16 then
         (ZK (sr s (c::r))).bind fun y17=>
         some (y17.1,y17.2)
        else
         (strings_IndexByte ([58,59,44,91,93,40,41,123,125],wu8 (pk (c::r) 0))).bind fun y18=>
         bif decide (y18>=0)then
          some ((⟨wu8 (16+wu8 y18),[],0,[],false⟩:zb),sr s r)
         else
          need (decide (1<=((c::r).length:Int)))<|
          some ((⟨9,List.take 1 (c::r),0,[],false⟩:zb),sr s r))=
    Mw s (nxT c r):=by
    unfold nxT;simp only[zEc hsb hq,Aa];cases hnb:nbS (c::r)with
    |true=> rw[Da,zBH hs hq hnb,La rfl];rfl
    |false=>
     rw[Ca,Ja (by decide)];cases h3:[45,45,62].isPrefixOf (c::r)with
     |true=> rw[Da,La rfl,show(3:Int)=((3:Nat):Int)from rfl,iG (n:=3) hsb hq (Rk h3)];rfl
     |false=>
      rw[Ca,Ja (by decide)];cases h4:[60,33,45,45].isPrefixOf (c::r)with
      |true=> rw[Da,La rfl,show(4:Int)=((4:Nat):Int)from rfl,iG (n:=4) hsb hq (Rk h4)];rfl
      |false=>
       rw[Ca,Ja (by decide),hnm1,hnm0];have rest: ∀z:Bool,((some z).bind fun y14=>bif y14 then
        (zR (sr s r)).bind fun y15=>
        some ((⟨3,y15.1,0,[],false⟩:zb),y15.2)
       else
        (some (nmS (c::r))).bind fun y16=>
        bif y16 then
         (ZK (sr s (c::r))).bind fun y17=>
         some (y17.1,y17.2)
        else
         (strings_IndexByte ([58,59,44,91,93,40,41,123,125],wu8 (pk (c::r) 0))).bind fun y18=>
         bif decide (y18>=0)then
          some ((⟨wu8 (16+wu8 y18),[],0,[],false⟩:zb),sr s r)
         else
          need (decide (1<=((c::r).length:Int)))<|
          some ((⟨9,List.take 1 (c::r),0,[],false⟩:zb),sr s r))=Mw s (if z then(⟨3,(zo r).1,0,[],false⟩,(zo r).2)else nxU c r):=by
        intro z;unfold nxU;simp only[Aa];cases z with
        |true=> rw[Da,dG hsb hr];rfl
        |false=>
         rw[Ca,Ja (by decide)];cases hnm:nmS (c::r)with
         |true=>rw[Da,zDV hs hq];rfl
         |false=>
          rw[Ca,Ja (by decide),Ar,yF];have hb:(wu8 (c.toNat:Int)).toNat.toUInt8=c:=by rw[cu,Cg (Ob c),Ua];exact Mc
          rw[hb];obtain⟨m1,m2⟩:=zBs c;simp only[Aa,m1];cases hm:Kh c==0 with
          |true=> rw[Yb,Ca,zl (Ha (by grind))];rfl
          |false=> rw[Lb,Da,m2 (Ia.1 hm)];rfl
       cases h64:c==64 with
       |false=> simp_all
       |true=> have:=rest (nmS r);simp_all
   cases h35:c==35 with
   |false=> simp only[zO,Aa,Ca,Pe,Yc];exact tail
   |true=>
    simp only[zH,Aa,Da,Oc,Xb,Fx hsb hq,EQ];have e1:atS (c::r) 1=atS r 0:=rfl;rw[e1,hsc];have hh:(bif letB (atS r 0)||escS r then(zK (1,sr s (c::r))).bind fun y8=>(zR (sr s r)).bind fun y9=>some ((⟨4,y9.1,0,[],y8⟩:zb),y9.2)else Mw s (nxT c r))=Mw s (if(letB (atS r 0)||escS r)then(⟨4,(zo r).1,0,[],nmS r⟩,(zo r).2)else nxT c r):=by
     cases letB (atS r 0)||escS r with
     |false=>rfl
     |true=>rw[Da,hnm1,dG hsb hr];rfl
    show _=Mw s (if(letB (atS r 0)||escS r)then(⟨4,(zo r).1,0,[],nmS r⟩,(zo r).2)else nxT c r);rw[<-hh];cases hl:letB (atS r 0)with
    |true=>rfl
    |false=> simp_all
def clsS:Str->Option Str
 |[]=>none
 |c::r=>if c==42&&atS r 0==47 then some (r.drop 1)else clsS r
theorem um: ∀(l:Str) {r:Str},clsS l=some r->r<:+l/\r.length+2<=l.length
 |[],r,h=>by cases h
 |c::t,r,h=>by
  unfold clsS at h;split at h
  ·rename_i hc;rw[Ga,Jb,Jb]at hc;injection h with h;subst h;have:=Ut (l:=t) (n:=0) (by rw[hc.2];decide);exact⟨(Hf 1 t).trans (He c t),by rw[Gc,Fa];omega⟩
  ·obtain⟨h1,h2⟩:=um t h;exact⟨h1.trans (He c t),by rw[Fa];omega⟩
theorem pre2(b:UInt8)(l:Str):([42,47]:Str).isPrefixOf (b::l)=(b==42&&atS l 0==47):=by
 have h1:((42:UInt8)==b)=(b==42):=by rw[Ug,Jb,Jb];exact eq_comm
 rw[List.isPrefixOf,h1];cases l with
 |nil=>rfl
 |cons d t=>
  have h2:((47:UInt8)==d)=(d==47):=by rw[Ug,Jb,Jb];exact eq_comm
  rw[List.isPrefixOf,h2,List.isPrefixOf];rw[Oc];rfl
theorem lS: ∀l:Str,Lib.index l [42,47]=match clsS l with|none=> -1|some r=>((l.length - r.length - 2:Nat):Int)
 |[]=>rfl
 |b::l=>by
  rw[Lib.index,pre2,clsS];cases h:b==42&&atS l 0==47 with
  |true=> rw[La rfl,La rfl];rw[Ga,Jb,Jb]at h;have:=Ut (l:=l) (n:=0) (by rw[h.2];decide);simp only[Gc,Fa];omega
  |false=>
   simp only[Xc,Ve];rw[lS l];cases hc:clsS l with
   |none=>rfl
   |some r=> have:=(um l hc).2;simp only;rw[Ja (by rw[Jb];omega),Fa];omega
def cmtS(l:Str):Str:=
 if([47,42]:Str).isPrefixOf l then
  (match h:clsS (l.drop 2)with
  |some q=>cmtS q
  |none=>[])
 else l
termination_by l.length
decreasing_by
 have:=(um _ h).2;rw[Gc]at this;omega
theorem uj(l:Str):cmtS l=if([47,42]:Str).isPrefixOf l then(match clsS (l.drop 2)with|some q=>cmtS q|none=>[])else l:=by
 rw[cmtS];split
 ·split<;>rename_i h<;>rw[h]
 ·rfl
theorem qd{l:Str}(h:([47,42]:Str).isPrefixOf l=false):cmtS l=l:=by rw[uj,h];rfl
theorem aj(l:Str):cmtS l<:+l:=by
 rw[uj];split
 ·split
  ·rename_i q hq;have h1:=um _ hq;have h2:=h1.2;rw[Gc]at h2;exact(aj q).trans (h1.1.trans (Hf 2 l))
  ·exact Hg
 ·exact Ed _
termination_by l.length
decreasing_by
 all_goals first|omega|(simp only[Gc]at *; omega)
theorem Bn(l:Str):cmtS (cmtS l)=cmtS l:=by
 rw[uj l];split
 ·split
  ·rename_i q hq;have h2:=(um _ hq).2;rw[Gc]at h2;exact Bn q
  ·exact qd rfl
 ·rename_i h;exact qd (Bool.eq_false_iff.2 h)
termination_by l.length
decreasing_by
 all_goals first|omega|(simp only[Gc]at *; omega)
theorem ry(l:Str):([47,42]:Str).isPrefixOf (cmtS l)=false:=by
 have h:=Bn l;cases hp:([47,42]:Str).isPrefixOf (cmtS l)with
 |false=>rfl
 |true=>
  exfalso;rw[uj (cmtS l),hp,La rfl]at h;have hl:=Rk hp;rw[show([47,42]:Str).length=2 from rfl]at hl;cases hc:clsS ((cmtS l).drop 2)with
  |none=>rw[hc]at h;rw[<-h]at hl;simp at hl
  |some q=> rw[hc]at h;have h1:=(um _ hc).2;have h2:=(aj q).length_le;simp only at h;rw[h,Gc]at*;omega
theorem xR{s q:Str}(hs:s.length<=40000)(hq:q<:+s):Zq (sr s q)=some (sr s (cmtS q)):=by
 have hsb:s.length<=big:=by unfold big;omega
 unfold Zq;refine Rl (fun z=> ∃p,z=sr s p/\p<:+s/\cmtS p=cmtS q) (fun z=>s.length - z.at_.toNat) _ ?_ ⟨q,rfl,hq,rfl⟩;rintro _ ⟨p,rfl,hp,he⟩;rw[zl nY];simp only[ze,jH hp,Aw,Aa];rw[uj p]at he;cases hpre:([47,42]:Str).isPrefixOf p with
 |false=> rw[hpre,Ja (by decide)]at he;exact .inr (.inl ⟨_,rfl,by rw[he]⟩)
 |true=>
  rw[hpre,La rfl]at he;have hl:=Rk hpre;rw[show([47,42]:Str).length=2 from rfl]at hl;have hle:=hp.length_le;have hb:=OI hp hl;have hb2:=Ni s (p.drop 2);rw[Da];have hw:w64 ((beh s p:Int)+2)=((beh s (p.drop 2):Nat):Int):=by rw[<-hb,zJ (by omega) (by omega)];omega
  rw[hw,zl (by rw[Ha (by omega),Ha (by omega)];rfl),jH (Ml hp 2)];have hlen:(p.drop 2).length<=40000:=by rw[Gc];omega
  have hi:Ym (p.drop 2,[42,47])=some (Lib.index (p.drop 2) [42,47]):=by unfold Ym;rw[zl (by exact Ha (show(p.drop 2).length<4294967281 by omega))]
  rw[hi,lS];simp only[Aa];cases hc:clsS (p.drop 2)with
  |none=> rw[hc]at he;refine .inr (.inr ?_);rw[<-he];show _=some (LO.ret (⟨s,(beh s []:Int)⟩:za));unfold beh;rw[Ib];rfl
  |some r=>
   rw[hc]at he;obtain⟨h1,h2⟩:=um _ hc;have hrs:r<:+s:=h1.trans (Ml hp 2);rw[Gc]at h2 hlen;simp only;rw[Xa (by omega),Ca];refine .inl ⟨sr s r,?_,⟨r,rfl,hrs,he⟩,?_⟩
   ·rw[Gc,zJ (n:=_+4) (by omega) (by omega)];have:(beh s p:Int)+(((p.length - 2 - r.length - 2:Nat):Int)+4)=((beh s r:Nat):Int):=by unfold beh;omega
    rw[this,zJ (by have:=Ni s r;omega) (by have:=Ni s r;omega)]
   ·show s.length - beh s r<s.length - beh s p;unfold beh;omega
def qE(l:Str):List zb:=
 match h:cmtS l with
 |[]=>[]
 |c::r=>(Zx (c::r)).1::qE (Zx (c::r)).2
termination_by l.length
decreasing_by
 have h1:=(Ol c r).length_le;have h2:=(aj l).length_le;rw[h,Fa]at h2;omega
theorem Pj{l:Str}(h:cmtS l=[]):qE l=[]:=by
 rw[qE];split
 ·rfl
 ·rename_i h2;rw[h]at h2;cases h2
theorem QZ{l:Str}{c:UInt8}{r:Str}(h:cmtS l=c::r):qE l=(Zx (c::r)).1::qE (Zx (c::r)).2:=by
 rw[qE];split
 ·rename_i h2;rw[h]at h2;cases h2
 ·rename_i h2;rw[h]at h2;injection h2 with h3 h4;subst h3 h4;rfl
theorem Dv(l:Str):qE (cmtS l)=qE l:=by
 cases h:cmtS l with
 |nil=>rw[Pj h];exact Pj (qd rfl)
 |cons c r=> rw[QZ h];exact QZ (by rw[<-h,Bn])
theorem KJ(l:Str):(qE l).length<=l.length:=by
 cases h:cmtS l with
 |nil=>rw[Pj h];exact Sb _
 |cons c r=>
  have h4:(Zx (c::r)).2.length<l.length:=by have h1:=(Ol c r).length_le;have h2:=(aj l).length_le;rw[h,Fa]at h2;omega
  rw[QZ h,Fa];have:=KJ (Zx (c::r)).2;omega
termination_by l.length
decreasing_by
 all_goals omega
theorem K7: ∀l:Str,(Proofs.Cl.cleanS l).length<=3*l.length:=by
 have: ∀(n:Nat) (l:Str),l.length<=n->(Proofs.Cl.cleanS l).length<=3*l.length:=by
  intro n
  induction n with
  |zero=>
   intro l h;cases l with
   |nil=>rw[Proofs.Cl.cleanS];exact Ya _
   |cons c r=>rw[Fa]at h;omega
  |succ n ih=>
   intro l h;rw[Proofs.Cl.cleanS.eq_def];split
   ·exact Ya _
   ·rename_i r;rw[Fa,Fa]at h;have:=ih r (by omega);rw[Fa,Fa,Fa];omega
   ·rename_i c r _;rw[Fa]at h;have:=ih r (by omega);rw[Bool.cond_eq_ite];split
    ·simp only[Fa];omega
    ·rw[Bool.cond_eq_ite];split
     ·simp only[Fa];omega
     ·simp only[Fa];omega
 exact fun l=>this l.length l (Ya _)
def tq(w:Str):List zb×Int:=if 4000<w.length then([],28)else if 1500<(qE (Proofs.Cl.cleanS w)).length then([],4)else(qE (Proofs.Cl.cleanS w),0)
theorem EP{n:Nat}(h:n<=100000):Zc n 1 56=true:=by unfold Zc;exact Ha (by omega)
theorem K6(w:Str):TB w=some (tq w):=by
 unfold TB tq;by_cases hlong:4000<w.length
 ·have hcl:gm w=some ([],28):=by unfold gm;rw[La hlong]
  unfold SB;rw[hcl,La hlong];rfl
 ·have hcl:gm w=some (Proofs.Cl.cleanS w,0):=by unfold gm;rw[Ja hlong]
  rw[Ja hlong];have h3:=K7 w;generalize Proofs.Cl.cleanS w=s at hcl h3;have hs:s.length<=40000:=by omega
  unfold SB;rw[hcl];simp only[ze,Aa];rw[show((0:Int) != 0)=false from rfl,Ca,sr_0,xR hs (Ed s)];simp only[Aa];have hmain: ∃z:Int×List zb,Zi (fun(s3:Int×List zb×za)=>
    bif decide (s3.2.2.at_<(s.length:Int))then
     bif decide (w64 (s3.1+1)>1500)then
      some (LO.ret (4,s3.2.1))
     else
      (qz s3.2.2).bind fun y4=>
      (QY ((y4.1,s3.2.2.at_,y4.2.at_),s3.2.1)).bind fun y5=>
      (Zq y4.2).bind fun y6=>
      some (LO.again (w64 (s3.1+1),y5,y6))
    else
     some (LO.out (s3.2.1,s3.2.2)):Int×List zb×za->Option (LO (Int×List zb×za) (List zb×za) (Int×List zb))) (0,[],sr s (cmtS s)) (fun o7=>some (0,o7.1))=some z/\
    z=(if 1500<(qE s).length then(4,(qE s).take 1500)else(0,qE s)):=by
   refine⟨_,Rl (fun z=> ∃(acc:List zb) (q:Str),z=((acc.length:Int),acc,sr s q)/\q<:+s/\cmtS q=q/\acc.length<=1500/\acc++qE q=qE s) (fun z=>s.length - z.2.2.at_.toNat) (if 1500<(qE s).length then(4,(qE s).take 1500)else(0,qE s)) ?_ ⟨[],cmtS s,rfl,aj s,Bn s,by simp,by rw[Nc,Dv]⟩,rfl⟩;rintro _ ⟨acc,q,rfl,hq,hqc,ha,he⟩;simp only;have hle:=hq.length_le;cases q with
   |nil=>
    have hb:((beh s []:Nat):Int)=(s.length:Int):=by unfold beh;rw[Ib];rfl
    have hd:decide (((beh s []:Nat):Int)<(s.length:Int))=false:=Xa (by omega);simp only[hd,Ca];rw[Pj (qd rfl),ja]at he;refine .inr (.inl ⟨_,rfl,?_⟩);rw[<-he,Ja (by omega)]
   |cons c r=>
    rw[Fa]at hle;have hb:beh s (c::r)<s.length:=by unfold beh;rw[Fa];omega
    have hd:decide (((beh s (c::r):Nat):Int)<(s.length:Int))=true:=Ha (by omega);have hw:w64 ((acc.length:Int)+1)=(acc.length:Int)+1:=zJ (by omega) (by omega);simp only[hd,Da,hw];rw[QZ hqc]at he;have hlen:=congrArg List.length he;rw[Ba,Fa]at hlen;by_cases hfull:acc.length=1500
    ·have hd2:decide ((acc.length:Int)+1>1500)=true:=Ha (by omega);simp only[hd2,Da];refine .inr (.inr ?_);rw[La (by omega),<-he,<-hfull,Ji]
    ·have hd2:decide ((acc.length:Int)+1>1500)=false:=Xa (by omega);simp only[hd2,Ca,zGy hs hq rfl,Aa];unfold QY;rw[zl (EP (by simp only;omega))];have hns:(Zx (c::r)).2<:+s:=(Ol c r).trans (Zb hq);simp only[Aa,xR hs hns];refine .inl ⟨_,rfl,⟨acc++[(Zx (c::r)).1],cmtS (Zx (c::r)).2,?_,(aj _).trans hns,Bn _,by rw[Ba,Va];omega,?_⟩,?_⟩
     ·rw[Ba,Va];refine Prod.ext ?_ rfl;show(acc.length:Int)+1=((acc.length+1:Nat):Int);omega
     ·rw[Dv,Na];exact he
     ·have h1:=(Ol c r).length_le;have h2:=(aj (Zx (c::r)).2).length_le;show s.length - beh s (cmtS (Zx (c::r)).2)<s.length - beh s (c::r);unfold beh at*;rw[Fa]at*;omega
  obtain⟨z,hz1,hz2⟩:=hmain;rw[hz1,hz2];by_cases hmany:1500<(qE s).length
  ·rw[La hmany,La hmany];rfl
  ·rw[Ja hmany,Ja hmany];rfl
end Go.Lv.VT
