/- The writing of names. -/
import Derived.Test.YtcdeccnjlkkejaaGreatDoorNam
set_option linter.unusedSimpArgs false
set_option linter.unusedVariables false
namespace Go.Lv.VT
set_option maxRecDepth 100000
def escC(c:UInt8):Str:=bif decide (32<c.toNat)&&decide (c.toNat<127)&& !digB c&& !alB c then [92,c]else 92::(hexS c.toNat++[32])
def pcW(dash:Bool)(k:Nat)(c:UInt8):Str:=bif letB c&&(k==0|| !digB c)&& !dash then [c]else escC c
def encW(dash:Bool):Nat->Str->Str
 |_,[]=>[]
 |k,c::r=>pcW dash k c++encW dash (k - 1) r
theorem OY(c:UInt8):namN c.toNat=letB c:=by
 have: ∀n:Nat,n<256->namN (UInt8.ofNat n).toNat=letB (UInt8.ofNat n):=by decide+d
 have h:=f c.toNat (Rb c)
 rwa [Gc]at h
theorem zCe(c:UInt8):Ho (c.toNat:Int)=some (letB c):=by rw[UU,OY]
theorem VN(c:UInt8):qA (c.toNat:Int)=some (digB c):=VU c
theorem eY(c:UInt8):su (c.toNat:Int)=some (alB c):=of_n (by decide+d) c
theorem aZ(c:UInt8):wu64 (c.toNat:Int)=(c.toNat:Int):=by
 have:=Rb c;show IntKind.u64.wrap _=_;have h: ∀n:Int,IntKind.u64.wrap n=n%18446744073709551616:=fun n=>by simp[IntKind.wrap,IntKind.bits,IntKind.signed]
 rw[h];omega
theorem jB(c:UInt8):Zw ((c.toNat:Nat):Int)=some c:=by rw[Zx (Rb c),Gc]
theorem rO(n:Nat):(hexS n).length<=2:=by unfold hexS;split<;>simp
theorem Ou(c:UInt8){acc:Str}(ha:acc.length<=1000000000):ZW ((c.toNat:Int),acc)=some (acc++escC c):=by
 have hc:=Rb c;unfold ZW escC;simp only[ze,VN,eY];have e1:decide ((c.toNat:Int)>32)=decide (32<c.toNat):=by rw[uf];omega
 have e2:decide ((c.toNat:Int)<127)=decide (c.toNat<127):=by rw[uf];omega
 rw[e1,e2];have f:short (acc++[(92:UInt8)])=true:=Ja (by rw[Ba,Cb];omega);have hu:Fq ((wu64 (c.toNat:Int),16),acc++[(92:UInt8)])=some (acc++[(92:UInt8)]++hexS c.toNat):=by unfold Fq;simp only[aZ,f];rw[zy (by simp;omega)];rfl
 have j:=rO c.toNat;have d:need (Zb acc.length 1 1) (ze (Fq ((wu64 (c.toNat:Int),16),acc++[(92:UInt8)])) fun i=>need (Zb i.length 1 1) (some (i++[(32:UInt8)])))=some (acc++92::(hexS c.toNat++[32])):=by rw[zy (mh (by omega)),hu];simp only[ze,Aa];rw[zy (mh (by rw[Ba,Ba,Cb];omega))];simp
 simp only[ze]at d;rw[d];cases decide (32<c.toNat)with
 |false=>rfl
 |true=>
  cases decide (c.toNat<127)with
  |false=>rfl
  |true=>
   cases digB c with
   |true=>rfl
   |false=>
    cases alB c with
    |true=>rfl
    |false=> simp only[zu,Ka,Ec,Bool.and_self,Aa,jB];rw[zy (mh (by omega))]
theorem gy(c:UInt8):(escC c).length<=4:=by
 have:=rO c.toNat;unfold escC;cases decide (32<c.toNat)&&decide (c.toNat<127)&& !digB c&& !alB c with
 |true=>show 2<=4;omega
 |false=>rw[Ia,Ea,Ba,Cb];omega
theorem GN(dash:Bool)(k:Nat)(c:UInt8):(pcW dash k c).length<=4:=by
 have:=gy c;unfold pcW;cases letB c&&(k==0|| !digB c)&& !dash with
 |true=>show 1<=4;omega
 |false=>exact d
theorem iy(dash:Bool): ∀(k:Nat) (l:Str),(encW dash k l).length<=4*l.length
 |_,[]=>by unfold encW;simp
 |k,c::r=>by have:=GN dash k c;have:=iy dash (k - 1) r;unfold encW;rw[Ba,Ea];omega
theorem zB2{dash:Bool}{k i:Nat}{l:Str}(h:i<l.length):encW dash (k - i) (l.drop i)=pcW dash (k - i) l[i]++encW dash (k - (i+1)) (l.drop (i+1)):=by rw[Yb h,encW,show k - i - 1=k - (i+1) by omega]
theorem zDi {R:Type} {step:Int×List UInt8->Option (LO (Int×List UInt8) (List UInt8) R)} {l acc:Str} {k:Nat} {dash:Bool} (hl:l.length<=100000) (ha:acc.length<=100000000)
  (h1: ∀(i:Nat) (a:Str) (hi:i<l.length),a.length<=500000000->step ((i:Int),a)=some (.again (w64 ((i:Int)+1),a++pcW dash (k - i) l[i])))
  (h2: ∀a,step ((l.length:Int),a)=some (.out a)):Rh step (0,acc)=some (.out (acc++encW dash k l)):=by
 refine Qj (fun z=> ∃(i:Nat) (a:Str),z=((i:Int),a)/\i<=l.length/\a.length<=acc.length+4*i/\a++encW dash (k - i) (l.drop i)=acc++encW dash k l) (fun z=>l.length - z.1.toNat) _ ?_ ⟨0,acc,rfl,by omega,by omega,rfl⟩;rintro _ ⟨i,a,rfl,hi,f,c⟩;rcases Yc i l.length with h|h
 ·refine .inl ⟨_,h1 i a h (by omega),⟨i+1,_,by rw[Za (by omega) (by omega)];rfl,by omega,?_,?_⟩,by simp only;rw[Za (by omega) (by omega)];omega⟩
  ·have:=GN dash (k - i) l[i];rw[Ba];omega
  ·rw[<-c,zB2 h,Na]
 ·have:i=l.length:=by omega
  subst d;refine .inr (.inl ⟨_,h2 a,?_⟩);rw[<-c,Re (Va _)];rw[show encW dash (k - l.length) []=[] by rw[encW],Ab]
def Po(k:Nat)(l:Str):Bool:= !(k==0)&&l==[45]
def QW(l:Str):Nat:=if [45].isPrefixOf l then 2 else 1
theorem ay(l:Str):Pm l=some ((QW l:Nat):Int):=by unfold Pm QW;simp only[ze,Bv,Aa];cases List.isPrefixOf [45] l<;>rfl
def qm(l:Str):Str:=encW (l==[45]) (QW l) l
theorem Ux{n:Nat}(h:n<16):Qb (hexD n)=true/\hexN (hexD n)=n/\(hexD n==10)=false/\letB (hexD n)=true:=by
 have: ∀n:Nat,n<16->Qb (hexD n)=true/\hexN (hexD n)=n/\(hexD n==10)=false/\letB (hexD n)=true:=by decide+c
 exact d n h
theorem XJ{k n:Nat}{c:UInt8}{r:Str}(h:Qb c=true):hexes (k+1) n (c::r)=hexes k (16*n+hexN c) r:=by rw[hexes,La h]
theorem vM{n:Nat}(h:n<256)(R:Str):hexes 6 0 (hexS n++32::R)=(n,32::R):=by
 unfold hexS;by_cases h1:n<16
 ·obtain⟨a,b,_⟩:=Ux h1;rw[La h1,Gd,XJ a,b,yG _ _ (32::R) (show Qb 32=false by decide)];simp
 ·obtain⟨a,b,_⟩:=Ux (show n / 16<16 by omega);obtain⟨c,b',_⟩:=Ux (show n%16<16 by omega);rw[Ha h1,ja,Gd,XJ a,XJ c,b,b',yG _ _ (32::R) (show Qb 32=false by decide)];rw[show 16*(16*0+n / 16)+n%16=n by omega]
theorem XI{n:Nat}(h:n<256)(R:Str): ∃d t,hexS n++R=d::t/\Qb d=true/\(d==10)=false:=by
 unfold hexS;by_cases h1:n<16
 ·obtain⟨a,_,b,_⟩:=Ux h1;exact⟨_,_,by rw[La h1];rfl,a,b⟩
 ·obtain⟨a,_,b,_⟩:=Ux (show n / 16<16 by omega);exact⟨_,_,by rw[Ha h1];rfl,a,b⟩
theorem CQ{c:UInt8}(h0:c≠0)(h:c.toNat<128):Xh c.toNat=[c]:=by
 have hn:c.toNat≠0:=by intro e;exact h0 (Tf.1 e)
 unfold Xh;rw[Ha (by omega),La h,Gc]
theorem rQ{r:Str}(h:escS (92::r)=true):zm (92::r)=((zq r).1++(zm (zq r).2).1,(zm (zq r).2).2):=by rw[zH,Ha (by decide),La h]
theorem yN{c:UInt8}(h0:c≠0)(h:c.toNat<128)(R:Str):zm (escC c++R)=(c::(zm R).1,(zm R).2):=by
 unfold escC;cases u:decide (32<c.toNat)&&decide (c.toNat<127)&& !digB c&& !alB c with
 |true=>
  rw[Ka];have p:Qb c=false/\(c==10)=false:=by
   have: ∀n:Nat,n<256->(decide (32<(UInt8.ofNat n).toNat)&&decide ((UInt8.ofNat n).toNat<127)&& !digB (UInt8.ofNat n)&& !alB (UInt8.ofNat n))=true->Qb (UInt8.ofNat n)=false/\(UInt8.ofNat n==10)=false:=by decide+i
   have:=f c.toNat (Rb c);rw[Gc]at f;exact f u
  have j:zq (c::R)=([c],R):=by show(if Qb c then _ else _)=_;rw[Ha (by rw[p.1];decide)]
  rw[show [92,c]++R=92::c::R from rfl,rQ (by unfold escS;rw[show atS (92::c::R) 0=92 from rfl,show atS (92::c::R) 1=c from rfl,p.2];rfl),j];rfl
 |false=>
  rw[Ia,ja,Na];obtain⟨d,t,e,v,m⟩:=XI (n:=c.toNat) (Rb c) ([32]++R);have j:zq (hexS c.toNat++([32]++R))=([c],R):=by have r:=vM (n:=c.toNat) (Rb c) R;rw[show(32::R:Str)=[32]++R from rfl,e]at r;rw[e];show(if Qb d then(Xh (hexes 6 0 (d::t)).1,unsp (hexes 6 0 (d::t)).2)else _)=_;rw[La v,r,CQ h0 h];rfl
  rw[rQ (by rw[e];unfold escS;rw[show atS (92::d::t) 0=92 from rfl,show atS (92::d::t) 1=d from rfl,m];rfl),j];rfl
theorem sG{c:UInt8}(h: ¬c.toNat<128):letB c=true/\digB c=false:=by
 have: ∀n:Nat,n<256-> ¬(UInt8.ofNat n).toNat<128->letB (UInt8.ofNat n)=true/\digB (UInt8.ofNat n)=false:=by decide+f
 have:=d c.toNat (Rb c);rw[Gc]at d;exact d h
theorem UM{dash:Bool}{k:Nat}{c:UInt8}(h0:c≠0)(f:dash=true->c.toNat<128)(R:Str):zm (pcW dash k c++R)=(c::(zm R).1,(zm R).2):=by
 unfold pcW;cases d:letB c&&(k==0|| !digB c)&& !dash with
 |true=> rw[Da,Da]at d;rw[Ka,Gd,zH,La d.1.1]
 |false=>
  rw[Ia];refine yN h0 ?_ R;by_cases h:c.toNat<128
  ·exact h
  ·obtain⟨a,b⟩:=sG h;rw[a,b,Ec,Jf]at d;exact f (by cases dash<;>simp_all)
theorem AO{dash:Bool}: ∀(k:Nat) (l:Str),Zn l=true->(dash=true-> ∀c∈l,c.toNat<128)->zm (encW dash k l)=(l,[])
 |_,[],_,_=>by rw[encW,qN]
 |k,c::r,h,d=>by unfold Zn at h;rw[Pd,Da]at h;rw[encW,UM (by rintro rfl;exact absurd h.1 (by decide)) (fun e=>d e c (Jb ..)),AO (k - 1) r h.2 (fun e x f=>d e x (Eb _ f))]
theorem IZ{l:Str}(h:Zn l=true):zm (qm l)=(l,[]):=by refine AO _ _ h (fun e c hc=> ?_);rw[Ib.1 e,Sa]at hc;subst hc;decide
theorem kC{dash:Bool}{k:Nat}(hk:0<k)(c:UInt8)(R:Str): ∃d t,pcW dash k c++R=d::t/\(d=92/\escS (d::t)=true\/(d=c/\dash=false/\letB d=true/\digB d=false/\t=R)):=by
 have i:(k==0)=false:=by rw[Ga];omega
 unfold pcW;rw[i,Vd];cases f:letB c&& !digB c&& !dash with
 |true=> rw[Da,Da,xe,xe]at f;exact⟨c,R,rfl, .inr ⟨rfl,f.2,f.1.1,f.1.2,rfl⟩⟩
 |false=>
  rw[Ia];unfold escC;cases j:decide (32<c.toNat)&&decide (c.toNat<127)&& !digB c&& !alB c with
  |true=>
   refine⟨92,c::R,rfl, .inl ⟨rfl,?_⟩⟩;have:c≠10:=by rintro rfl;revert j;decide
   unfold escS;rw[show atS (92::c::R) 1=c from rfl,Ga.2 p];rfl
  |false=> obtain⟨d,t,e,r,m⟩:=XI (n:=c.toNat) (Rb c) ([32]++R);refine⟨92,_,by rw[Ia,ja,Na], .inl ⟨rfl,?_⟩⟩;rw[e];unfold escS;rw[show atS (92::d::t) 1=d from rfl,m];rfl
theorem gQ{d:UInt8}(h:letB d=true)(h2:digB d=false):fstB d=true\/d=45:=by unfold letB at h;rw[h2,Uf,Ld,Ib]at h;exact h
theorem DX{d:UInt8}{t:Str}(c:d=92)(h:escS (d::t)=true):nmS (d::t)=true:=by subst c;unfold nmS;rw[show atS (92::t) 0=92 from rfl,Ha (by decide),h,Jf]
theorem Dm{l:Str}(h:l≠[]):nmS (qm l)=true:=by
 cases l with
 |nil=>exact absurd rfl h
 |cons c r=>
  unfold qm encW;obtain⟨d,t,e,u⟩:=kC (dash:=(c::r:Str)==[45]) (k:=QW (c::r)) (by unfold QW;split<;>omega) c (encW ((c::r:Str)==[45]) (QW (c::r) - 1) r);rw[e];rcases u with⟨h1,h2⟩|⟨rfl,h2,h3,h4,m⟩
  ·exact DX h1 h2
  ·rcases gQ h3 h4 with p|rfl
   ·by_cases f:d=45
    ·subst f;exact absurd p (by decide)
    ·unfold nmS;rw[show atS (d::t) 0=d from rfl,Ha (by rw[Ib];exact f),p,Hf]
   ·have hr:r≠[]:=by rintro rfl;exact absurd h2 (by decide)
    cases r with
    |nil=>exact absurd rfl hr
    |cons c2 r2=>
     have hf:QW (45::c2::r2)=2:=rfl;rw[hf]at m;obtain⟨d2,t2,e2,i⟩:=kC (dash:=(45::c2::r2:Str)==[45]) (k:=2 - 1) (by omega) c2 (encW ((45::c2::r2:Str)==[45]) (2 - 1 - 1) r2);have ht:t=d2::t2:=by rw[m,encW,e2]
     rw[ht];unfold nmS;rw[show atS (45::d2::t2) 0=45 from rfl,La (show((45:UInt8)==45)=true from rfl),show atS (45::d2::t2) 1=d2 from rfl,show(45::d2::t2:Str).drop 1=d2::t2 from rfl];rcases i with⟨_,v⟩|⟨_,_,y,z,_⟩
     ·rw[v,Jf]
     ·rcases gQ y z with j|rfl
      ·rw[j];rfl
      ·simp
theorem Vq(m:UInt8):zZ m []=(some [],[]):=by rw[zZ]
theorem qR(m c:UInt8)(r:Str):zZ m (c::r)=if c==m then(some [],r)
  else if c==10 then(none,c::r)
  else if c==92 then
   (if r.isEmpty then(some [],[])
   else if atS r 0==10 then zZ m (r.drop 1)
   else((zZ m (zq r).2).1.map ((zq r).1++ ·),(zZ m (zq r).2).2))
  else((zZ m r).1.map (c:: ·),(zZ m r).2):=by rw[zZ]
theorem xD(m:UInt8)(l:Str):(zZ m l).2<:+l:=by
 match l with
 |[]=>rw[Vq];exact Ad _
 |c::r=>
  rw[qR];have hr:=Ee c r;split
  ·exact hr
  ·split
   ·exact Ad _
   ·split
    ·split
     ·exact List.nil_suffix
     ·split
      ·exact(xD m (r.drop 1)).trans ((Nf 1 r).trans hr)
      ·have:=zD r;exact(xD m (zq r).2).trans ((ZO r).trans hr)
    ·exact(xD m r).trans hr
termination_by l.length
decreasing_by
 all_goals first|(have:=zD r;simp only[Ea];omega)|(simp only[Ea,Ob];omega)
theorem rG(a b:Str)(x:Option Str):(x.map (b++ ·)).map (a++ ·)=x.map ((a++b)++ ·):=by
 cases x with
 |none=>rfl
 |some t=>show some (a++(b++t))=some ((a++b)++t);rw[Na]
theorem NP(a:Str)(b:UInt8)(x:Option Str):(x.map (b:: ·)).map (a++ ·)=x.map ((a++[b])++ ·):=rG a [b] x
def Yj:Option Str->zb
 |some t=>⟨5,t,0,[],false⟩
 |none=>⟨6,[],0,[],false⟩
theorem zCW{s q:Str}{m:UInt8}(v:s.length<=big)(hm:m::q<:+s):qi (sr s (m::q))=some (Yj (zZ m q).1,sr s (zZ m q).2):=by
 have hb:big=4194304:=rfl;have O:=Ck hm;unfold qi;simp only[ze,ah v hm,Aa,Wp,Ni v hm]
 let res:LX (za×zb×List UInt8) (zb×za):=match(zZ m q).1 with
  |some t=> .out (sr s (zZ m q).2,⟨0,[],0,[],false⟩,t)
  |none=> .ret (⟨6,[],0,[],false⟩,sr s (zZ m q).2)
 rw[Yp (r:=res)]
 ·show LX.go res _=_;cases h:(zZ m q).1 with
  |some t=>simp only[res,h];rfl
  |none=>simp only[res,h];rfl
 refine Qj (fun z=> ∃(p acc:Str),z=(sr s p,⟨0,[],0,[],false⟩,acc)/\p<:+s/\acc.length+4*p.length<=4*s.length/\(zZ m q).1=(zZ m p).1.map (acc++ ·)/\(zZ m q).2=(zZ m p).2) (fun z=>s.length - z.1.at_.toNat) _ ?_
  ⟨q,[],rfl,O,by have:=O.length_le;rw[Lc];omega,by simp,rfl⟩
 rintro _ ⟨p,acc,rfl,hp,hl,f,i⟩;simp only[ah v hp,Aa,Jp,YL,LW];cases p with
 |nil=> refine .inr (.inl ⟨_,rfl,?_⟩);rw[Vq]at f i;simp only[res,f,i,Kb,Ab]
 |cons c t=>
  have j:=hp.length_le;rw[Ea]at j hl;have ht:=Ck hp;rw[qR]at f i;rw[show(c::t).isEmpty=false from rfl,Ia,Wp,show((c.toNat:Int)==(m.toNat:Int))=(c==m)from iB c m,show atS (c::t) 0=c from rfl,Ni v hp];have mono: ∀u:Str,u.length<=t.length->u<:+s->s.length - beh s u<s.length - beh s (c::t):=by intro u hu V;unfold beh;rw[Ea];omega
  cases y:c==m with
  |true=> rw[y,La rfl]at f i;refine .inr (.inl ⟨_,by rw[Ka],?_⟩);simp only[res,f,i,Kb,Ab]
  |false=>
   rw[y,Ha (by decide)]at f i;rw[Ia];cases A:c==10 with
   |true=> rw[A,La rfl]at f i;refine .inr (.inr ⟨_,by rw[Ka],?_⟩);simp only[res,f,i,Option.map_none]
   |false=>
    rw[A,Ha (by decide)]at f i;rw[Ia];cases B:c==92 with
    |false=> rw[B,Ha (by decide)]at f i;simp only[zu,Ia,Aa,Ve,Sy];rw[zy (mh (by omega))];exact .inl ⟨_,rfl,⟨t,acc++[c],rfl,ht,by rw[Ba,Cb];omega,by rw[f,NP],i⟩,mono t (by omega) ht⟩
    |true=>
     rw[B,La rfl]at f i;simp only[zu,Ka,Cw v hp,Aa,Uc];have J:pk (c::t) 1=pk t 0:=rfl;rw[J,Jp];cases t with
     |nil=>
      rw[show([]:Str).isEmpty=true from rfl,La rfl]at f i;have L:beh s [c]=s.length - 1:=rfl;have h2:(if((s.length:Int)<w64 ((beh s [c]:Int)+2))then(s.length:Int)else w64 ((beh s [c]:Int)+2))=((beh s []:Nat):Int):=by rw[Za (by omega) (by omega),La (by omega)];unfold beh;rw[Lc];omega
      refine .inl ⟨(sr s [],⟨0,[],0,[],false⟩,acc),?_,⟨[],acc,rfl,List.nil_suffix,by rw[Lc];omega,by rw[f,Vq],by rw[i,Vq]⟩,mono [] (by simp) List.nil_suffix⟩;simp only[List.isEmpty_nil,Ka,Nc,Ia,Aa];rw[h2]
     |cons d u=>
      rw[show(d::u).isEmpty=false from rfl,Ha (by decide)]at f i;simp only[show(d::u).isEmpty=false from rfl,Ec,Ka,Ia,Aa,YL];cases U:atS (d::u) 0==10 with
      |true=>
       rw[U,La rfl]at f i;have hu:=Ck ht;rw[Ea]at j hl;have L:beh s (c::d::u)=s.length - (u.length+1+1):=by unfold beh;rw[Ea,Ea]
       have h2:(if((s.length:Int)<w64 ((beh s (c::d::u):Int)+2))then(s.length:Int)else w64 ((beh s (c::d::u):Int)+2))=((beh s u:Nat):Int):=by rw[Za (by omega) (by omega),Ha (by omega)];unfold beh;rw[Ea,Ea];omega
       refine .inl ⟨(sr s u,⟨0,[],0,[],false⟩,acc),?_,⟨u,acc,rfl,hu,by omega,f,i⟩,mono u (by rw[Ea];omega) hu⟩;simp only[Ka];rw[h2]
      |false=> rw[U,Ha (by decide)]at f i;have h4:=Nu (d::u);have W:=zD (d::u);refine .inl ⟨(sr s (zq (d::u)).2,⟨0,[],0,[],false⟩,acc++(zq (d::u)).1),?_,⟨_,_,rfl,(ZO _).trans ht,by rw[Ba];omega,by rw[f,rG],i⟩,mono _ W ((ZO _).trans ht)⟩;simp only[Ia,bI v hp (show acc.length<=1000000000 by omega),Aa]
theorem KW{n:Nat}(h0:n≠0)(h:n<16777216):ZT (w32 (n:Int))=some (Xh n):=by
 have a1:Zb 0 1 1=true:=mh (by omega);have a2:Zb 0 2 1=true:=mh (by omega);have c:Zb 0 3 1=true:=mh (by omega);have a4:Zb 0 4 1=true:=mh (by omega);have d:(128+n%64)<256:=by omega
 have f:(128+n / 64%64)<256:=by omega
 have i:(128+n / 4096%64)<256:=by omega
 unfold ZT ZY Xh;simp only[Rn (show n<2147483648 by omega),JO (show n<2147483648 by omega),ze,shr6,FW,EW,RP,Zx d,Zx f,Zx i,Aa];by_cases h1:n<128
 ·rw[Ja (by omega),Ka,Lx,Zx (by omega),Aa,zy a1,Ha (by omega),La h1,Kg (by omega)]
 ·rw[Db (by omega),Ia];by_cases h2:n<2048
  ·rw[Ja (by omega),Ka,mW (by omega),Zx (by omega)];simp only[Aa];rw[zy a2,Ha (by omega),Ha (by omega),La h2];rfl
  ·rw[Db (by omega),Ia];by_cases h3:n<55296
   ·rw[Ja (by omega),Ka,zh];simp only[Ka];rw[aF (by omega),Zx (by omega)];simp only[Aa];rw[zy c,Ha (by omega),Ha (by omega),Ha (by omega),La (by omega)];rfl
   ·rw[Db (by omega),Ia,zh];simp only[dX];by_cases h4:57343<n/\n<65536
    ·rw[Ja (by omega),Ja (by omega),Uc,Ka,aF (by omega),Zx (by omega)];simp only[Aa];rw[zy c,Ha (by omega),Ha (by omega),Ha (by omega),La (by omega)];rfl
    ·rw[show(decide ((57343:Int)<(n:Int))&&decide ((n:Int)<=65535))=false by rw[Hg];simp only[Rf];omega,Ia];by_cases j:65535<n/\n<=1114111
     ·rw[Ja (by omega),Ja (by omega),Uc,Ka,lW (by omega),Zx (by omega)];simp only[Aa];rw[zy a4,Ha (by omega),Ha (by omega),Ha (by omega),Ha (by omega)];rfl
     ·rw[show(decide ((n:Int)>65535)&&decide ((n:Int)<=1114111))=false by rw[Hg];simp only[Rf];omega,Ia,zy c,La (by omega)];rfl
theorem dR:ZT 65533=some lm:=by have h:=KW (n:=65533) (by omega) (by omega);rw[Rn (by omega)]at h;exact h
theorem M4{s l:Str}{c:UInt8}(f:s.length<=big)(hr:c::l<:+s):
  ZJ (sr s (c::l))=some (sr s (zq l).2,(zq l).1):=by
 have hl:=Ck hr;unfold ZJ;simp only[Ni f hr,ze,ah f hl,Aa,Jp];cases l with
 |nil=> rw[show([]:Str).isEmpty=true from rfl,Ka,dR];rfl
 |cons d r=>
  rw[show(d::r).isEmpty=false from rfl,Ia,gF];simp only[Aa,BD];cases v:Qb (atS (d::r) 0)with
  |false=>
   rw[Ec,Ka,Wp,Sy];simp only[Aa,Ni f hl];rw[zy (mh (n:=0) (by omega))];have:zq (d::r)=([d],r):=by show(if Qb d then _ else _)=_;rw[Ha (by rw[show Qb d=false from v];decide)]
   rw[y]
  |true=>
   rw[Nc,Ia];have z:zq (d::r)=(Xh (hexes 6 0 (d::r)).1,unsp (hexes 6 0 (d::r)).2):=by show(if Qb d then _ else _)=_;rw[La (show Qb d=true from v)]
   rw[z];rw[Qk (yO (l:=d::r) hl (fun n i q m hn hi=> ?_))]
   ·have m:(hexes 6 0 (d::r)).2<:+s:=(kD 6 0 _).trans hl;have p:=BI 6 0 (d::r);rw[show 16 ^ 6*(0+1)=16777216 from rfl]at p;simp only[ah f m,Aa,yw];have A:(bif spB (atS (hexes 6 0 (d::r)).2 0)then some (LX.out (((hexes 6 0 (d::r)).1:Int),(⟨s,w64 ((beh s (hexes 6 0 (d::r)).2:Int)+1)⟩:za)))else some (LX.out (((hexes 6 0 (d::r)).1:Int),sr s (hexes 6 0 (d::r)).2)):Option (LX (Int×za) (za×List UInt8)))
      =some (LX.out (((hexes 6 0 (d::r)).1:Int),sr s (unsp (hexes 6 0 (d::r)).2))):=by
     cases B:(hexes 6 0 (d::r)).2 with
     |nil=>rfl
     |cons e t=> rw[B]at m;rw[show atS (e::t) 0=e from rfl,Ni f m];show _=some (LX.out (_,sr s (if spB e then t else e::t)));cases spB e<;>rfl
    rw[A,zh];simp only;by_cases h0:(hexes 6 0 (d::r)).1=0
    ·rw[h0,show((((0:Nat):Int))==0)=true from rfl,Ka,zh];simp only[Rn (show 65533<2147483648 by omega),show w32 (65533:Int)=65533 from Rn (n:=65533) (by omega),dR,Aa];rfl
    ·rw[show(((hexes 6 0 (d::r)).1:Int)==0)=false by rw[Ga];omega,Ia,zh];simp only[KW h0 p,Aa]
   ·simp only[ah f m,Aa,gF,BD];have u:decide ((i:Int)<6)=decide (i<6):=by rw[uf];omega
    rw[u];cases decide (i<6)with
    |false=>rfl
    |true=>
     rw[Ka,Vb];cases j:Qb (atS q 0)with
     |false=>rfl
     |true=>
      cases q with
      |nil=>exact absurd j (by decide)
      |cons e t=>
       have hI:hexI (atS (e::t) 0)=(hexN (atS (e::t) 0):Int):=by unfold hexI;rw[La j]
       rw[hI,uW hn (FC j),Ni f m,Za (by omega) (by omega)];rfl
theorem Ty:badS []=[]:=by rw[badS]
theorem Tz(c:UInt8)(r:Str):badS (c::r)=if c==41 then r else if escS (c::r)then badS (zq r).2 else badS r:=by rw[badS]
theorem vB(l:Str):badS l<:+l:=by
 match l with
 |[]=>rw[Ty];exact Ad _
 |c::r=>
  rw[Tz];have hr:=Ee c r;split
  ·exact hr
  ·split
   ·have:=zD r;exact(vB (zq r).2).trans ((ZO r).trans hr)
   ·exact(vB r).trans hr
termination_by l.length
decreasing_by
 all_goals first|(have:=zD r;simp only[Ea];omega)|(simp only[Ea];omega)
theorem zDK{s t:Str}{c:UInt8}(i:s.length<=big)(h:c::t<:+s):geti s (w64 ((beh s t:Int) - 1))=some c:=by
 have hb:big=4194304:=rfl;have h1:=h.length_le;rw[Ea]at h1;have f:=Ku h;have e1:beh s t=beh s (c::t)+1:=by unfold beh;rw[Ea];omega
 have d:beh s (c::t)<s.length:=by unfold beh;rw[Ea];omega
 rw[Za (by omega) (by omega),show(beh s t:Int) - 1=((beh s (c::t):Nat):Int) by omega,QX d];rw[Yb d]at f;injection f with f _;rw[f]
theorem badR{s q:Str}(i:s.length<=big)(v:q<:+s):ZQ (sr s q)=some (⟨8,[],0,[],false⟩,sr s (badS q)):=by
 unfold ZQ;refine oI ?_;refine Qj (fun z=> ∃(p:Str),z=(sr s p,(⟨0,[],0,[],false⟩:zb))/\p<:+s/\badS q=badS p) (fun z=>s.length - z.1.at_.toNat) _ ?_ ⟨q,rfl,v,rfl⟩;rintro _ ⟨p,rfl,hp,f⟩;simp only[ze,ah i hp,Aa,Jp];cases p with
 |nil=>exact .inr (.inr ⟨_,rfl,by rw[f,Ty]⟩)
 |cons c t=>
  have j:=hp.length_le;rw[Ea]at j;have ht:=Ck hp;have mono: ∀u:Str,u.length<=t.length->u<:+s->s.length - beh s u<s.length - beh s (c::t):=by intro u hu y;unfold beh;rw[Ea];omega
  rw[show(c::t).isEmpty=false from rfl,Ia,JI i hp];rw[Tz]at f;simp only[Aa];cases d:escS (c::t)with
  |true=>
   have r:(c==41)=false:=by unfold escS at d;rw[Da,Ib]at d;rw[show c=92 from d.1];decide
   rw[d,r,Ha (by decide),La rfl]at f;rw[Ka,M4 i hp];exact .inl ⟨_,rfl,⟨_,rfl,(ZO t).trans ht,f⟩,mono _ (zD t) ((ZO t).trans ht)⟩
  |false=>
   rw[Ia,Ni i hp,zDK i hp];simp only[Aa];rw[show((c.toNat:Int)==41)=(c==41)from iB c 41];rw[d,Ha (by decide: ¬(false=true))]at f;cases m:c==41 with
   |true=> rw[m,La rfl]at f;exact .inr (.inr ⟨_,by rw[Ka],by rw[f]⟩)
   |false=> rw[m,Ha (by decide)]at f;exact .inl ⟨_,by rw[Ia],⟨t,rfl,ht,f⟩,mono t (Va _) ht⟩
theorem Hq:urlS []=(some [],[]):=by rw[urlS]
theorem Lm(c:UInt8)(r:Str):urlS (c::r)=if c==41 then(some [],r)
  else if spB c then(match past spB r with
   |[]=>(some [],[])
   |d::f=>if d==41 then(some [],f)else(none,badS (d::f)))
  else if c==34||c==39||c==40||unB c||c==92&& !escS (c::r)then(none,badS (c::r))
  else if c==92 then((urlS (zq r).2).1.map ((zq r).1++ ·),(urlS (zq r).2).2)
  else((urlS r).1.map (c:: ·),(urlS r).2):=by rw[urlS];cases past spB r<;>rfl
theorem WG(l:Str):(urlS l).2<:+l:=by
 match l with
 |[]=>rw[Hq];exact Ad _
 |c::r=>
  rw[Lm];have hr:=Ee c r;split
  ·exact hr
  ·split
   ·have hp:=(bn spB r).trans hr;cases f:past spB r with
    |nil=>exact List.nil_suffix
    |cons d i=>
     rw[f]at hp;simp only;split
     ·exact(Ee d i).trans hp
     ·exact(vB _).trans hp
   ·split
    ·exact vB _
    ·split
     ·have:=zD r;exact(WG (zq r).2).trans ((ZO r).trans hr)
     ·exact(WG r).trans hr
termination_by l.length
decreasing_by
 all_goals first|(have:=zD r;simp only[Ea];omega)|(simp only[Ea];omega)
def Wj:Option Str->zb
 |some t=>⟨7,t,0,[],false⟩
 |none=>⟨8,[],0,[],false⟩
theorem zDb(c:UInt8): ∃y,zu (!(bif bif bif bif (c.toNat:Int)==34 then true else(c.toNat:Int)==39 then true else(c.toNat:Int)==40 then true else decide ((c.toNat:Int)<=8)then true else(c.toNat:Int)==11)) (ZM ((c.toNat:Int),14,31)) (default:Bool)=some y/\
  (bif bif bif bif bif bif (c.toNat:Int)==34 then true else(c.toNat:Int)==39 then true else(c.toNat:Int)==40 then true else decide ((c.toNat:Int)<=8)then true else(c.toNat:Int)==11 then true else y then true else(c.toNat:Int)==127)=(c==34||c==39||c==40||unB c):=by
 have f: ∀n:Nat,n<256->((zu (!(bif bif bif bif (n:Int)==34 then true else(n:Int)==39 then true else(n:Int)==40 then true else decide ((n:Int)<=8)then true else(n:Int)==11)) (ZM ((n:Int),14,31)) (default:Bool)).elim false fun y=>
  (bif bif bif bif bif bif (n:Int)==34 then true else(n:Int)==39 then true else(n:Int)==40 then true else decide ((n:Int)<=8)then true else(n:Int)==11 then true else y then true else(n:Int)==127)==(UInt8.ofNat n==34||UInt8.ofNat n==39||UInt8.ofNat n==40||unB (UInt8.ofNat n)))=true:=by decide+d
 have h:=f c.toNat (Rb c);rw[Gc]at h;cases hc:zu (!(bif bif bif bif (c.toNat:Int)==34 then true else(c.toNat:Int)==39 then true else(c.toNat:Int)==40 then true else decide ((c.toNat:Int)<=8)then true else(c.toNat:Int)==11)) (ZM ((c.toNat:Int),14,31)) (default:Bool)with
 |none=>rw[hc]at h;cases h
 |some y=> rw[hc]at h;exact⟨y,rfl,Ib.1 h⟩
theorem TL(c:UInt8)(t:Str):(pk (c::t) 0== -1)=false:=by rw[Jp];rfl
theorem urlR{s B:Str}(j:s.length<=big)(J:B<:+s):Qr (sr s B)=some (Wj (urlS (past spB B)).1,sr s (urlS (past spB B)).2):=by
 have hb:big=4194304:=rfl;unfold Qr;rw[uA j J];simp only[ze,Aa];have W:=Iq spB J;generalize past spB B=q at W ⊢;refine oI ?_;refine Qj (fun z=> ∃(p acc:Str),z=(sr s p,(⟨0,[],0,[],false⟩:zb),acc)/\p<:+s/\acc.length+4*p.length<=4*s.length/\(urlS q).1=(urlS p).1.map (acc++ ·)/\(urlS q).2=(urlS p).2) (fun z=>s.length - z.1.at_.toNat) _ ?_
  ⟨q,[],rfl,W,by have:=W.length_le;rw[Lc];omega,by simp,rfl⟩
 rintro _ ⟨p,acc,rfl,hp,hl,f,i⟩;simp only[ah j hp,Aa,yw];cases p with
 |nil=> refine .inr (.inr ⟨_,rfl,?_⟩);rw[Hq]at f i;rw[f,i];simp only[Kb,Ab,Wj]
 |cons c t=>
  have L:=hp.length_le;rw[Ea]at L hl;have ht:=Ck hp;have mono: ∀u:Str,u.length<=t.length->u<:+s->s.length - beh s u<s.length - beh s (c::t):=by intro u hu a6;unfold beh;rw[Ea];omega
  rw[Lm]at f i;rw[show atS (c::t) 0=c from rfl];cases m:spB c with
  |true=>
   have r:(c==41)=false:=by rw[Ga];rintro rfl;exact absurd m (by decide)
   rw[r,m,Ha (by decide),La rfl]at f i;have Y:past spB (c::t)=past spB t:=by rw[past,La m]
   have v:past spB t<:+s:=Iq spB ht;rw[Ka,uA j hp,Y];simp only[Aa,ah j v];cases O:past spB t with
   |nil=> rw[O]at f i;refine .inr (.inr ⟨_,rfl,?_⟩);simp only at f i;rw[f,i];simp only[Kb,Ab,Wj]
   |cons d r'=>
    rw[O]at f i v;simp only at f i;unfold bne;rw[XL,TL,show atS (d::r') 0=d from rfl];cases Z:d==41 with
    |true=> rw[Z,La rfl]at f i;refine .inr (.inr ⟨_,?_,rfl⟩);simp only[Nc,Ia,zh,TL,XL,show atS (d::r') 0=d from rfl,Z,Ka,Ni j v];rw[f,i];simp only[Kb,Ab,Wj]
    |false=> rw[Z,Ha (by decide)]at f i;refine .inr (.inr ⟨_,?_,rfl⟩);simp only[Ec,Ka,badR j v,Aa,zqI];rw[f,i];rfl
  |false=>
   rw[Ia,zh];simp only[TL,XL,show atS (c::t) 0=c from rfl,Ia,Ni j hp];cases r:c==41 with
   |true=> rw[r,La rfl]at f i;refine .inr (.inr ⟨_,by rw[Ka],?_⟩);rw[f,i];simp only[Kb,Ab,Wj]
   |false=>
    rw[r,Ha (by decide),m,Ha (by decide)]at f i;rw[Ia];obtain⟨y,a3,a5⟩:=zDb c;rw[Wp,a3];simp only[Aa];rw[a5];cases U:(c==34||c==39||c==40||unB c)with
    |true=> rw[U,Hf,La rfl]at f i;refine .inr (.inr ⟨_,?_,rfl⟩);rw[Ka,badR j hp];simp only[Aa];rw[f,i];rfl
    |false=>
     rw[U,Vd]at f i;rw[Ia];unfold bne;rw[show((c.toNat:Int)==92)=(c==92)from iB c 92];cases V:c==92 with
     |false=> rw[V,Sc,Ha (by decide),Ha (by decide)]at f i;rw[Ec,Ka,Sy];simp only[Aa];rw[zy (mh (by omega))];exact .inl ⟨_,rfl,⟨t,acc++[c],rfl,ht,by rw[Ba,Cb];omega,by rw[f,NP],i⟩,mono t (Va _) ht⟩
     |true=>
      rw[V,Vb]at f i;rw[Nc,Ia,JI j hp];simp only[Aa];cases A:escS (c::t)with
      |true=> rw[A,Nc,Ha (by decide),La rfl]at f i;have h4:=Nu t;have h5:=zD t;refine .inl ⟨(sr s (zq t).2,⟨0,[],0,[],false⟩,acc++(zq t).1),?_,⟨_,_,rfl,(ZO _).trans ht,by rw[Ba];omega,by rw[f,rG],i⟩,mono _ h5 ((ZO _).trans ht)⟩;simp only[Ka,bI j hp (show acc.length<=1000000000 by omega),Aa]
      |false=> rw[A,Ec,La rfl]at f i;refine .inr (.inr ⟨_,?_,rfl⟩);rw[Ia,badR j hp];simp only[Aa];rw[f,i];rfl
def hdB(b:UInt8):Bool:=b==45||fstB b||b==92
theorem gq{q:Str}(h:nmS q=true):hdB (atS q 0)=true:=by
 unfold nmS at h;unfold hdB;cases c:atS q 0==45 with
 |true=>rfl
 |false=>
  rw[c,Ha (by decide),Ld]at h;rcases h with h|h
  ·rw[h];rfl
  ·unfold escS at h;rw[Da]at h;rw[h.1,Jf]
theorem Uw{b:UInt8}(h:hdB b=true):spB b=false/\(b==34)=false/\(b==39)=false/\(b==35)=false/\(b==64)=false/\(b==47)=false/\(b==60)=false/\(b==43)=false/\(b==46)=false/\digB b=false/\b≠0:=by
 have: ∀n:Nat,n<256->hdB (UInt8.ofNat n)=true->spB (UInt8.ofNat n)=false/\(UInt8.ofNat n==34)=false/\(UInt8.ofNat n==39)=false/\(UInt8.ofNat n==35)=false/\(UInt8.ofNat n==64)=false/\(UInt8.ofNat n==47)=false/\(UInt8.ofNat n==60)=false/\(UInt8.ofNat n==43)=false/\(UInt8.ofNat n==46)=false/\digB (UInt8.ofNat n)=false/\UInt8.ofNat n≠0:=by decide+d
 have:=c b.toNat (Rb b);rw[Gc]at c;exact c h
theorem VW{q:Str}(h:nmS q=true):nbS q=false:=by
 obtain⟨_,_,_,_,_,_,_,c,d,f,_⟩:=Uw (gq h);unfold nbS unsign Ug;rw[c,Vd];cases i:atS q 0==45 with
 |false=> rw[Ha (by decide)];unfold undot;rw[d,Ha (by decide),f]
 |true=>
  rw[La rfl];unfold nmS at h;rw[i,La rfl]at h;have h1:hdB (atS q 1)=true:=by
   unfold hdB;cases hf:fstB (atS q 1)with
   |true=>simp
   |false=>
    cases h4:atS q 1==45 with
    |true=>rfl
    |false=> rw[hf,h4,Vd,Vd]at h;unfold escS at h;rw[Da,Qy]at h;rw[h.1];rfl
  obtain⟨_,_,_,_,_,_,_,_,j,m,_⟩:=Uw h1;unfold undot;rw[Qy,j,Ha (by decide),Qy,m]
theorem OW{s r:Str}:(decide ((0:Int)<=(beh s r:Int))&&decide ((beh s r:Int)<=(s.length:Int)))=true:=by have:=Yk s r;rw[Ja (by omega),Ja (by omega)];rfl
theorem OG{s r:Str}(hr:r<:+s):List.drop ((beh s r:Int)).toNat s=r:=by rw[jb,Ku hr]
theorem Bw{a b:UInt8}{m t:Str}(h:(b==a)=false):(a::m).isPrefixOf (b::t)=false:=by
 rw[List.isPrefixOf];have:(a==b)=false:=by rw[Ga]at h ⊢;exact fun e=>h e.symm
 rw[c];rfl
theorem zCU{a:UInt8}{m q:Str}(h0:a≠0)(h:(atS q 0==a)=false):(a::m).isPrefixOf q=false:=by
 cases q with
 |nil=>rfl
 |cons b t=>exact Bw h
def capF(cap:Nat):Nat->Str->Nat
 |n,[]=>n
 |n,c::r=>capF cap (min cap (decN n c)) r
theorem yQ(cap:Nat): ∀(l:Str) (n:Nat) (c:UInt8),capF cap n (l++[c])=min cap (decN (capF cap n l) c)
 |[],_,_=>rfl
 |d::l,n,c=>by show capF cap (min cap (decN n d)) (l++[c])=_;rw[yQ cap l];rfl
theorem gB(cap:Nat): ∀(l:Str) (n:Nat),n<=cap->capF cap n l<=cap
 |[],_,h=>h
 |c::l,n,_=>gB cap l _ (Nat.min_le_left ..)
theorem FP {R:Type} {step:Int×Int->Option (LO (Int×Int) Int R)} {l:Str} {cap:Nat} (hl:l.all digB=true) (hn:l.length<=100000) (hc:cap<=1000000000000)
  (h1: ∀(v:Int) (i:Nat) (hi:i<l.length),step (v,(i:Int))=some (.again (if(cap:Int)<w64 (w64 (10*v)+w64 (wu8 ((l[i].toNat:Int) - 48)))then(cap:Int)else w64 (w64 (10*v)+w64 (wu8 ((l[i].toNat:Int) - 48))),w64 ((i:Int)+1))))
  (h2: ∀v:Int,step (v,(l.length:Int))=some (.out v)):Rh step (0,0)=some (.out ((capF cap 0 l:Nat):Int)):=by
 refine Qj (fun s=> ∃i:Nat,i<=l.length/\s=(((capF cap 0 (l.take i):Nat):Int),(i:Int))) (fun s=>l.length - s.2.toNat) _ ?_ ⟨0,by omega,rfl⟩;rintro _ ⟨i,hi,rfl⟩;rcases Yc i l.length with h|h
 ·refine .inl ⟨_,h1 _ i h,⟨i+1,by omega,?_⟩,by simp only;rw[Za (by omega) (by omega)];omega⟩;have d:=Ru (Xa.1 hl _ (We h));have ht:capF cap 0 (l.take (i+1))=min cap (decN (capF cap 0 (l.take i)) l[i]):=by rw[af h,yQ]
  have hb:=gB cap (l.take i) 0 (Pb _);have hu:wu8 ((l[i].toNat:Int) - 48)=((l[i].toNat - 48:Nat):Int):=by show IntKind.u8.wrap _=_;rw[IntKind.wrap_u8];omega
  unfold decN at ht;rw[hu,Za (n:=10*_) (by omega) (by omega),Za (n:=((l[i].toNat - 48:Nat):Int)) (by omega) (by omega),Za (n:=(i:Int)+1) (by omega) (by omega),Za (by omega) (by omega)];refine Prod.ext ?_ ?_
  ·show(if(cap:Int)<10*((capF cap 0 (l.take i):Nat):Int)+((l[i].toNat - 48:Nat):Int)then(cap:Int)else 10*((capF cap 0 (l.take i):Nat):Int)+((l[i].toNat - 48:Nat):Int))=_;split<;>omega
  ·show(i:Int)+1=((i+1:Nat):Int);omega
 ·have:i=l.length:=by omega
  subst c;refine .inr (.inl ⟨_,h2 _,?_⟩);rw[Mf]
theorem mP: ∀(k n:Nat),n<=Di->Ij k n<=Di
 |0,_,h=>h
 |k+1,n,h=>by
  unfold Ij;split
  ·exact h
  ·exact mP k _ (Nat.min_le_left ..)
theorem l8 {R:Type} {step:Int×Int->Option (LO (Int×Int) Int R)} {v:Nat} {p:Int} (hp:p<=4000000) (d: -4000000<=p) (hv:v<=1000000000000)
  (h: ∀(a b:Int),step (a,b)=bif bif bif decide (a>0)then decide (b>0)else false then decide (b<1000000000000)else false then some (.again (w64 (a - 1),if 1000000000000<w64 (10*b)then 1000000000000 else w64 (10*b)))else some (.out b)):
  Rh step (p,(v:Int))=some (.out ((Ij p.toNat v:Nat):Int)):=by
 have hm:Di=1000000000000:=rfl;refine Qj (fun s=> ∃(a:Int) (b:Nat),s=(a,(b:Int))/\a<=4000000/\ -4000000<=a/\b<=1000000000000/\Ij a.toNat b=Ij p.toNat v) (fun s=>s.1.toNat) _ ?_ ⟨p,v,rfl,hp,d,hv,rfl⟩;rintro _ ⟨a,b,rfl,ha,i,hb,c⟩;rw[h];by_cases h1:a>0
 ·obtain⟨k,hk⟩: ∃k,a.toNat=k+1:=⟨a.toNat - 1,by omega⟩;rw[hk,Ij]at c;rw[Ja h1,Ka];by_cases h2:b=0\/Di<=b
  ·rw[La h2]at c;have:(bif bif decide (((b:Nat):Int)>0)then decide (((b:Nat):Int)<1000000000000)else false then(some (.again (w64 (a - 1),if 1000000000000<w64 (10*(b:Int))then 1000000000000 else w64 (10*(b:Int)))):Option (LO (Int×Int) Int R))else some (.out (b:Int)))=some (.out (b:Int)):=by
    rcases h2 with h2|h2
    ·subst h2;rfl
    ·have e:decide (((b:Nat):Int)<1000000000000)=false:=Db (by omega);rw[e];cases decide (((b:Nat):Int)>0)<;>rfl
   exact .inr (.inl ⟨_,f,by rw[c]⟩)
  ·rw[Ha h2]at c;have e1:decide (((b:Nat):Int)>0)=true:=Ja (by omega);have e2:decide (((b:Nat):Int)<1000000000000)=true:=Ja (by omega);rw[e1,Ka,e2,Ka];refine .inl ⟨_,rfl,⟨a - 1,min Di (10*b),?_,by omega,by omega,by omega,?_⟩,by simp only;rw[Za (by omega) (by omega)];omega⟩
   ·rw[Za (by omega) (by omega),Za (by omega) (by omega)];refine Prod.ext rfl ?_;show(if(1000000000000:Int)<10*(b:Int)then(1000000000000:Int)else 10*(b:Int))=((min Di (10*b):Nat):Int);split<;>omega
   ·rw[show(a - 1).toNat=k by omega];exact c
 ·rw[Db h1,Ia];refine .inr (.inl ⟨_,rfl,?_⟩);rw[<-c,show a.toNat=0 by omega];rfl
structure NumP where
 sg:Str
 D:Str
 F:Option Str
 X:Option (UInt8×Str×Str)
def dotS:Option Str->Str
 |none=>[]
 |some f=>46::f
def expT:Option (UInt8×Str×Str)->Str
 |none=>[]
 |some (e,s,x)=>e::(s++x)
def NumP.txt(n:NumP):Str:=n.sg++(n.D++(dotS n.F++expT n.X))
def sgB(s:Str):Bool:=s==[]||s==[43]||s==[45]
def NumP.ok(n:NumP):Bool:=sgB n.sg&&n.D.all digB&&(match n.F with|none=> !n.D.isEmpty|some f=> !f.isEmpty&&f.all digB)&&
 (match n.X with|none=>true|some (e,s,x)=>(e==101||e==69)&&sgB s&& !x.isEmpty&&x.all digB)
def expV:Option (UInt8×Str×Str)->Int
 |none=>0
 |some (_,s,x)=>if s==[45]then -((capF 1048576 0 x:Nat):Int)else((capF 1048576 0 x:Nat):Int)
def thoV(A:Str)(p:Int):Nat:=Ij p.toNat (capF Di 0 (if p<0 then A.take ((A.length:Int)+p).toNat else A))
def NumP.val(n:NumP):Int:=
 let v:=thoV (n.D++n.F.getD []) (3+expV n.X - ((n.F.getD []).length:Int))
 if n.sg==[45]then -(v:Int)else(v:Int)
theorem VC{s:Str}(h:sgB s=true):s=[]\/s=[43]\/s=[45]:=by
 unfold sgB at h;simp only[Ld,Ib]at h;rcases h with(h|h)|h
 ·exact .inl h
 ·exact .inr (.inl h)
 ·exact .inr (.inr h)
theorem gM{s q:Str}(h:sgB s=true)(d: ∀c r,q=c::r->List.contains [43,45] c=false):Lib.trimLeftS (s++q) [43,45]=q:=by
 have h0:Lib.trimLeftS q [43,45]=q:=by
  unfold Lib.trimLeftS;cases q with
  |nil=>rfl
  |cons c r=>rw[Lg,d c r rfl];rfl
 rcases VC h with rfl|rfl|rfl
 ·exact h0
 ·show List.dropWhile _ (43::q)=_;rw[Lg];exact h0
 ·show List.dropWhile _ (45::q)=_;rw[Lg];exact h0
theorem YN{e:UInt8}(i:e=101\/e=69)(t:Str): ∀(l:Str),(l.all fun b=>digB b||b==46)=true->Lib.indexAny (l++e::t) [101,69]=(l.length:Int)
 |[],_=>by
  rw[Kc,Lib.indexAny];rcases i with rfl|rfl<;>rfl
 |c::l,h=>by
  rw[Pd,Da]at h;have hc:List.contains [101,69] c=false:=by
   have: ∀n:Nat,n<256->(digB (UInt8.ofNat n)||UInt8.ofNat n==46)=true->List.contains [101,69] (UInt8.ofNat n)=false:=by decide+f
   have:=d c.toNat (Rb c);rw[Gc]at d;exact d h.1
  rw[ja,Lib.indexAny,hc,YN i t l h.2];have:((l.length:Int)== -1)=false:=Ga.2 (by omega);rw[d,Ea];simp
theorem RX{l:Str}(h:l.all digB=true):(l.all fun b=>digB b||b==46)=true:=by rw[Xa]at h ⊢;intro b hb;rw[h b hb];rfl
theorem Uy{l:Str}(h: ∀b∈l,b.toNat<128):uh l=true:=by unfold uh;rw[Xa];exact fun b hb=>Ja (h b hb)
theorem UZ{l:Str}(h:uh l=true): ∀b∈l,b.toNat<128:=by unfold uh at h;rw[Xa]at h;exact fun b hb=>Jc (h b hb)
theorem zBT{D:Str}(hD:D.all digB=true)(F:Option Str): ∃f,Lib.cut (D++dotS F) [46]=(D,F.getD [],f):=by
 unfold Lib.cut;rw[FE];cases F with
 |none=> rw[show dotS none=[]from rfl,Ab,wG _ hD,Ha (by decide)];exact⟨false,rfl⟩
 |some g=>
  rw[show dotS (some g)=46::g from rfl,xG _ _ hD,La (by omega)];refine⟨true,?_⟩;rw[jb,xh,Cb,show D.length+1=(D++[46]).length by simp];have:D++46::g=(D++[46])++g:=by simp
  rw[c,Xg];rfl
theorem kN {D:Str} {F:Option Str} {E:Int} (hD:D.all digB=true) (hF:(F.getD []).all digB=true) (hl:D.length+(F.getD []).length<=50000) (hE:E<=2000000) (a3: -2000000<=E) (U:UInt8) (sg:Str)
  (hy:((U.toNat:Int)==45)=(sg==[45])) (V:short (D++dotS F)=true):
  (ze (cutF (D++dotS F,[46])) fun c=>
 need (Ah c.1.length c.2.1.length)<|
 zW (X:=Str×Int) (
   bif decide (w64 ((3+E) - (c.2.1.length:Int))<0)then
    need (decide (0<=(if w64 (((c.1++c.2.1).length:Int)+w64 ((3+E) - (c.2.1.length:Int)))>0 then w64 (((c.1++c.2.1).length:Int)+w64 ((3+E) - (c.2.1.length:Int)))else 0))&&decide ((if w64 (((c.1++c.2.1).length:Int)+w64 ((3+E) - (c.2.1.length:Int)))>0 then w64 (((c.1++c.2.1).length:Int)+w64 ((3+E) - (c.2.1.length:Int)))else 0)<=((c.1++c.2.1).length:Int)))<|
    some (LX.out (List.take (if w64 (((c.1++c.2.1).length:Int)+w64 ((3+E) - (c.2.1.length:Int)))>0 then w64 (((c.1++c.2.1).length:Int)+w64 ((3+E) - (c.2.1.length:Int)))else 0).toNat (c.1++c.2.1),w64 ((3+E) - (c.2.1.length:Int))))
   else
    some (LX.out (c.1++c.2.1,w64 ((3+E) - (c.2.1.length:Int))))) fun m=>
 need (decide (m.1.length<=maxLen))<|
 ZE (fun(d:Int×Int)=>
   bif decide (d.2<(m.1.length:Int))then
    need (decide (0<=d.2)&&decide (d.2<(m.1.length:Int)))<|
    ze m.1[d.2.toNat]? fun r=>
    some (LO.again (if 1000000000000<w64 (w64 (10*d.1)+w64 (wu8 ((r.toNat:Int) - 48)))then 1000000000000 else w64 (w64 (10*d.1)+w64 (wu8 ((r.toNat:Int) - 48))),w64 (d.2+1)))
   else
    some (LO.out d.1):Int×Int->Option (LO (Int×Int) (Int) _)) (0,0) fun y=>
 ZE (fun(j:Int×Int)=>
   bif bif bif decide (j.1>0)then decide (j.2>0)else false then decide (j.2<1000000000000)else false then
    some (LO.again (w64 (j.1 - 1),if 1000000000000<w64 (10*j.2)then 1000000000000 else w64 (10*j.2)))
   else
    some (LO.out j.2):Int×Int->Option (LO (Int×Int) (Int) _)) (m.2,y) fun u=>
 zW (X:=Int) (
   bif (U.toNat:Int)==45 then
    some (LX.out (w64 (0 - u)))
   else
    some (LX.out u)) fun z=>
 some z)=some (if sg==[45]then -((thoV (D++F.getD []) (3+E - ((F.getD []).length:Int)):Nat):Int)else((thoV (D++F.getD []) (3+E - ((F.getD []).length:Int)):Nat):Int)):=by
 obtain⟨f,J⟩:=zBT hD F;have t3:cutF (D++dotS F,[46])=some (D,F.getD [],f):=by unfold cutF;rw[zy (by exact V)];exact congrArg some J
 have a5:maxLen=9223372036854775807:=rfl;have W:Di=1000000000000:=rfl;simp only[ze,t3,Aa];generalize F.getD []=G at*;rw[zy (Dz.2 (by omega))];obtain⟨p,hp⟩: ∃p:Int,p=3+E - (G.length:Int):=⟨_,rfl⟩;rw[<-hp,Za (n:=p) (by omega) (by omega)];have Y:(D++G).all digB=true:=by rw[Fg,hD,hF];rfl
 have Z:(D++G).length<=50000:=by rw[Ba];omega
 generalize D++G=A at*;have L: ∀B:Str,B.all digB=true->B.length<=50000->(need (decide (B.length<=maxLen))<|
 ZE (fun(d:Int×Int)=>
   bif decide (d.2<(B.length:Int))then
    need (decide (0<=d.2)&&decide (d.2<(B.length:Int)))<|
    (B[d.2.toNat]?).bind fun r=>
    some (LO.again (if 1000000000000<w64 (w64 (10*d.1)+w64 (wu8 ((r.toNat:Int) - 48)))then 1000000000000 else w64 (w64 (10*d.1)+w64 (wu8 ((r.toNat:Int) - 48))),w64 (d.2+1)))
   else
    some (LO.out d.1):Int×Int->Option (LO (Int×Int) (Int) _)) (0,0) fun y=>
 ZE (fun(j:Int×Int)=>
   bif bif bif decide (j.1>0)then decide (j.2>0)else false then decide (j.2<1000000000000)else false then
    some (LO.again (w64 (j.1 - 1),if 1000000000000<w64 (10*j.2)then 1000000000000 else w64 (10*j.2)))
   else
    some (LO.out j.2):Int×Int->Option (LO (Int×Int) (Int) _)) (p,y) fun u=>
 zW (X:=Int) (
   bif (U.toNat:Int)==45 then
    some (LX.out (w64 (0 - u)))
   else
    some (LX.out u)) fun z=>
 some z)=some (if sg==[45]then -((Ij p.toNat (capF Di 0 B):Nat):Int)else((Ij p.toNat (capF Di 0 B):Nat):Int)):=by
  intro B hB a6;have O:=gB Di B 0 (Pb _);rw[zy (Ja (by omega))];rw[Qk (FP (cap:=Di) hB (by omega) (by omega) (fun v i hi=> ?_) (fun v=> ?_))]
  ·have a7:=mP p.toNat _ O;rw[Qk (l8 (by omega) (by omega) (by omega) (fun a b=> ?_)),hy]
   ·cases hs:sg==[45]with
    |true=> rw[Ka,zh,Za (by omega) (by omega),La rfl];congr 1;omega
    |false=>rw[Ia,zh,Ha (by decide)]
   ·simp only
  ·have e1:decide ((i:Int)<(B.length:Int))=true:=Ja (by omega);have e0:decide ((0:Int)<=(i:Int))=true:=Ja (by omega);simp only[e1,e0,Ka,Uc,Z5,jb,Ma hi,Aa];rfl
  ·simp only;rw[Db (by omega),Ia]
 unfold thoV;by_cases hn:p<0
 ·rw[Ja hn,Ka,La hn];have hk:(if w64 ((A.length:Int)+p)>0 then w64 ((A.length:Int)+p)else 0)=((((A.length:Int)+p).toNat:Nat):Int):=by rw[Za (by omega) (by omega)];split<;>omega
  rw[hk,zy (by rw[Ja (by omega),Ja (by omega)];rfl),zh,jb];refine L _ ?_ (by rw[Md];omega);rw[Xa]at Y ⊢;exact fun b hb=>Y b (bf hb)
 ·rw[Db hn,Ia,Ha hn,zh];exact L _ Y Z
theorem NV{n:NumP}(h:n.ok=true)(hl:n.txt.length<=40000):ZR n.txt=some n.val:=by
 obtain⟨sg,D,F,X⟩:=n;unfold NumP.ok at h;simp only[Da]at h;obtain⟨⟨⟨W,hD⟩,J⟩,hX⟩:=h;have hF:(F.getD []).all digB=true:=by
  cases F with
  |none=>rfl
  |some f=>simp only[Da]at J;exact J.2
 have Y:D++dotS F≠[]:=by
  cases F with
  |none=>cases D with
   |nil=>exact absurd J (by decide)
   |cons c r=>simp
  |some f=>simp[dotS]
 have j:((D++dotS F).all fun b=>digB b||b==46)=true:=by
  rw[Fg,RX hD];cases F with
  |none=>rfl
  |some f=>rw[show dotS (some f)=46::f from rfl,Pd,RX (show f.all digB=true from hF)];rfl
 have al:sg.length+(D.length+((dotS F).length+(expT X).length))<=40000:=by
  have:(NumP.txt ⟨sg,D,F,X⟩).length=sg.length+(D.length+((dotS F).length+(expT X).length)):=by unfold NumP.txt;simp only[Ba]
  omega
 have ap:(F.getD []).length<=(dotS F).length:=by
  cases F with
  |none=>exact Va _
  |some f=>show f.length<=(46::f).length;rw[Ea];omega
 have p: ∀c r,D++(dotS F++expT X)=c::r->List.contains [43,45] c=false:=by
  rw[<-Na];intro c r e;cases L:D++dotS F with
  |nil=>exact absurd L Y
  |cons d q=>
   rw[L,ja]at e;injection e with e1 _;subst e1;rw[L,Pd,Da,Ld]at j;rcases j.1 with hd|hd
   ·exact(QV hd).2.2.2.2
   ·rw[Ib.1 hd];decide
 have a7: ∃b,geti (NumP.txt ⟨sg,D,F,X⟩) 0=some b/\(((b.toNat:Int)==45)=(sg==[45])):=by
  unfold NumP.txt;show∃b,geti (sg++(D++(dotS F++expT X))) 0=some b/\_;rcases VC W with rfl|rfl|rfl
  ·cases L:D++(dotS F++expT X)with
   |nil=>rw[<-Na]at L;exact absurd (List.append_eq_nil_iff.1 L).1 Y
   |cons c r=> refine⟨c,rfl,?_⟩;have:=p c r L;refine Ga.2 (fun e=> ?_);have:c=45:=Tf.1 (by show c.toNat=45;omega);subst m;revert m;simp_all
  ·exact⟨43,rfl,rfl⟩
  ·exact⟨45,rfl,rfl⟩
 obtain⟨y1,hg,Z⟩:=a7;have t1:Uk (NumP.txt ⟨sg,D,F,X⟩,[43,45])=some (D++(dotS F++expT X)):=by unfold Uk;rw[zy (show(short ([43,45]:Str)&&uh [43,45])=true by decide)];exact congrArg some (gM W p)
 unfold ZR;simp only[ze,hg,t1,Aa];have O:short (D++dotS F)=true:=Ja (by rw[Ba];omega);have z:uh (D++dotS F)=true:=RN j;cases X with
 |none=>
  have t2:QZ (D++(dotS F++expT none),[101,69])=some (-1):=by show QZ (D++(dotS F++[]),[101,69])=_;rw[Ab];unfold QZ;rw[zy (by simp only[O,z,Uc,Vb];decide)];exact congrArg some (MH _ j)
  simp only[t2,Aa,show decide ((-1:Int)>=0)=false from rfl,Ia,zh];rw[show D++(dotS F++expT none)=D++dotS F by show D++(dotS F++[])=_;rw[Ab]];have:=kN (E:=0) hD hF (by omega) (by omega) (by omega) y1 sg Z O;exact m
 |some ex=>
  obtain⟨e,s,x⟩:=ex;simp only[Da]at hX;obtain⟨⟨⟨he,hs⟩,A⟩,hx⟩:=hX;have a3:e=101\/e=69:=by rw[Ld,Ib,Ib]at he;exact he
  have am:(expT (some (e,s,x))).length=1+(s.length+x.length):=by show(e::(s++x)).length=_;rw[Ea,Ba];omega
  have B:D++(dotS F++expT (some (e,s,x)))=(D++dotS F)++e::(s++x):=by rw[<-Na];rfl
  have a5:uh ((D++dotS F)++e::(s++x))=true:=by
   refine Uy (fun b hb=> ?_);rcases Bc.1 hb with hb|hb
   ·exact UZ z b hb
   ·rcases ma.1 hb with hb|hb
    ·subst hb;rcases a3 with rfl|rfl<;>decide
    ·rcases Bc.1 hb with hb|hb
     ·rcases VC hs with rfl|rfl|rfl
      ·cases hb
      ·rw[Sa]at hb;subst hb;decide
      ·rw[Sa]at hb;subst hb;decide
     ·have:=Ru (Xa.1 hx b hb);omega
  have aq:((D++dotS F)++e::(s++x)).length<=40000:=by rw[Ba,Ea,Ba,Ba];omega
  have t2:QZ (D++(dotS F++expT (some (e,s,x))),[101,69])=some ((D++dotS F).length:Int):=by rw[B];unfold QZ;show need (short ((D++dotS F)++e::(s++x))&&short [101,69]&&uh ((D++dotS F)++e::(s++x))&&uh [101,69]) _=_;rw[show short ((D++dotS F)++e::(s++x))=true from Ja (by omega),a5];exact congrArg some (YN a3 (s++x) _ j)
  have U:List.drop (D++dotS F).length ((D++dotS F)++e::(s++x))=e::(s++x):=Xg;have u:List.drop ((D++dotS F).length+1) ((D++dotS F)++e::(s++x))=s++x:=by rw[<-Vf,U];rfl
  have ar:(D++dotS F).length<=40000:=by rw[Ba];omega
  have a8:w64 (((D++dotS F).length:Int)+1)=(((D++dotS F).length+1:Nat):Int):=by rw[Za (by omega) (by omega)];omega
  simp only[t2,Aa];rw[Ja (show(((D++dotS F).length:Nat):Int)>=0 by omega),Ka,a8,B];have an:(D++dotS F).length+1<=((D++dotS F)++e::(s++x)).length:=by rw[Ba (bs:=e::(s++x)),Ea];omega
  rw[zy (by rw[Ja (by omega),Ja (by omega)];rfl),jb,u];have a6: ∀c r,x=c::r->List.contains [43,45] c=false:=by intro c r e;subst e;rw[Pd,Da]at hx;exact(QV hx.1).2.2.2.2
  have t4:Uk (s++x,[43,45])=some x:=by unfold Uk;rw[zy (show(short ([43,45]:Str)&&uh [43,45])=true by decide)];exact congrArg some (gM hs a6)
  have av:x.length<=40000:=by omega
  have aw:maxLen=9223372036854775807:=rfl;simp only[t4,Aa];rw[zy (Ja (by omega))];have ao:=gB 1048576 x 0 (Pb _);rw[Qk (FP (cap:=1048576) hx (by omega) (by omega) (fun v i hi=> ?_) (fun v=> ?_))]
  ·have a9: ∃y8,geti ((D++dotS F)++e::(s++x)) (((D++dotS F).length+1:Nat):Int)=some y8/\(((y8.toNat:Int)==45)=(s==[45])):=by
    have V: ∀(b:UInt8) (r:Str),s++x=b::r->geti ((D++dotS F)++e::(s++x)) (((D++dotS F).length+1:Nat):Int)=some b:=by
     intro b r e1;unfold geti;have:((D++dotS F)++e::(s++x))[(D++dotS F).length+1]? =some b:=by rw[Xc (by omega),show(D++dotS F).length+1 - (D++dotS F).length=1 by omega,Ef,e1];rfl
     rw[jb,m,Ja (by omega)];rfl
    rcases VC hs with rfl|rfl|rfl
    ·cases y:x with
     |nil=>rw[y]at A;exact absurd A (by decide)
     |cons c r=> refine⟨c,by rw[<-y];exact V c r y,?_⟩;have:=a6 c r y;refine Ga.2 (fun e=> ?_);have ab:c=45:=Tf.1 (by show c.toNat=45;omega);subst ab;exact absurd m (by decide)
    ·exact⟨43,V 43 x rfl,rfl⟩
    ·exact⟨45,V 45 x rfl,rfl⟩
   obtain⟨y8,h8,ad⟩:=a9;simp only[h8,Aa];rw[ad];have hj:(bif s==[45]then(some (LX.out ((D++dotS F)++e::(s++x),3,w64 (0 - ((capF 1048576 0 x:Nat):Int)))):Option (LX (Str×Int×Int) (LX (Str×Int) Int)))else some (LX.out ((D++dotS F)++e::(s++x),3,((capF 1048576 0 x:Nat):Int))))
     =some (LX.out ((D++dotS F)++e::(s++x),3,expV (some (e,s,x)))):=by
    unfold expV;simp only;cases s==[45]with
    |true=>rw[Ka,La rfl,Za (by omega) (by omega)];simp
    |false=>rw[Ia,Ha (by decide)]
   have b3:expV (some (e,s,x))<=1048576/\ -1048576<=expV (some (e,s,x)):=by unfold expV;simp only;split<;>omega
   refine(congrArg (fun o=>zW (zW o _) _) hj).trans ?_;simp only[zh];rw[show decide ((((D++dotS F).length:Nat):Int)<=((((D++dotS F)++e::(s++x)).length:Nat):Int))=true from Ja (by omega),zy (by rfl)];simp only[zh,jb,xh];rw[Za (by omega) (by omega)];exact kN (E:=expV (some (e,s,x))) hD hF (by omega) (by omega) (by omega) y1 sg Z O
  ·have e1:decide ((i:Int)<(x.length:Int))=true:=Ja (by omega);have e0:decide ((0:Int)<=(i:Int))=true:=Ja (by omega);simp only[e1,e0,Ka,Uc,Z5,jb,Ma hi,Aa];rfl
  ·simp only;rw[Db (by omega),Ia]
theorem iD {S X R:Type} {step:S->Option (LO S X R)} {k:X->Option R} (Inv:S->Prop) (d:S->Nat) (y:R)
  (h: ∀s,Inv s->(∃c,step s=some (.again c)/\Inv c/\d c<d s)\/(∃x,step s=some (.out x)/\k x=some y)\/step s=some (.ret y)) {s:S} (f:Inv s):ZE step s k=some y:=by
 have i: ∀(m:Nat) (s:S),d s<m->Inv s-> ∃r:LX X R,Qs step m s=some r/\r.go k=some y:=by
  intro m
  induction m with
  |zero=>intro s h;omega
  |j m p=>
   intro s hm f;simp only[Qs];rcases h s f with⟨c,h1,h2,h3⟩|⟨x,h1,h2⟩|h1
   ·rw[h1];exact p c (by omega) h2
   ·rw[h1];exact⟨_,rfl,h2⟩
   ·rw[h1];exact⟨_,rfl,rfl⟩
 obtain⟨r,h1,h2⟩:=i (d s+1) s (by omega) f;rw[Yp (dn h1)];exact h2
theorem aP(p:UInt8->Bool): ∀l:Str,past p l=l.dropWhile p
 |[]=>rfl
 |c::r=>by
  rw[past,Lg];cases h:p c with
  |true=>exact aP p r
  |false=>rfl
theorem Ny(p:UInt8->Bool)(l:Str):l.takeWhile p++past p l=l:=by rw[aP,List.takeWhile_append_dropWhile]
theorem Gx(p:UInt8->Bool): ∀l:Str,(l.takeWhile p).all p=true
 |[]=>rfl
 |c::r=>by
  rw[List.takeWhile_cons];cases h:p c with
  |true=>show(c::List.takeWhile p r).all p=true;rw[Pd,h,Gx p r];rfl
  |false=>rfl
def sgOf(l:Str):Str:=if Ug (atS l 0)then [atS l 0]else []
theorem VF(l:Str):sgOf l++unsign l=l:=by
 unfold sgOf unsign;cases h:Ug (atS l 0)with
 |false=>rfl
 |true=>
  rw[La rfl,La rfl];cases l with
  |nil=>exact absurd h (by decide)
  |cons c r=>rfl
theorem IW(l:Str):sgB (sgOf l)=true:=by
 unfold sgOf;cases h:Ug (atS l 0)with
 |false=>rfl
 |true=> rw[La rfl];unfold Ug at h;rw[Ld,Ib,Ib]at h;rcases h with h|h<;>rw[h]<;>rfl
def dotP(q:Str):Option Str:=if atS q 0==46&&digB (atS q 1)then some ((q.drop 1).takeWhile digB)else none
def expP(q:Str):Option (UInt8×Str×Str):=
 if(atS q 0==101||atS q 0==69)&&digB (atS (unsign (q.drop 1)) 0)then some (atS q 0,sgOf (q.drop 1),(unsign (q.drop 1)).takeWhile digB)else none
def numP(l:Str):NumP:=⟨sgOf l,(unsign l).takeWhile digB,dotP (past digB (unsign l)),expP (zQ (past digB (unsign l))).1⟩
theorem O4(q:Str):dotS (dotP q)++(zQ q).1=q/\(zQ q).2=(dotP q).isNone:=by
 unfold dotP zQ;cases h:atS q 0==46&&digB (atS q 1)with
 |false=>exact⟨rfl,rfl⟩
 |true=>
  rw[La rfl,La rfl];cases q with
  |nil=>exact absurd h (by decide)
  |cons c r=> rw[Da,Ib]at h;refine⟨?_,rfl⟩;show(46::List.takeWhile digB r)++past digB r=c::r;rw[ja,Ny,show c=46 from h.1]
theorem mY(q:Str):expT (expP q)++(match expS q with|some r=>r|none=>q)=q:=by
 unfold expP expS;cases h1:atS q 0==101||atS q 0==69 with
 |false=>rfl
 |true=>
  cases h2:digB (atS (unsign (q.drop 1)) 0)with
  |false=>rfl
  |true=>
   simp only[Bool.and_self,Td];cases q with
   |nil=>exact absurd h1 (by decide)
   |cons c r=> show(c::(sgOf r++List.takeWhile digB (unsign r)))++past digB (unsign r)=c::r;rw[ja,Na,Ny,VF]
theorem jI(l:Str):(numP l).txt++(zC l).1=l:=by
 have h1:=(O4 (past digB (unsign l))).1;have h2:=mY (zQ (past digB (unsign l))).1;have h3:(zC l).1=(match expS (zQ (past digB (unsign l))).1 with|some r=>r|none=>(zQ (past digB (unsign l))).1):=by unfold zC;simp only;cases expS (zQ (past digB (unsign l))).1<;>rfl
 rw[h3];show(sgOf l++(List.takeWhile digB (unsign l)++(dotS (dotP (past digB (unsign l)))++expT (expP (zQ (past digB (unsign l))).1))))++_=l;rw[Na,Na,Na,h2,h1,Ny,VF]
theorem lF{p:UInt8->Bool}{q:Str}(h:p (atS q 0)=true)(h0:p 0=false):(q.takeWhile p).isEmpty=false:=by
 cases q with
 |nil=>rw[show atS [] 0=0 from rfl,h0]at h;cases h
 |cons c r=>rw[List.takeWhile_cons,La (show p c=true from h)];rfl
theorem BG{l:Str}(h:nbS l=true):(numP l).ok=true:=by
 unfold NumP.ok numP;simp only[IW,Gx,Vb,Da];refine⟨?_,?_⟩
 ·unfold dotP;cases d:atS (past digB (unsign l)) 0==46&&digB (atS (past digB (unsign l)) 1)with
  |true=> rw[La rfl];simp only[Gx,Uc];rw[Da]at d;rw[lF (p:=digB) (by rw[Qy];exact d.2) (by decide)];rfl
  |false=>
   rw[Ha (by decide)];simp only;cases i:digB (atS (unsign l) 0)with
   |true=>rw[lF i (by decide)];rfl
   |false=>
    exfalso;have hp:past digB (unsign l)=unsign l:=by
     cases hu:unsign l with
     |nil=>rfl
     |cons c r=>rw[hu]at i;rw[past,Ha (by rw[show digB c=false from i];decide)]
    rw[hp]at d;unfold nbS undot at h;cases f:atS (unsign l) 0==46 with
    |false=>rw[f,Ha (by decide),i]at h;cases h
    |true=> rw[f,La rfl,Qy]at h;rw[f,Vb]at d;rw[show atS (unsign l) (1+0)=atS (unsign l) 1 from rfl,d]at h;cases h
 ·unfold expP;cases d:(atS (zQ (past digB (unsign l))).1 0==101||atS (zQ (past digB (unsign l))).1 0==69)&&digB (atS (unsign ((zQ (past digB (unsign l))).1.drop 1)) 0)with
  |false=>rfl
  |true=> rw[La rfl];rw[Da]at d;simp only[d.1,IW,Gx,Uc,Vb];rw[lF d.2 (by decide)];rfl
theorem zEu{n:NumP}(h:n.ok=true):n.txt≠[]:=by
 obtain⟨sg,D,F,X⟩:=n;unfold NumP.ok at h;simp only[Da]at h;intro e;unfold NumP.txt at e;simp only[List.append_eq_nil_iff]at e;obtain⟨e1,e2,e3,e4⟩:=e;subst e2;cases F with
 |none=>exact absurd h.1.2 (by decide)
 |some f=>cases e3
theorem Y9{c:UInt8}{r:Str}(h:nbS (c::r)=true):(zC (c::r)).1<:+r:=by
 have h1:=jI (c::r);have h2:=zEu (BG h);cases ht:(numP (c::r)).txt with
 |nil=>exact absurd ht h2
 |cons d t=> rw[ht,ja]at h1;injection h1 with _ h3;exact⟨t,h3⟩
def zA(l:Str):zb×Str:=
 if nmS (zC l).1 then(⟨12,[],(numP l).val,(zm (zC l).1).1,(zC l).2⟩,(zm (zC l).1).2)
 else if atS (zC l).1 0==37 then(⟨11,[],(numP l).val,[],false⟩,(zC l).1.drop 1)
 else(⟨10,[],(numP l).val,[],(zC l).2⟩,(zC l).1)
theorem zBU{s l t e:Str}(hl:l<:+s)(h:t++e=l):List.drop (beh s l) (List.take (beh s e) s)=t:=by
 obtain⟨p,rfl⟩:=hl;subst h;have h1:beh (p++(t++e)) (t++e)=p.length:=by unfold beh;simp only[Ba];omega
 have h2:beh (p++(t++e)) e=(p++t).length:=by unfold beh;simp only[Ba];omega
 rw[h1,h2,<-Na,xh,Xg]
theorem zAg{s l:Str}(u:s.length<=40000)(hl:l<:+s)(h:nbS l=true):ZF (sr s l)=some ((zA l).1,sr s (zA l).2):=by
 have c:s.length<=big:=by unfold big;omega
 have i:=Y5 hl;have p:=hl.length_le;have d:=jI l;have r:(zC l).1.length<=l.length:=by have:=congrArg List.length d;rw[Ba]at f;omega
 have j:(numP l).txt.length<=40000:=by have:=congrArg List.length d;rw[Ba]at f;omega
 unfold ZF;rw[lY c hl];simp only[ze,Aa];have h1:(beh s l:Int)<=(beh s (zC l).1:Int):=by unfold beh;omega
 have h2:=Yk s (zC l).1;rw[zy (by rw[Ja (by omega),Ja (by omega),Ja (by omega)];rfl),jb,jb,zBU hl d,NV (BG h) j];simp only[Aa];rw[show zF (0,sr s (zC l).1)=some (nmS (zC l).1)from KL (k:=0) c i (by omega)];simp only[Aa];unfold zA;cases hn:nmS (zC l).1 with
 |true=> rw[Ka,fF c i,La rfl];rfl
 |false=>
  rw[Ia,ah c i,Ha (by decide)];simp only[Aa,zEO];cases m:atS (zC l).1 0==37 with
  |true=> rw[Ka,zh,Gv c i (by rw[Ib.1 m];decide),La rfl]
  |false=>rw[Ia,zh,Ha (by decide)]
theorem Ut(l:Str):(zm l).1.length<=4*l.length:=by
 match l with
 |[]=>rw[qN];exact Va _
 |c::r=>
  rw[zH];split
  ·have:=Ut r;show(c::(zm r).1).length<=_;rw[Ea,Ea];omega
  ·split
   ·have h1:=zD r;have h2:=Nu r;have:=Ut (zq r).2;show((zq r).1++(zm (zq r).2).1).length<=_;rw[Ba,Ea];omega
   ·exact Pb _
termination_by l.length
decreasing_by
 all_goals first|(have:=zD r;simp only[Ea];omega)|(simp only[Ea];omega)
def qD(l:Str):zb×Str:=
 if atS (zm l).2 0==40 then
  (if(lowS (zm l).1==[117,114,108])&& !(atS (past spB ((zm l).2.drop 1)) 0==34||atS (past spB ((zm l).2.drop 1)) 0==39)
  then(Wj (urlS (past spB ((zm l).2.drop 1))).1,(urlS (past spB ((zm l).2.drop 1))).2)
  else(⟨2,(zm l).1,0,[],false⟩,(zm l).2.drop 1))
 else(⟨1,(zm l).1,0,[],false⟩,(zm l).2)
theorem zCi{s q:Str}(v:s.length<=40000)(d:q<:+s):ZB (sr s q)=some ((qD q).1,sr s (qD q).2):=by
 have c:s.length<=big:=by unfold big;omega
 have hn:(zm q).2<:+s:=(Rl q).trans d;have h4:=Ut q;have p:=d.length_le;have f:(zm q).1.length<=big:=by unfold big;omega
 unfold ZB;rw[fF c d];simp only[ze,Aa,ah c hn];unfold bne qD;rw[zEP];cases i:atS (zm q).2 0==40 with
 |false=>rfl
 |true=>
  have j:atS (zm q).2 0≠0:=by rw[Ib.1 i];decide
  rw[Nc,Ia,La rfl,Gv c hn j,kJ f (by decide),Xx];simp only[Aa];have m:=Im hn 1;cases hu:lowS (zm q).1==[117,114,108]with
  |false=>rfl
  |true=>
   rw[Ka,uA c m,Vb];have hp:=Iq spB m;simp only[Aa,ah c hp];rw[jW,iW];cases r:atS (past spB ((zm q).2.drop 1)) 0==34 with
   |true=>rfl
   |false=>
    cases u:atS (past spB ((zm q).2.drop 1)) 0==39 with
    |true=>rfl
    |false=> rw[urlR c m];rfl
theorem uY{c:UInt8}{r:Str}(h:letB c=true\/escS (c::r)=true):(zm (c::r)).2<:+r:=by
 rw[zH];split
 ·exact Rl r
 ·rename_i hl;rw[La (h.resolve_left hl)];exact(Rl _).trans (ZO r)
theorem JP{c:UInt8}{r:Str}(h:nmS (c::r)=true):letB c=true\/escS (c::r)=true:=by
 unfold nmS at h;cases d:atS (c::r) 0==45 with
 |true=> left;rw[show c=45 from Ib.1 d];decide
 |false=>
  rw[d,Ha (by decide),Ld]at h;rcases h with h|h
  ·left;unfold letB;rw[show fstB c=true from h];rfl
  ·exact .inr h
theorem mZ{c:UInt8}{r:Str}(h:nmS (c::r)=true):(qD (c::r)).2<:+r:=by
 have hn:=uY (JP h);have d:(zm (c::r)).2.drop 1<:+r:=(Nf 1 _).trans hn;unfold qD;split
 ·split
  ·exact(WG _).trans ((bn spB _).trans d)
  ·exact d
 ·exact hn
def nxU(c:UInt8)(r:Str):zb×Str:=
  if nmS (c::r)then qD (c::r)
  else if Fh c==0 then(⟨9,[c],0,[],false⟩,r)
  else(yh (Fh c),r)
def nxT(c:UInt8)(r:Str):zb×Str:=
  if nbS (c::r)then zA (c::r)
  else if [45,45,62].isPrefixOf (c::r)then(yh 15,(c::r).drop 3)
  else if [60,33,45,45].isPrefixOf (c::r)then(yh 14,(c::r).drop 4)
  else if c==64&&nmS r then(⟨3,(zm r).1,0,[],false⟩,(zm r).2)
  else nxU c r
def Zq:Str->zb×Str
 |[]=>(⟨0,[],0,[],false⟩,[])
 |c::r=>
  if spB c then(yh 13,past spB (c::r))
  else if c==34||c==39 then(Yj (zZ c r).1,(zZ c r).2)
  else if c==35&&(letB (atS r 0)||escS r)then(⟨4,(zm r).1,0,[],nmS r⟩,(zm r).2)
  else nxT c r
theorem bu(c:UInt8)(r:Str):Zq (c::r)=
  if spB c then(yh 13,past spB (c::r))
  else if c==34||c==39 then(Yj (zZ c r).1,(zZ c r).2)
  else if c==35&&(letB (atS r 0)||escS r)then(⟨4,(zm r).1,0,[],nmS r⟩,(zm r).2)
  else if nbS (c::r)then zA (c::r)
  else if [45,45,62].isPrefixOf (c::r)then(yh 15,(c::r).drop 3)
  else if [60,33,45,45].isPrefixOf (c::r)then(yh 14,(c::r).drop 4)
  else if c==64&&nmS r then(⟨3,(zm r).1,0,[],false⟩,(zm r).2)
  else if nmS (c::r)then qD (c::r)
  else if Fh c==0 then(⟨9,[c],0,[],false⟩,r)
  else(yh (Fh c),r):=rfl
theorem zs1{c:UInt8}{r:Str}(h:nbS (c::r)=true):(zA (c::r)).2<:+r:=by
 have h1:=Y9 h;unfold zA;split
 ·exact(Rl _).trans h1
 ·split
  ·exact(Nf 1 _).trans h1
  ·exact h1
theorem Nl(c:UInt8)(r:Str):(Zq (c::r)).2<:+r:=by
 rw[bu];split
 ·rename_i h;show past spB (c::r)<:+r;rw[past,La h];exact bn spB r
 ·split
  ·exact xD c r
  ·split
   ·exact Rl r
   ·split
    ·rename_i h;exact zs1 h
    ·split
     ·exact Nf 2 r
     ·split
      ·exact Nf 3 r
      ·split
       ·exact Rl r
       ·split
        ·rename_i h;exact mZ h
        ·split
         ·exact Ad _
         ·exact Ad _
theorem AZ(c:UInt8):decide (Lib.indexByte [58,59,44,91,93,40,41,123,125] c>=0)= !(Fh c==0)/\(Fh c≠0->wu8 (16+wu8 (Lib.indexByte [58,59,44,91,93,40,41,123,125] c))=Fh c):=by
 have: ∀n:Nat,n<256->decide (Lib.indexByte [58,59,44,91,93,40,41,123,125] (UInt8.ofNat n)>=0)= !(Fh (UInt8.ofNat n)==0)/\(Fh (UInt8.ofNat n)≠0->wu8 (16+wu8 (Lib.indexByte [58,59,44,91,93,40,41,123,125] (UInt8.ofNat n)))=Fh (UInt8.ofNat n)):=by decide+f
 have:=d c.toNat (Rb c);rw[Gc]at d;exact d
theorem Vn{m q:Str}(h:m.isPrefixOf q=true):m.length<=q.length:=by obtain⟨t,rfl⟩:=Ig.1 h;rw[Ba];omega
def Nv(s:Str)(X:zb×Str):Option (zb×za):=some (X.1,sr s X.2)
theorem zEG{s q:Str}{c:UInt8}{r:Str}(Y:s.length<=40000)(f:q<:+s)(hc:q=c::r):qa (sr s q)=some ((Zq q).1,sr s (Zq q).2):=by
 subst hc;have d:s.length<=big:=by unfold big;omega
 have hr:=Ck f;have a3:(c::r).drop 1=r:=rfl;rw[show Zq (c::r)=if spB c then(yh 13,past spB (c::r))else if c==34||c==39 then(Yj (zZ c r).1,(zZ c r).2)else if c==35&&(letB (atS r 0)||escS r)then(⟨4,(zm r).1,0,[],nmS r⟩,(zm r).2)else nxT c r from rfl];unfold qa;simp only[ze,ah d f,Aa];rw[zy OW];simp only[yw,Aa,jW,iW,zEN,zEQ,OG f,Bv,show atS (c::r) 0=c from rfl,dL];cases a5:spB c with
 |true=> rw[Ka,uA d f,La rfl];rfl
 |false=>
  rw[Ia,Ha (by decide)];cases a6:c==34||c==39 with
  |true=> rw[Ka,zCW d f,La rfl];rfl
  |false=>
   rw[Ia,Ha (by decide)];have L:zt (1,sr s (c::r))=some (escS r):=GD (k:=1) d f (by omega);have u:zF (1,sr s (c::r))=some (nmS r):=KL (k:=1) d f (by omega);have B:zF (0,sr s (c::r))=some (nmS (c::r)):=KL (k:=0) d f (by omega);have hst:(⟨s,w64 ((beh s (c::r):Int)+1)⟩:za)=sr s r:=by rw[Ni d f]
   rw[hst];have v:((Zu (sr s (c::r))).bind fun O=>
    bif O then
     (ZF (sr s (c::r))).bind fun J=>
     some (J.1,J.2)
    else
     (some ([45,45,62].isPrefixOf (c::r))).bind fun U=>
     bif U then
      some ((⟨15,[],0,[],false⟩:zb),(⟨s,w64 ((beh s (c::r):Int)+3)⟩:za))
     else
      (some ([60,33,45,45].isPrefixOf (c::r))).bind fun V=>
      bif V then
       some ((⟨14,[],0,[],false⟩:zb),(⟨s,w64 ((beh s (c::r):Int)+4)⟩:za))
      else
       (zu (c==64) (zF (1,sr s (c::r))) (default:Bool)).bind fun y=>
       bif bif c==64 then y else false then
        (zM (sr s r)).bind fun i=>
        some ((⟨3,i.1,0,[],false⟩:zb),i.2)
       else
        (zF (0,sr s (c::r))).bind fun A=>
        bif A then
         (ZB (sr s (c::r))).bind fun j=>
         some (j.1,j.2)
        else
         (strings_IndexByte ([58,59,44,91,93,40,41,123,125],wu8 (pk (c::r) 0))).bind fun m=>
         bif decide (m>=0)then
          some ((⟨wu8 (16+wu8 m),[],0,[],false⟩:zb),sr s r)
         else
          need (decide (1<=((c::r).length:Int)))<|
          some ((⟨9,List.take 1 (c::r),0,[],false⟩:zb),sr s r))=
    Nv s (nxT c r):=by
    unfold nxT;simp only[zCA d f,Aa];cases W:nbS (c::r)with
    |true=> rw[Ka,zAg Y f W,La rfl];rfl
    |false=>
     rw[Ia,Ha (by decide)];cases h3:[45,45,62].isPrefixOf (c::r)with
     |true=> rw[Ka,La rfl,show(3:Int)=((3:Nat):Int)from rfl,YA (n:=3) d f (Vn h3)];rfl
     |false=>
      rw[Ia,Ha (by decide)];cases h4:[60,33,45,45].isPrefixOf (c::r)with
      |true=> rw[Ka,La rfl,show(4:Int)=((4:Nat):Int)from rfl,YA (n:=4) d f (Vn h4)];rfl
      |false=>
       rw[Ia,Ha (by decide),u,B];have rest: ∀z:Bool,((some z).bind fun y=>bif y then
        (zM (sr s r)).bind fun i=>
        some ((⟨3,i.1,0,[],false⟩:zb),i.2)
       else
        (some (nmS (c::r))).bind fun A=>
        bif A then
         (ZB (sr s (c::r))).bind fun j=>
         some (j.1,j.2)
        else
         (strings_IndexByte ([58,59,44,91,93,40,41,123,125],wu8 (pk (c::r) 0))).bind fun m=>
         bif decide (m>=0)then
          some ((⟨wu8 (16+wu8 m),[],0,[],false⟩:zb),sr s r)
         else
          need (decide (1<=((c::r).length:Int)))<|
          some ((⟨9,List.take 1 (c::r),0,[],false⟩:zb),sr s r))=Nv s (if z then(⟨3,(zm r).1,0,[],false⟩,(zm r).2)else nxU c r):=by
        intro z;unfold nxU;simp only[Aa];cases z with
        |true=> rw[Ka,fF d hr];rfl
        |false=>
         rw[Ia,Ha (by decide)];cases a7:nmS (c::r)with
         |true=>rw[Ka,zCi Y f];rfl
         |false=>
          rw[Ia,Ha (by decide),Wp,jE];have hb:(wu8 (c.toNat:Int)).toNat.toUInt8=c:=by rw[Lx,Kg (Rb c),jb];exact Gc
          rw[hb];obtain⟨m1,m2⟩:=AZ c;simp only[Aa,m1];cases hm:Fh c==0 with
          |true=> rw[Nc,Ia,zy (Ja (by rw[Ea];omega))];rfl
          |false=> rw[Ec,Ka,m2 (Ga.1 hm)];rfl
       cases a8:c==64 with
       |false=> have:=rest false;simp only[ZA,Aa,Ia,Sc]at p ⊢;exact p
       |true=> have:=rest (nmS r);simp only[Zp,Aa,Ka,Vb]at p ⊢;exact p
   cases a9:c==35 with
   |false=> simp only[ZA,Aa,Ia,Ve,Sc];exact v
   |true=>
    simp only[Zp,Aa,Ka,Uc,Vb,Cw d f,nN];have e1:atS (c::r) 1=atS r 0:=rfl;rw[e1,L];have hh:(bif letB (atS r 0)||escS r then(zF (1,sr s (c::r))).bind fun y8=>(zM (sr s r)).bind fun Z=>some ((⟨4,Z.1,0,[],y8⟩:zb),Z.2)else Nv s (nxT c r))=Nv s (if(letB (atS r 0)||escS r)then(⟨4,(zm r).1,0,[],nmS r⟩,(zm r).2)else nxT c r):=by
     cases letB (atS r 0)||escS r with
     |false=>rfl
     |true=>rw[Ka,u,fF d hr];rfl
    show _=Nv s (if(letB (atS r 0)||escS r)then(⟨4,(zm r).1,0,[],nmS r⟩,(zm r).2)else nxT c r);rw[<-hh];cases hl:letB (atS r 0)with
    |true=>rfl
    |false=>
     simp only[Ec,Zp,Aa,Vd];cases ab:escS r with
     |true=>rfl
     |false=>rw[Ia];exact v
def clsS:Str->Option Str
 |[]=>none
 |c::r=>if c==42&&atS r 0==47 then some (r.drop 1)else clsS r
theorem Cm: ∀(l:Str) {r:Str},clsS l=some r->r<:+l/\r.length+2<=l.length
 |[],r,h=>by cases h
 |c::t,r,h=>by
  unfold clsS at h;split at h
  ·rename_i hc;rw[Da,Ib,Ib]at hc;injection h with h;subst h;have:=Dr (l:=t) (n:=0) (by rw[hc.2];decide);exact⟨(Nf 1 t).trans (Ee c t),by rw[Ob,Ea];omega⟩
  ·obtain⟨h1,h2⟩:=Cm t h;exact⟨h1.trans (Ee c t),by rw[Ea];omega⟩
theorem pre2(b:UInt8)(l:Str):([42,47]:Str).isPrefixOf (b::l)=(b==42&&atS l 0==47):=by
 have h1:((42:UInt8)==b)=(b==42):=by rw[Kh,Ib,Ib];exact eq_comm
 rw[List.isPrefixOf,h1];cases l with
 |nil=>rfl
 |cons d t=>
  have h2:((47:UInt8)==d)=(d==47):=by rw[Kh,Ib,Ib];exact eq_comm
  rw[List.isPrefixOf,h2,List.isPrefixOf];rw[Uc];rfl
theorem lQ: ∀l:Str,Lib.index l [42,47]=match clsS l with|none=> -1|some r=>((l.length - r.length - 2:Nat):Int)
 |[]=>rfl
 |b::l=>by
  rw[Lib.index,pre2,clsS];cases h:b==42&&atS l 0==47 with
  |true=> rw[La rfl,La rfl];rw[Da,Ib,Ib]at h;have:=Dr (l:=l) (n:=0) (by rw[h.2];decide);simp only[Ob,Ea];omega
  |false=>
   simp only[Tc,Te];rw[lQ l];cases hc:clsS l with
   |none=>rfl
   |some r=> have:=(Cm l hc).2;simp only;rw[Ha (by rw[Ib];omega),Ea];omega
def cmtS(l:Str):Str:=
 if([47,42]:Str).isPrefixOf l then
  (match h:clsS (l.drop 2)with
  |some q=>cmtS q
  |none=>[])
 else l
termination_by l.length
decreasing_by
 have:=(Cm _ h).2;rw[Ob]at c;omega
theorem Ak(l:Str):cmtS l=if([47,42]:Str).isPrefixOf l then(match clsS (l.drop 2)with|some q=>cmtS q|none=>[])else l:=by
 rw[cmtS];split
 ·split<;>rename_i h<;>rw[h]
 ·rfl
theorem Z4{l:Str}(h:([47,42]:Str).isPrefixOf l=false):cmtS l=l:=by rw[Ak,h];rfl
theorem Ml(l:Str):cmtS l<:+l:=by
 rw[Ak];split
 ·split
  ·rename_i q c;have h1:=Cm _ c;have h2:=h1.2;rw[Ob]at h2;exact(Ml q).trans (h1.1.trans (Nf 2 l))
  ·exact List.nil_suffix
 ·exact Ad _
termination_by l.length
decreasing_by
 all_goals first|omega|(simp only[Ob]at *; omega)
theorem Dq(l:Str):cmtS (cmtS l)=cmtS l:=by
 rw[Ak l];split
 ·split
  ·rename_i q c;have h2:=(Cm _ c).2;rw[Ob]at h2;exact Dq q
  ·exact Z4 rfl
 ·rename_i h;exact Z4 (Bool.eq_false_iff.2 h)
termination_by l.length
decreasing_by
 all_goals first|omega|(simp only[Ob]at *; omega)
theorem Ey(l:Str):([47,42]:Str).isPrefixOf (cmtS l)=false:=by
 have h:=Dq l;cases hp:([47,42]:Str).isPrefixOf (cmtS l)with
 |false=>rfl
 |true=>
  exfalso;rw[Ak (cmtS l),hp,La rfl]at h;have hl:=Vn hp;rw[show([47,42]:Str).length=2 from rfl]at hl;cases hc:clsS ((cmtS l).drop 2)with
  |none=>rw[hc]at h;rw[<-h]at hl;simp at hl
  |some q=> rw[hc]at h;have h1:=(Cm _ hc).2;have h2:=(Ml q).length_le;simp only at h;rw[h,Ob]at*;omega
theorem RQ{s q:Str}(B:s.length<=40000)(m:q<:+s):Zh (sr s q)=some (sr s (cmtS q)):=by
 have u:s.length<=big:=by unfold big;omega
 unfold Zh;refine iD (fun z=> ∃p,z=sr s p/\p<:+s/\cmtS p=cmtS q) (fun z=>s.length - z.at_.toNat) _ ?_ ⟨q,rfl,m,rfl⟩;rintro _ ⟨p,rfl,hp,d⟩;rw[zy OW];simp only[ze,OG hp,Bv,Aa];rw[Ak p]at d;cases c:([47,42]:Str).isPrefixOf p with
 |false=> rw[c,Ha (by decide)]at d;exact .inr (.inl ⟨_,rfl,by rw[d]⟩)
 |true=>
  rw[c,La rfl]at d;have hl:=Vn c;rw[show([47,42]:Str).length=2 from rfl]at hl;have v:=hp.length_le;have hb:=NN hp hl;have y:=Yk s (p.drop 2);rw[Ka];have A:w64 ((beh s p:Int)+2)=((beh s (p.drop 2):Nat):Int):=by rw[<-hb,Za (by omega) (by omega)];omega
  rw[A,zy (by rw[Ja (by omega),Ja (by omega)];rfl),OG (Im hp 2)];have f:(p.drop 2).length<=40000:=by rw[Ob];omega
  have hi:Am (p.drop 2,[42,47])=some (Lib.index (p.drop 2) [42,47]):=by unfold Am;rw[zy (by exact Ja (show(p.drop 2).length<4294967281 by omega))]
  rw[hi,lQ];simp only[Aa];cases hc:clsS (p.drop 2)with
  |none=> rw[hc]at d;refine .inr (.inr ?_);rw[<-d];show _=some (LO.ret (⟨s,(beh s []:Int)⟩:za));unfold beh;rw[Lc];rfl
  |some r=>
   rw[hc]at d;obtain⟨h1,h2⟩:=Cm _ hc;have i:r<:+s:=h1.trans (Im hp 2);rw[Ob]at h2 f;simp only;rw[Db (by omega),Ia];refine .inl ⟨sr s r,?_,⟨r,rfl,i,d⟩,?_⟩
   ·rw[Ob,Za (n:=_+4) (by omega) (by omega)];have:(beh s p:Int)+(((p.length - 2 - r.length - 2:Nat):Int)+4)=((beh s r:Nat):Int):=by unfold beh;omega
    rw[j,Za (by have:=Yk s r;omega) (by have:=Yk s r;omega)]
   ·show s.length - beh s r<s.length - beh s p;unfold beh;omega
def qj(l:Str):List zb:=
 match h:cmtS l with
 |[]=>[]
 |c::r=>(Zq (c::r)).1::qj (Zq (c::r)).2
termination_by l.length
decreasing_by
 have h1:=(Nl c r).length_le;have h2:=(Ml l).length_le;rw[h,Ea]at h2;omega
theorem QE{l:Str}(h:cmtS l=[]):qj l=[]:=by
 rw[qj];split
 ·rfl
 ·rename_i h2;rw[h]at h2;cases h2
theorem QJ{l:Str}{c:UInt8}{r:Str}(h:cmtS l=c::r):qj l=(Zq (c::r)).1::qj (Zq (c::r)).2:=by
 rw[qj];split
 ·rename_i h2;rw[h]at h2;cases h2
 ·rename_i h2;rw[h]at h2;injection h2 with h3 h4;subst h3 h4;rfl
theorem OC(l:Str):qj (cmtS l)=qj l:=by
 cases h:cmtS l with
 |nil=>rw[QE h];exact QE (Z4 rfl)
 |cons c r=> rw[QJ h];exact QJ (by rw[<-h,Dq])
theorem jN(l:Str):(qj l).length<=l.length:=by
 cases h:cmtS l with
 |nil=>rw[QE h];exact Pb _
 |cons c r=>
  have h4:(Zq (c::r)).2.length<l.length:=by have h1:=(Nl c r).length_le;have h2:=(Ml l).length_le;rw[h,Ea]at h2;omega
  rw[QJ h,Ea];have:=jN (Zq (c::r)).2;omega
termination_by l.length
decreasing_by
 all_goals omega
theorem SQ: ∀l:Str,(Proofs.Cl.cleanS l).length<=3*l.length:=by
 have: ∀(n:Nat) (l:Str),l.length<=n->(Proofs.Cl.cleanS l).length<=3*l.length:=by
  intro n
  induction n with
  |zero=>
   intro l h;cases l with
   |nil=>rw[Proofs.Cl.cleanS];exact Va _
   |cons c r=>rw[Ea]at h;omega
  |d n f=>
   intro l h;rw[Proofs.Cl.cleanS.eq_def];split
   ·exact Va _
   ·rename_i r;rw[Ea,Ea]at h;have:=f r (by omega);rw[Ea,Ea,Ea];omega
   ·rename_i c r _;rw[Ea]at h;have:=f r (by omega);rw[Bool.cond_eq_ite];split
    ·simp only[Ea];omega
    ·rw[Bool.cond_eq_ite];split
     ·simp only[Ea];omega
     ·simp only[Ea];omega
 exact fun l=>i l.length l (Va _)
def Ki(w:Str):List zb×Int:=if 4000<w.length then([],28)else if 1500<(qj (Proofs.Cl.cleanS w)).length then([],4)else(qj (Proofs.Cl.cleanS w),0)
theorem zBE{n:Nat}(h:n<=100000):Zb n 1 56=true:=by unfold Zb;exact Ja (by omega)
theorem BJ(w:Str):ZL w=some (Ki w):=by
 unfold ZL Ki;by_cases d:4000<w.length
 ·have hcl:ul w=some ([],28):=by unfold ul;rw[La d]
  unfold dz;rw[hcl,La d];rfl
 ·have hcl:ul w=some (Proofs.Cl.cleanS w,0):=by unfold ul;rw[Ha d]
  rw[Ha d];have h3:=SQ w;generalize Proofs.Cl.cleanS w=s at hcl h3;have A:s.length<=40000:=by omega
  unfold dz;rw[hcl];simp only[ze,Aa];rw[show((0:Int) != 0)=false from rfl,Ia,sr_0,RQ A (Ad s)];simp only[Aa];have j: ∃z:Int×List zb,ZE (fun(i:Int×List zb×za)=>
    bif decide (i.2.2.at_<(s.length:Int))then
     bif decide (w64 (i.1+1)>1500)then
      some (LO.ret (4,i.2.1))
     else
      (qa i.2.2).bind fun B=>
      (QI ((B.1,i.2.2.at_,B.2.at_),i.2.1)).bind fun Y=>
      (Zh B.2).bind fun Z=>
      some (LO.again (w64 (i.1+1),Y,Z))
    else
     some (LO.out (i.2.1,i.2.2)):Int×List zb×za->Option (LO (Int×List zb×za) (List zb×za) (Int×List zb))) (0,[],sr s (cmtS s)) (fun o7=>some (0,o7.1))=some z/\
    z=(if 1500<(qj s).length then(4,(qj s).take 1500)else(0,qj s)):=by
   refine⟨_,iD (fun z=> ∃(acc:List zb) (q:Str),z=((acc.length:Int),acc,sr s q)/\q<:+s/\cmtS q=q/\acc.length<=1500/\acc++qj q=qj s) (fun z=>s.length - z.2.2.at_.toNat) (if 1500<(qj s).length then(4,(qj s).take 1500)else(0,qj s)) ?_ ⟨[],cmtS s,rfl,Ml s,Dq s,by simp,by rw[Kc,OC]⟩,rfl⟩;rintro _ ⟨acc,q,rfl,J,L,ha,u⟩;simp only;have O:=J.length_le;cases q with
   |nil=>
    have hb:((beh s []:Nat):Int)=(s.length:Int):=by unfold beh;rw[Lc];rfl
    have U:decide (((beh s []:Nat):Int)<(s.length:Int))=false:=Db (by omega);simp only[U,Ia];rw[QE (Z4 rfl),Ab]at u;refine .inr (.inl ⟨_,rfl,?_⟩);rw[<-u,Ha (by omega)]
   |cons c r=>
    rw[Ea]at O;have hb:beh s (c::r)<s.length:=by unfold beh;rw[Ea];omega
    have U:decide (((beh s (c::r):Nat):Int)<(s.length:Int))=true:=Ja (by omega);have hw:w64 ((acc.length:Int)+1)=(acc.length:Int)+1:=Za (by omega) (by omega);simp only[U,Ka,hw];rw[QJ L]at u;have v:=congrArg List.length u;rw[Ba,Ea]at v;by_cases m:acc.length=1500
    ·have p:decide ((acc.length:Int)+1>1500)=true:=Ja (by omega);simp only[p,Ka];refine .inr (.inr ?_);rw[La (by omega),<-u,<-m,xh]
    ·have p:decide ((acc.length:Int)+1>1500)=false:=Db (by omega);simp only[p,Ia,zEG A J rfl,Aa];unfold QI;rw[zy (zBE (by simp only;omega))];have y:(Zq (c::r)).2<:+s:=(Nl c r).trans (Ck J);simp only[Aa,RQ A y];refine .inl ⟨_,rfl,⟨acc++[(Zq (c::r)).1],cmtS (Zq (c::r)).2,?_,(Ml _).trans y,Dq _,by rw[Ba,Cb];omega,?_⟩,?_⟩
     ·rw[Ba,Cb];refine Prod.ext ?_ rfl;show(acc.length:Int)+1=((acc.length+1:Nat):Int);omega
     ·rw[OC,Na];exact u
     ·have h1:=(Nl c r).length_le;have h2:=(Ml (Zq (c::r)).2).length_le;show s.length - beh s (cmtS (Zq (c::r)).2)<s.length - beh s (c::r);unfold beh at*;rw[Ea]at*;omega
  obtain⟨z,V,W⟩:=j;rw[V,W];by_cases f:1500<(qj s).length
  ·rw[La f,La f];rfl
  ·rw[Ha f,Ha f];rfl
end Go.Lv.VT
