/- The writing of names. -/
import Derived.Test.YtnfhfeipljhciaaGreatDoorNam
set_option linter.unusedSimpArgs false
set_option linter.unusedVariables false
namespace Go.Lv.VT
set_option maxRecDepth 100000
def escC(c:UInt8):Str:=bif decide (32<c.toNat)&&decide (c.toNat<127)&& !digB c&& !alB c then [92,c]else 92::(hexS c.toNat++[32])
def pcW(dash:Bool)(k:Nat)(c:UInt8):Str:=bif letB c&&(k==0|| !digB c)&& !dash then [c]else escC c
def encW(dash:Bool):Nat->Str->Str
 |_,[]=>[]
 |k,c::r=>pcW dash k c++encW dash (k - 1) r
theorem wV(c:UInt8):namN c.toNat=letB c:=by
 have: ∀n:Nat,n<256->namN (UInt8.ofNat n).toNat=letB (UInt8.ofNat n):=by decide+kernel
 have h:=this c.toNat (Ib c)
 rwa [Sb]at h
theorem JL(c:UInt8):QG (c.toNat:Int)=some (letB c):=by rw[pR,wV]
theorem nE(c:UInt8):ZY (c.toNat:Int)=some (digB c):=rR c
theorem vX(c:UInt8):yt (c.toNat:Int)=some (alB c):=of_n (by decide+kernel) c
theorem xW(c:UInt8):wu64 (c.toNat:Int)=(c.toNat:Int):=by
 have:=Ib c;show IntKind.u64.wrap _=_;have h: ∀n:Int,IntKind.u64.wrap n=n%18446744073709551616:=fun n=>by simp[IntKind.wrap,IntKind.bits,IntKind.signed]
 rw[h];omega
theorem Fs(c:UInt8):ZK ((c.toNat:Nat):Int)=some c:=by rw[Zr (Ib c),Sb]
theorem OM(n:Nat):(hexS n).length<=2:=by unfold hexS;split<;>simp
theorem xm(c:UInt8){acc:Str}(ha:acc.length<=1000000000):Za ((c.toNat:Int),acc)=some (acc++escC c):=by
 have hc:=Ib c;unfold Za escC;simp only[ze,nE,vX];have e1:decide ((c.toNat:Int)>32)=decide (32<c.toNat):=by rw[decide_eq_decide];omega
 have e2:decide ((c.toNat:Int)<127)=decide (c.toNat<127):=by rw[decide_eq_decide];omega
 rw[e1,e2];have hsh:short (acc++[(92:UInt8)])=true:=Ea (by rw[Ca,Ua];omega);have hu:uo ((wu64 (c.toNat:Int),16),acc++[(92:UInt8)])=some (acc++[(92:UInt8)]++hexS c.toNat):=by unfold uo;simp only[xW,hsh];rw[zk (by simp;omega)];rfl
 have hx:=OM c.toNat;have hfin:need (zP acc.length 1 1) (ze (uo ((wu64 (c.toNat:Int),16),acc++[(92:UInt8)])) fun y4=>need (zP y4.length 1 1) (some (y4++[(32:UInt8)])))=some (acc++92::(hexS c.toNat++[32])):=by rw[zk (vg (by omega)),hu];simp only[ze,Aa];rw[zk (vg (by rw[Ca,Ca,Ua];omega))];simp
 simp only[ze]at hfin;rw[hfin];cases decide (32<c.toNat)with
 |false=>rfl
 |true=>
  cases decide (c.toNat<127)with
  |false=>rfl
  |true=>
   cases digB c with
   |true=>rfl
   |false=>
    cases alB c with
    |true=>rfl
    |false=> simp only[zq,Fa,Eb,Bool.and_self,Aa,Fs];rw[zk (vg (by omega))]
theorem Q4(c:UInt8):(escC c).length<=4:=by
 have:=OM c.toNat;unfold escC;cases decide (32<c.toNat)&&decide (c.toNat<127)&& !digB c&& !alB c with
 |true=>show 2<=4;omega
 |false=>rw[Ba,Ga,Ca,Ua];omega
theorem EF(dash:Bool)(k:Nat)(c:UInt8):(pcW dash k c).length<=4:=by
 have:=Q4 c;unfold pcW;cases letB c&&(k==0|| !digB c)&& !dash with
 |true=>show 1<=4;omega
 |false=>exact this
theorem Cj(dash:Bool): ∀(k:Nat) (l:Str),(encW dash k l).length<=4*l.length
 |_,[]=>by unfold encW;simp
 |k,c::r=>by have:=EF dash k c;have:=Cj dash (k - 1) r;unfold encW;rw[Ca,Ga];omega
theorem zAh{dash:Bool}{k i:Nat}{l:Str}(h:i<l.length):encW dash (k - i) (l.drop i)=pcW dash (k - i) l[i]++encW dash (k - (i+1)) (l.drop (i+1)):=by rw[Pb h,encW,show k - i - 1=k - (i+1) by omega]
theorem aK {R:Type} {step:Int×List UInt8->Option (LO (Int×List UInt8) (List UInt8) R)} {l acc:Str} {k:Nat} {dash:Bool} (hl:l.length<=100000) (ha:acc.length<=100000000)
  (h1: ∀(i:Nat) (a:Str) (hi:i<l.length),a.length<=500000000->step ((i:Int),a)=some (.again (w64 ((i:Int)+1),a++pcW dash (k - i) l[i])))
  (h2: ∀a,step ((l.length:Int),a)=some (.out a)):Gg step (0,acc)=some (.out (acc++encW dash k l)):=by
 refine ZG (fun z=> ∃(i:Nat) (a:Str),z=((i:Int),a)/\i<=l.length/\a.length<=acc.length+4*i/\a++encW dash (k - i) (l.drop i)=acc++encW dash k l) (fun z=>l.length - z.1.toNat) _ ?_ ⟨0,acc,rfl,by omega,by omega,rfl⟩;rintro _ ⟨i,a,rfl,hi,hal,he⟩;rcases Mc i l.length with h|h
 ·refine .inl ⟨_,h1 i a h (by omega),⟨i+1,_,by rw[zz (by omega) (by omega)];rfl,by omega,?_,?_⟩,by simp only;rw[zz (by omega) (by omega)];omega⟩
  ·have:=EF dash (k - i) l[i];rw[Ca];omega
  ·rw[<-he,zAh h,Ma]
 ·have:i=l.length:=by omega
  subst this;refine .inr (.inl ⟨_,h2 a,?_⟩);rw[<-he,De (Cb _)];rw[show encW dash (k - l.length) []=[] by rw[encW],Ya]
def Ji(k:Nat)(l:Str):Bool:= !(k==0)&&l==[45]
theorem EN{l:Str}{k:Nat}(hl:l.length<=100000):qY (l,(k:Int))=some (encW (Ji k l) k l):=by
 unfold qY;rw[zW (aK (dash:=Ji k l) (k:=k) (l:=l) (acc:=[]) hl (by simp) (fun i a hi ha=> ?_) (fun a=> ?_))]
 ·rfl
 ·have d1:decide ((i:Int)<(l.length:Int))=true:=Ea (by omega);have d2:geti l (i:Int)=some l[i]:=QJ hi;have d3:decide ((i:Int)>=(k:Int))=(k - i==0):=by
   by_cases h:k<=i
   ·rw[Ea (by omega),show k - i=0 by omega];rfl
   ·rw[Ra (by omega)];symm;rw[Ia];omega
  have d4:((k:Int)==0)=(k==0):=by
   by_cases h:k=0
   ·subst h;rfl
   ·rw[Ia.2 h,Ia];omega
  simp only[d1,Fa,d2,d3,d4,ze,Aa,JL,nE];have hd:(bif k==0 then true else !(l==[45]))= !Ji k l:=by unfold Ji;cases k==0<;>cases l==[45]<;>rfl
  rw[hd];unfold pcW;cases letB l[i]with
  |false=>
   cases k - i==0<;>simp only[zq,Nb,Eb,Xd,Ic,Cc,Fa,Ba,Aa,xm l[i] (show a.length<=1000000000 by omega),zg]
  |true=> cases k - i==0<;>cases digB l[i]<;>cases Ji k l<;>simp only[zq,Nb,Eb,Xd,Ic,Cc,jd,Jf,Lb,jc,Pe,Fa,Ba,Aa,Fs,zk (vg (show a.length+1<=2000000000 by omega)),xm l[i] (show a.length<=1000000000 by omega),zg]
 ·simp only;rw[Ra (by omega),Ba]
def Zy(l:Str):Nat:=if [45].isPrefixOf l then 2 else 1
theorem Sl(l:Str):ZF l=some ((Zy l:Nat):Int):=by unfold ZF Zy;simp only[ze,Du,Aa];cases List.isPrefixOf [45] l<;>rfl
def ZN(l:Str):Str:=encW (l==[45]) (Zy l) l
theorem Fw{n:Nat}(h:n<16):qA (hexD n)=true/\hexN (hexD n)=n/\(hexD n==10)=false/\letB (hexD n)=true:=by
 have: ∀n:Nat,n<16->qA (hexD n)=true/\hexN (hexD n)=n/\(hexD n==10)=false/\letB (hexD n)=true:=by decide+kernel
 exact this n h
theorem aC{k n:Nat}{c:UInt8}{r:Str}(h:qA c=true):hexes (k+1) n (c::r)=hexes k (16*n+hexN c) r:=by rw[hexes,Ka h]
theorem dL{n:Nat}(h:n<256)(R:Str):hexes 6 0 (hexS n++32::R)=(n,32::R):=by
 unfold hexS;by_cases h1:n<16
 ·obtain⟨a,b,_⟩:=Fw h1;rw[Ka h1,Ud,aC a,b,Dw _ _ (32::R) (show qA 32=false by decide)];simp
 ·obtain⟨a,b,_⟩:=Fw (show n / 16<16 by omega);obtain⟨a',b',_⟩:=Fw (show n%16<16 by omega);rw[Ja h1,ja,Ud,aC a,aC a',b,b',Dw _ _ (32::R) (show qA 32=false by decide)];rw[show 16*(16*0+n / 16)+n%16=n by omega]
theorem vG{n:Nat}(h:n<256)(R:Str): ∃d t,hexS n++R=d::t/\qA d=true/\(d==10)=false:=by
 unfold hexS;by_cases h1:n<16
 ·obtain⟨a,_,b,_⟩:=Fw h1;exact⟨_,_,by rw[Ka h1];rfl,a,b⟩
 ·obtain⟨a,_,b,_⟩:=Fw (show n / 16<16 by omega);exact⟨_,_,by rw[Ja h1];rfl,a,b⟩
theorem CO{c:UInt8}(h0:c≠0)(h:c.toNat<128):jg c.toNat=[c]:=by
 have hn:c.toNat≠0:=by intro e;exact h0 (Bf.1 e)
 unfold jg;rw[Ja (by omega),Ka h,Sb]
theorem iO{r:Str}(h:escS (92::r)=true):zm (92::r)=((zo r).1++(zm (zo r).2).1,(zm (zo r).2).2):=by rw[zI,Ja (by decide),Ka h]
theorem rM{c:UInt8}(h0:c≠0)(h:c.toNat<128)(R:Str):zm (escC c++R)=(c::(zm R).1,(zm R).2):=by
 unfold escC;cases hg:decide (32<c.toNat)&&decide (c.toNat<127)&& !digB c&& !alB c with
 |true=>
  rw[Fa];have hx:qA c=false/\(c==10)=false:=by
   have: ∀n:Nat,n<256->(decide (32<(UInt8.ofNat n).toNat)&&decide ((UInt8.ofNat n).toNat<127)&& !digB (UInt8.ofNat n)&& !alB (UInt8.ofNat n))=true->qA (UInt8.ofNat n)=false/\(UInt8.ofNat n==10)=false:=by decide+kernel
   have:=this c.toNat (Ib c);rw[Sb]at this;exact this hg
  have he:zo (c::R)=([c],R):=by show(if qA c then _ else _)=_;rw[Ja (by rw[hx.1];decide)]
  rw[show [92,c]++R=92::c::R from rfl,iO (by unfold escS;rw[show atS (92::c::R) 0=92 from rfl,show atS (92::c::R) 1=c from rfl,hx.2];rfl),he];rfl
 |false=>
  rw[Ba,ja,Ma];obtain⟨d,t,e,hd,h10⟩:=vG (n:=c.toNat) (Ib c) ([32]++R);have he:zo (hexS c.toNat++([32]++R))=([c],R):=by have hh:=dL (n:=c.toNat) (Ib c) R;rw[show(32::R:Str)=[32]++R from rfl,e]at hh;rw[e];show(if qA d then(jg (hexes 6 0 (d::t)).1,unsp (hexes 6 0 (d::t)).2)else _)=_;rw[Ka hd,hh,CO h0 h];rfl
  rw[iO (by rw[e];unfold escS;rw[show atS (92::d::t) 0=92 from rfl,show atS (92::d::t) 1=d from rfl,h10];rfl),he];rfl
theorem dE{c:UInt8}(h: ¬c.toNat<128):letB c=true/\digB c=false:=by
 have: ∀n:Nat,n<256-> ¬(UInt8.ofNat n).toNat<128->letB (UInt8.ofNat n)=true/\digB (UInt8.ofNat n)=false:=by decide+kernel
 have:=this c.toNat (Ib c);rw[Sb]at this;exact this h
theorem AL{dash:Bool}{k:Nat}{c:UInt8}(h0:c≠0)(hd:dash=true->c.toNat<128)(R:Str):zm (pcW dash k c++R)=(c::(zm R).1,(zm R).2):=by
 unfold pcW;cases hg:letB c&&(k==0|| !digB c)&& !dash with
 |true=> rw[Da,Da]at hg;rw[Fa,Ud,zI,Ka hg.1.1]
 |false=>
  rw[Ba];refine rM h0 ?_ R;by_cases h:c.toNat<128
  ·exact h
  ·obtain⟨a,b⟩:=dE h;rw[a,b,Eb,jd]at hg;exact hd (by cases dash<;>simp_all)
theorem sM{dash:Bool}: ∀(k:Nat) (l:Str),Zq l=true->(dash=true-> ∀c∈l,c.toNat<128)->zm (encW dash k l)=(l,[])
 |_,[],_,_=>by rw[encW,qF]
 |k,c::r,h,hd=>by unfold Zq at h;rw[ic,Da]at h;rw[encW,AL (by rintro rfl;exact absurd h.1 (by decide)) (fun e=>hd e c (Kb ..)),sM (k - 1) r h.2 (fun e x hx=>hd e x (Rb _ hx))]
theorem OY{l:Str}(h:Zq l=true):zm (ZN l)=(l,[]):=by refine sM _ _ h (fun e c hc=> ?_);rw[ma.1 e,Hd]at hc;subst hc;decide
theorem SB{dash:Bool}{k:Nat}(hk:0<k)(c:UInt8)(R:Str): ∃d t,pcW dash k c++R=d::t/\(d=92/\escS (d::t)=true\/(d=c/\dash=false/\letB d=true/\digB d=false/\t=R)):=by
 have hk0:(k==0)=false:=by rw[Ia];omega
 unfold pcW;rw[hk0,jc];cases hg:letB c&& !digB c&& !dash with
 |true=> rw[Da,Da,Xe,Xe]at hg;exact⟨c,R,rfl, .inr ⟨rfl,hg.2,hg.1.1,hg.1.2,rfl⟩⟩
 |false=>
  rw[Ba];unfold escC;cases hg2:decide (32<c.toNat)&&decide (c.toNat<127)&& !digB c&& !alB c with
  |true=>
   refine⟨92,c::R,rfl, .inl ⟨rfl,?_⟩⟩;have:c≠10:=by rintro rfl;revert hg2;decide
   unfold escS;rw[show atS (92::c::R) 1=c from rfl,Ia.2 this];rfl
  |false=> obtain⟨d,t,e,hd,h10⟩:=vG (n:=c.toNat) (Ib c) ([32]++R);refine⟨92,_,by rw[Ba,ja,Ma], .inl ⟨rfl,?_⟩⟩;rw[e];unfold escS;rw[show atS (92::d::t) 1=d from rfl,h10];rfl
theorem sO{d:UInt8}(h:letB d=true)(h2:digB d=false):fstB d=true\/d=45:=by unfold letB at h;rw[h2,Jf,Tc,ma]at h;exact h
theorem VK{d:UInt8}{t:Str}(hd:d=92)(h:escS (d::t)=true):nmS (d::t)=true:=by subst hd;unfold nmS;rw[show atS (92::t) 0=92 from rfl,Ja (by decide),h,jd]
theorem Jl{l:Str}(h:l≠[]):nmS (ZN l)=true:=by
 cases l with
 |nil=>exact absurd rfl h
 |cons c r=>
  unfold ZN encW;obtain⟨d,t,e,hd⟩:=SB (dash:=(c::r:Str)==[45]) (k:=Zy (c::r)) (by unfold Zy;split<;>omega) c (encW ((c::r:Str)==[45]) (Zy (c::r) - 1) r);rw[e];rcases hd with⟨h1,h2⟩|⟨rfl,h2,h3,h4,h5⟩
  ·exact VK h1 h2
  ·rcases sO h3 h4 with h6|rfl
   ·by_cases h45:d=45
    ·subst h45;exact absurd h6 (by decide)
    ·unfold nmS;rw[show atS (d::t) 0=d from rfl,Ja (by rw[ma];exact h45),h6,Pe]
   ·have hr:r≠[]:=by rintro rfl;exact absurd h2 (by decide)
    cases r with
    |nil=>exact absurd rfl hr
    |cons c2 r2=>
     have hf:Zy (45::c2::r2)=2:=rfl;rw[hf]at h5;obtain⟨d2,t2,e2,hd2⟩:=SB (dash:=(45::c2::r2:Str)==[45]) (k:=2 - 1) (by omega) c2 (encW ((45::c2::r2:Str)==[45]) (2 - 1 - 1) r2);have ht:t=d2::t2:=by rw[h5,encW,e2]
     rw[ht];unfold nmS;rw[show atS (45::d2::t2) 0=45 from rfl,Ka (show((45:UInt8)==45)=true from rfl),show atS (45::d2::t2) 1=d2 from rfl,show(45::d2::t2:Str).drop 1=d2::t2 from rfl];rcases hd2 with⟨_,h7⟩|⟨_,_,h8,h9,_⟩
     ·rw[h7,jd]
     ·rcases sO h8 h9 with h10|rfl
      ·rw[h10];rfl
      ·simp
theorem Qw(m:UInt8):zR m []=(some [],[]):=by rw[zR]
theorem qV(m c:UInt8)(r:Str):zR m (c::r)=if c==m then(some [],r)
  else if c==10 then(none,c::r)
  else if c==92 then
   (if r.isEmpty then(some [],[])
   else if atS r 0==10 then zR m (r.drop 1)
   else((zR m (zo r).2).1.map ((zo r).1++ ·),(zR m (zo r).2).2))
  else((zR m r).1.map (c:: ·),(zR m r).2):=by rw[zR]
theorem rC(m:UInt8)(l:Str):(zR m l).2<:+l:=by
 match l with
 |[]=>rw[Qw];exact Gc _
 |c::r=>
  rw[qV];have hr:=Td c r;split
  ·exact hr
  ·split
   ·exact Gc _
   ·split
    ·split
     ·exact Uf
     ·split
      ·exact(rC m (r.drop 1)).trans ((je 1 r).trans hr)
      ·have:=zF r;exact(rC m (zo r).2).trans ((Zb r).trans hr)
    ·exact(rC m r).trans hr
termination_by l.length
decreasing_by
 all_goals first|(have:=zF r;simp only[Ga];omega)|(simp only[Ga,Ob];omega)
theorem Hw(a b:Str)(x:Option Str):(x.map (b++ ·)).map (a++ ·)=x.map ((a++b)++ ·):=by
 cases x with
 |none=>rfl
 |some t=>show some (a++(b++t))=some ((a++b)++t);rw[Ma]
theorem WB(a:Str)(b:UInt8)(x:Option Str):(x.map (b:: ·)).map (a++ ·)=x.map ((a++[b])++ ·):=Hw a [b] x
def Vj:Option Str->zb
 |some t=>⟨5,t,0,[],false⟩
 |none=>⟨6,[],0,[],false⟩
theorem zA5{s q:Str}{m:UInt8}(hs:s.length<=big)(hm:m::q<:+s):qy (sr s (m::q))=some (Vj (zR m q).1,sr s (zR m q).2):=by
 have hb:big=4194304:=rfl;have hq:=zU hm;unfold qy;simp only[ze,Bh hs hm,Aa,Yo,Vh hs hm]
 let res:LX (za×zb×List UInt8) (zb×za):=match(zR m q).1 with
  |some t=> .out (sr s (zR m q).2,⟨0,[],0,[],false⟩,t)
  |none=> .ret (⟨6,[],0,[],false⟩,sr s (zR m q).2)
 rw[wo (r:=res)]
 ·show LX.go res _=_;cases h:(zR m q).1 with
  |some t=>simp only[res,h];rfl
  |none=>simp only[res,h];rfl
 refine ZG (fun z=> ∃(p acc:Str),z=(sr s p,⟨0,[],0,[],false⟩,acc)/\p<:+s/\acc.length+4*p.length<=4*s.length/\(zR m q).1=(zR m p).1.map (acc++ ·)/\(zR m q).2=(zR m p).2) (fun z=>s.length - z.1.at_.toNat) _ ?_
  ⟨q,[],rfl,hq,by have:=hq.length_le;rw[Jb];omega,by simp,rfl⟩
 rintro _ ⟨p,acc,rfl,hp,hl,he1,he2⟩;simp only[Bh hs hp,Aa,Jo,WJ,TU];cases p with
 |nil=> refine .inr (.inl ⟨_,rfl,?_⟩);rw[Qw]at he1 he2;simp only[res,he1,he2,jb,Ya]
 |cons c t=>
  have hlen:=hp.length_le;rw[Ga]at hlen hl;have ht:=zU hp;rw[qV]at he1 he2;rw[show(c::t).isEmpty=false from rfl,Ba,Yo,show((c.toNat:Int)==(m.toNat:Int))=(c==m)from Qe c m,show atS (c::t) 0=c from rfl,Vh hs hp];have mono: ∀u:Str,u.length<=t.length->u<:+s->s.length - beh s u<s.length - beh s (c::t):=by intro u hu hus;unfold beh;rw[Ga];omega
  cases hcm:c==m with
  |true=> rw[hcm,Ka rfl]at he1 he2;refine .inr (.inl ⟨_,by rw[Fa],?_⟩);simp only[res,he1,he2,jb,Ya]
  |false=>
   rw[hcm,Ja (by decide)]at he1 he2;rw[Ba];cases h10:c==10 with
   |true=> rw[h10,Ka rfl]at he1 he2;refine .inr (.inr ⟨_,by rw[Fa],?_⟩);simp only[res,he1,he2,Option.map_none]
   |false=>
    rw[h10,Ja (by decide)]at he1 he2;rw[Ba];cases h92:c==92 with
    |false=> rw[h92,Ja (by decide)]at he1 he2;simp only[zq,Ba,Aa,Xd,jw];rw[zk (vg (by omega))];exact .inl ⟨_,rfl,⟨t,acc++[c],rfl,ht,by rw[Ca,Ua];omega,by rw[he1,WB],he2⟩,mono t (by omega) ht⟩
    |true=>
     rw[h92,Ka rfl]at he1 he2;simp only[zq,Fa,pu hs hp,Aa,Cc];have hpk:pk (c::t) 1=pk t 0:=rfl;rw[hpk,Jo];cases t with
     |nil=>
      rw[show([]:Str).isEmpty=true from rfl,Ka rfl]at he1 he2;have hbe:beh s [c]=s.length - 1:=rfl;have h2:(if((s.length:Int)<w64 ((beh s [c]:Int)+2))then(s.length:Int)else w64 ((beh s [c]:Int)+2))=((beh s []:Nat):Int):=by rw[zz (by omega) (by omega),Ka (by omega)];unfold beh;rw[Jb];omega
      refine .inl ⟨(sr s [],⟨0,[],0,[],false⟩,acc),?_,⟨[],acc,rfl,Uf,by rw[Jb];omega,by rw[he1,Qw],by rw[he2,Qw]⟩,mono [] (by simp) Uf⟩;simp only[List.isEmpty_nil,Fa,Nb,Ba,Aa];rw[h2]
     |cons d u=>
      rw[show(d::u).isEmpty=false from rfl,Ja (by decide)]at he1 he2;simp only[show(d::u).isEmpty=false from rfl,Eb,Fa,Ba,Aa,WJ];cases hd:atS (d::u) 0==10 with
      |true=>
       rw[hd,Ka rfl]at he1 he2;have hu:=zU ht;rw[Ga]at hlen hl;have hbe:beh s (c::d::u)=s.length - (u.length+1+1):=by unfold beh;rw[Ga,Ga]
       have h2:(if((s.length:Int)<w64 ((beh s (c::d::u):Int)+2))then(s.length:Int)else w64 ((beh s (c::d::u):Int)+2))=((beh s u:Nat):Int):=by rw[zz (by omega) (by omega),Ja (by omega)];unfold beh;rw[Ga,Ga];omega
       refine .inl ⟨(sr s u,⟨0,[],0,[],false⟩,acc),?_,⟨u,acc,rfl,hu,by omega,he1,he2⟩,mono u (by rw[Ga];omega) hu⟩;simp only[Fa];rw[h2]
      |false=> rw[hd,Ja (by decide)]at he1 he2;have h4:=Rp (d::u);have h5:=zF (d::u);refine .inl ⟨(sr s (zo (d::u)).2,⟨0,[],0,[],false⟩,acc++(zo (d::u)).1),?_,⟨_,_,rfl,(Zb _).trans ht,by rw[Ca];omega,by rw[he1,Hw],he2⟩,mono _ h5 ((Zb _).trans ht)⟩;simp only[Ba,BH hs hp (show acc.length<=1000000000 by omega),Aa]
theorem NU{n:Nat}(h0:n≠0)(h:n<16777216):Z4 (w32 (n:Int))=some (jg n):=by
 have a1:zP 0 1 1=true:=vg (by omega);have a2:zP 0 2 1=true:=vg (by omega);have a3:zP 0 3 1=true:=vg (by omega);have a4:zP 0 4 1=true:=vg (by omega);have a80:(128+n%64)<256:=by omega
 have m80:(128+n / 64%64)<256:=by omega
 have k80:(128+n / 4096%64)<256:=by omega
 unfold Z4 Z9 jg;simp only[Sm (show n<2147483648 by omega),xL (show n<2147483648 by omega),ze,shr6,fU,eU,GN,Zr a80,Zr m80,Zr k80,Aa];by_cases h1:n<128
 ·rw[Ea (by omega),Fa,Mr,Zr (by omega),Aa,zk a1,Ja (by omega),Ka h1,Nf (by omega)]
 ·rw[Ra (by omega),Ba];by_cases h2:n<2048
  ·rw[Ea (by omega),Fa,YU (by omega),Zr (by omega)];simp only[Aa];rw[zk a2,Ja (by omega),Ja (by omega),Ka h2];rfl
  ·rw[Ra (by omega),Ba];by_cases h3:n<55296
   ·rw[Ea (by omega),Fa,zg];simp only[Fa];rw[Kz (by omega),Zr (by omega)];simp only[Aa];rw[zk a3,Ja (by omega),Ja (by omega),Ja (by omega),Ka (by omega)];rfl
   ·rw[Ra (by omega),Ba,zg];simp only[vJ];by_cases h4:57343<n/\n<65536
    ·rw[Ea (by omega),Ea (by omega),Cc,Fa,Kz (by omega),Zr (by omega)];simp only[Aa];rw[zk a3,Ja (by omega),Ja (by omega),Ja (by omega),Ka (by omega)];rfl
    ·rw[show(decide ((57343:Int)<(n:Int))&&decide ((n:Int)<=65535))=false by rw[Yf];simp only[Mf];omega,Ba];by_cases h5:65535<n/\n<=1114111
     ·rw[Ea (by omega),Ea (by omega),Cc,Fa,XU (by omega),Zr (by omega)];simp only[Aa];rw[zk a4,Ja (by omega),Ja (by omega),Ja (by omega),Ja (by omega)];rfl
     ·rw[show(decide ((n:Int)>65535)&&decide ((n:Int)<=1114111))=false by rw[Yf];simp only[Mf];omega,Ba,zk a3,Ka (by omega)];rfl
theorem xP:Z4 65533=some Ck:=by have h:=NU (n:=65533) (by omega) (by omega);rw[Sm (by omega)]at h;exact h
theorem iY{s l:Str}{c:UInt8}(hs:s.length<=big)(hr:c::l<:+s):
  ZQ (sr s (c::l))=some (sr s (zo l).2,(zo l).1):=by
 have hl:=zU hr;unfold ZQ;simp only[Vh hs hr,ze,Bh hs hl,Aa,Jo];cases l with
 |nil=> rw[show([]:Str).isEmpty=true from rfl,Fa,xP];rfl
 |cons d r=>
  rw[show(d::r).isEmpty=false from rfl,Ba,Sz];simp only[Aa,Rs];cases hx:qA (atS (d::r) 0)with
  |false=>
   rw[Eb,Fa,Yo,jw];simp only[Aa,Vh hs hl];rw[zk (vg (n:=0) (by omega))];have:zo (d::r)=([d],r):=by show(if qA d then _ else _)=_;rw[Ja (by rw[show qA d=false from hx];decide)]
   rw[this]
  |true=>
   rw[Nb,Ba];have he:zo (d::r)=(jg (hexes 6 0 (d::r)).1,unsp (hexes 6 0 (d::r)).2):=by show(if qA d then _ else _)=_;rw[Ka (show qA d=true from hx)]
   rw[he];rw[zW (XM (l:=d::r) hl (fun n i q hq hn hi=> ?_))]
   ·have hq:(hexes 6 0 (d::r)).2<:+s:=(Gx 6 0 _).trans hl;have hlt:=dB 6 0 (d::r);rw[show 16 ^ 6*(0+1)=16777216 from rfl]at hlt;simp only[Bh hs hq,Aa,Tv];have hj:(bif spB (atS (hexes 6 0 (d::r)).2 0)then some (LX.out (((hexes 6 0 (d::r)).1:Int),(⟨s,w64 ((beh s (hexes 6 0 (d::r)).2:Int)+1)⟩:za)))else some (LX.out (((hexes 6 0 (d::r)).1:Int),sr s (hexes 6 0 (d::r)).2)):Option (LX (Int×za) (za×List UInt8)))
      =some (LX.out (((hexes 6 0 (d::r)).1:Int),sr s (unsp (hexes 6 0 (d::r)).2))):=by
     cases hh:(hexes 6 0 (d::r)).2 with
     |nil=>rfl
     |cons e t=> rw[hh]at hq;rw[show atS (e::t) 0=e from rfl,Vh hs hq];show _=some (LX.out (_,sr s (if spB e then t else e::t)));cases spB e<;>rfl
    rw[hj,zg];simp only;by_cases h0:(hexes 6 0 (d::r)).1=0
    ·rw[h0,show((((0:Nat):Int))==0)=true from rfl,Fa,zg];simp only[Sm (show 65533<2147483648 by omega),show w32 (65533:Int)=65533 from Sm (n:=65533) (by omega),xP,Aa];rfl
    ·rw[show(((hexes 6 0 (d::r)).1:Int)==0)=false by rw[Ia];omega,Ba,zg];simp only[NU h0 hlt,Aa]
   ·simp only[Bh hs hq,Aa,Sz,Rs];have hb6:decide ((i:Int)<6)=decide (i<6):=by rw[decide_eq_decide];omega
    rw[hb6];cases decide (i<6)with
    |false=>rfl
    |true=>
     rw[Fa,Lb];cases hx2:qA (atS q 0)with
     |false=>rfl
     |true=>
      cases q with
      |nil=>exact absurd hx2 (by decide)
      |cons e t=>
       have hI:hexI (atS (e::t) 0)=(hexN (atS (e::t) 0):Int):=by unfold hexI;rw[Ka hx2]
       rw[hI,IK hn (Ew hx2),Vh hs hq,zz (by omega) (by omega)];rfl
theorem Ws:badS []=[]:=by rw[badS]
theorem Mt(c:UInt8)(r:Str):badS (c::r)=if c==41 then r else if escS (c::r)then badS (zo r).2 else badS r:=by rw[badS]
theorem aA(l:Str):badS l<:+l:=by
 match l with
 |[]=>rw[Ws];exact Gc _
 |c::r=>
  rw[Mt];have hr:=Td c r;split
  ·exact hr
  ·split
   ·have:=zF r;exact(aA (zo r).2).trans ((Zb r).trans hr)
   ·exact(aA r).trans hr
termination_by l.length
decreasing_by
 all_goals first|(have:=zF r;simp only[Ga];omega)|(simp only[Ga];omega)
theorem zBV{s t:Str}{c:UInt8}(hs:s.length<=big)(h:c::t<:+s):geti s (w64 ((beh s t:Int) - 1))=some c:=by
 have hb:big=4194304:=rfl;have h1:=h.length_le;rw[Ga]at h1;have hd:=Ep h;have e1:beh s t=beh s (c::t)+1:=by unfold beh;rw[Ga];omega
 have hlt:beh s (c::t)<s.length:=by unfold beh;rw[Ga];omega
 rw[zz (by omega) (by omega),show(beh s t:Int) - 1=((beh s (c::t):Nat):Int) by omega,QJ hlt];rw[Pb hlt]at hd;injection hd with hd _;rw[hd]
theorem badR{s q:Str}(hs:s.length<=big)(hq:q<:+s):ZZ (sr s q)=some (⟨8,[],0,[],false⟩,sr s (badS q)):=by
 unfold ZZ;refine OH ?_;refine ZG (fun z=> ∃(p:Str),z=(sr s p,(⟨0,[],0,[],false⟩:zb))/\p<:+s/\badS q=badS p) (fun z=>s.length - z.1.at_.toNat) _ ?_ ⟨q,rfl,hq,rfl⟩;rintro _ ⟨p,rfl,hp,he⟩;simp only[ze,Bh hs hp,Aa,Jo];cases p with
 |nil=>exact .inr (.inr ⟨_,rfl,by rw[he,Ws]⟩)
 |cons c t=>
  have hlen:=hp.length_le;rw[Ga]at hlen;have ht:=zU hp;have mono: ∀u:Str,u.length<=t.length->u<:+s->s.length - beh s u<s.length - beh s (c::t):=by intro u hu hus;unfold beh;rw[Ga];omega
  rw[show(c::t).isEmpty=false from rfl,Ba,BG hs hp];rw[Mt]at he;simp only[Aa];cases hesc:escS (c::t)with
  |true=>
   have h92:(c==41)=false:=by unfold escS at hesc;rw[Da,ma]at hesc;rw[show c=92 from hesc.1];decide
   rw[hesc,h92,Ja (by decide),Ka rfl]at he;rw[Fa,iY hs hp];exact .inl ⟨_,rfl,⟨_,rfl,(Zb t).trans ht,he⟩,mono _ (zF t) ((Zb t).trans ht)⟩
  |false=>
   rw[Ba,Vh hs hp,zBV hs hp];simp only[Aa];rw[show((c.toNat:Int)==41)=(c==41)from Qe c 41];rw[hesc,Ja (by decide: ¬(false=true))]at he;cases h41:c==41 with
   |true=> rw[h41,Ka rfl]at he;exact .inr (.inr ⟨_,by rw[Fa],by rw[he]⟩)
   |false=> rw[h41,Ja (by decide)]at he;exact .inl ⟨_,by rw[Ba],⟨t,rfl,ht,he⟩,mono t (Cb _) ht⟩
theorem Ml:urlS []=(some [],[]):=by rw[urlS]
theorem QD(c:UInt8)(r:Str):urlS (c::r)=if c==41 then(some [],r)
  else if spB c then(match past spB r with
   |[]=>(some [],[])
   |d::r'=>if d==41 then(some [],r')else(none,badS (d::r')))
  else if c==34||c==39||c==40||unB c||c==92&& !escS (c::r)then(none,badS (c::r))
  else if c==92 then((urlS (zo r).2).1.map ((zo r).1++ ·),(urlS (zo r).2).2)
  else((urlS r).1.map (c:: ·),(urlS r).2):=by rw[urlS];cases past spB r<;>rfl
theorem NF(l:Str):(urlS l).2<:+l:=by
 match l with
 |[]=>rw[Ml];exact Gc _
 |c::r=>
  rw[QD];have hr:=Td c r;split
  ·exact hr
  ·split
   ·have hp:=(mo spB r).trans hr;cases hq:past spB r with
    |nil=>exact Uf
    |cons d r'=>
     rw[hq]at hp;simp only;split
     ·exact(Td d r').trans hp
     ·exact(aA _).trans hp
   ·split
    ·exact aA _
    ·split
     ·have:=zF r;exact(NF (zo r).2).trans ((Zb r).trans hr)
     ·exact(NF r).trans hr
termination_by l.length
decreasing_by
 all_goals first|(have:=zF r;simp only[Ga];omega)|(simp only[Ga];omega)
def Xh:Option Str->zb
 |some t=>⟨7,t,0,[],false⟩
 |none=>⟨8,[],0,[],false⟩
theorem zBn(c:UInt8): ∃y,zq (!(bif bif bif bif (c.toNat:Int)==34 then true else(c.toNat:Int)==39 then true else(c.toNat:Int)==40 then true else decide ((c.toNat:Int)<=8)then true else(c.toNat:Int)==11)) (ZV ((c.toNat:Int),14,31)) (default:Bool)=some y/\
  (bif bif bif bif bif bif (c.toNat:Int)==34 then true else(c.toNat:Int)==39 then true else(c.toNat:Int)==40 then true else decide ((c.toNat:Int)<=8)then true else(c.toNat:Int)==11 then true else y then true else(c.toNat:Int)==127)=(c==34||c==39||c==40||unB c):=by
 have key: ∀n:Nat,n<256->((zq (!(bif bif bif bif (n:Int)==34 then true else(n:Int)==39 then true else(n:Int)==40 then true else decide ((n:Int)<=8)then true else(n:Int)==11)) (ZV ((n:Int),14,31)) (default:Bool)).elim false fun y=>
  (bif bif bif bif bif bif (n:Int)==34 then true else(n:Int)==39 then true else(n:Int)==40 then true else decide ((n:Int)<=8)then true else(n:Int)==11 then true else y then true else(n:Int)==127)==(UInt8.ofNat n==34||UInt8.ofNat n==39||UInt8.ofNat n==40||unB (UInt8.ofNat n)))=true:=by decide+kernel
 have h:=key c.toNat (Ib c);rw[Sb]at h;cases hc:zq (!(bif bif bif bif (c.toNat:Int)==34 then true else(c.toNat:Int)==39 then true else(c.toNat:Int)==40 then true else decide ((c.toNat:Int)<=8)then true else(c.toNat:Int)==11)) (ZV ((c.toNat:Int),14,31)) (default:Bool)with
 |none=>rw[hc]at h;cases h
 |some y=> rw[hc]at h;exact⟨y,rfl,ma.1 h⟩
theorem iJ(c:UInt8)(t:Str):(pk (c::t) 0== -1)=false:=by rw[Jo];rfl
theorem urlR{s q0:Str}(hs:s.length<=big)(hq0:q0<:+s):Qn (sr s q0)=some (Xh (urlS (past spB q0)).1,sr s (urlS (past spB q0)).2):=by
 have hb:big=4194304:=rfl;unfold Qn;rw[bz hs hq0];simp only[ze,Aa];have hq:=Yj spB hq0;generalize past spB q0=q at hq ⊢;refine OH ?_;refine ZG (fun z=> ∃(p acc:Str),z=(sr s p,(⟨0,[],0,[],false⟩:zb),acc)/\p<:+s/\acc.length+4*p.length<=4*s.length/\(urlS q).1=(urlS p).1.map (acc++ ·)/\(urlS q).2=(urlS p).2) (fun z=>s.length - z.1.at_.toNat) _ ?_
  ⟨q,[],rfl,hq,by have:=hq.length_le;rw[Jb];omega,by simp,rfl⟩
 rintro _ ⟨p,acc,rfl,hp,hl,he1,he2⟩;simp only[Bh hs hp,Aa,Tv];cases p with
 |nil=> refine .inr (.inr ⟨_,rfl,?_⟩);rw[Ml]at he1 he2;rw[he1,he2];simp only[jb,Ya,Xh]
 |cons c t=>
  have hlen:=hp.length_le;rw[Ga]at hlen hl;have ht:=zU hp;have mono: ∀u:Str,u.length<=t.length->u<:+s->s.length - beh s u<s.length - beh s (c::t):=by intro u hu hus;unfold beh;rw[Ga];omega
  rw[QD]at he1 he2;rw[show atS (c::t) 0=c from rfl];cases hsp:spB c with
  |true=>
   have h41:(c==41)=false:=by rw[Ia];rintro rfl;exact absurd hsp (by decide)
   rw[h41,hsp,Ja (by decide),Ka rfl]at he1 he2;have hps:past spB (c::t)=past spB t:=by rw[past,Ka hsp]
   have hpt:past spB t<:+s:=Yj spB ht;rw[Fa,bz hs hp,hps];simp only[Aa,Bh hs hpt];cases hpp:past spB t with
   |nil=> rw[hpp]at he1 he2;refine .inr (.inr ⟨_,rfl,?_⟩);simp only at he1 he2;rw[he1,he2];simp only[jb,Ya,Xh]
   |cons d r'=>
    rw[hpp]at he1 he2 hpt;simp only at he1 he2;unfold bne;rw[VJ,iJ,show atS (d::r') 0=d from rfl];cases hd:d==41 with
    |true=> rw[hd,Ka rfl]at he1 he2;refine .inr (.inr ⟨_,?_,rfl⟩);simp only[Nb,Ba,zg,iJ,VJ,show atS (d::r') 0=d from rfl,hd,Fa,Vh hs hpt];rw[he1,he2];simp only[jb,Ya,Xh]
    |false=> rw[hd,Ja (by decide)]at he1 he2;refine .inr (.inr ⟨_,?_,rfl⟩);simp only[Eb,Fa,badR hs hpt,Aa,zpz];rw[he1,he2];rfl
  |false=>
   rw[Ba,zg];simp only[iJ,VJ,show atS (c::t) 0=c from rfl,Ba,Vh hs hp];cases h41:c==41 with
   |true=> rw[h41,Ka rfl]at he1 he2;refine .inr (.inr ⟨_,by rw[Fa],?_⟩);rw[he1,he2];simp only[jb,Ya,Xh]
   |false=>
    rw[h41,Ja (by decide),hsp,Ja (by decide)]at he1 he2;rw[Ba];obtain⟨y,hy1,hy2⟩:=zBn c;rw[Yo,hy1];simp only[Aa];rw[hy2];cases hun:(c==34||c==39||c==40||unB c)with
    |true=> rw[hun,Pe,Ka rfl]at he1 he2;refine .inr (.inr ⟨_,?_,rfl⟩);rw[Fa,badR hs hp];simp only[Aa];rw[he1,he2];rfl
    |false=>
     rw[hun,jc]at he1 he2;rw[Ba];unfold bne;rw[show((c.toNat:Int)==92)=(c==92)from Qe c 92];cases h92:c==92 with
     |false=> rw[h92,Ic,Ja (by decide),Ja (by decide)]at he1 he2;rw[Eb,Fa,jw];simp only[Aa];rw[zk (vg (by omega))];exact .inl ⟨_,rfl,⟨t,acc++[c],rfl,ht,by rw[Ca,Ua];omega,by rw[he1,WB],he2⟩,mono t (Cb _) ht⟩
     |true=>
      rw[h92,Lb]at he1 he2;rw[Nb,Ba,BG hs hp];simp only[Aa];cases hesc:escS (c::t)with
      |true=> rw[hesc,Nb,Ja (by decide),Ka rfl]at he1 he2;have h4:=Rp t;have h5:=zF t;refine .inl ⟨(sr s (zo t).2,⟨0,[],0,[],false⟩,acc++(zo t).1),?_,⟨_,_,rfl,(Zb _).trans ht,by rw[Ca];omega,by rw[he1,Hw],he2⟩,mono _ h5 ((Zb _).trans ht)⟩;simp only[Fa,BH hs hp (show acc.length<=1000000000 by omega),Aa]
      |false=> rw[hesc,Eb,Ka rfl]at he1 he2;refine .inr (.inr ⟨_,?_,rfl⟩);rw[Ba,badR hs hp];simp only[Aa];rw[he1,he2];rfl
def hdB(b:UInt8):Bool:=b==45||fstB b||b==92
theorem Tq{q:Str}(h:nmS q=true):hdB (atS q 0)=true:=by
 unfold nmS at h;unfold hdB;cases h45:atS q 0==45 with
 |true=>rfl
 |false=>
  rw[h45,Ja (by decide),Tc]at h;rcases h with h|h
  ·rw[h];rfl
  ·unfold escS at h;rw[Da]at h;rw[h.1,jd]
theorem yu{b:UInt8}(h:hdB b=true):spB b=false/\(b==34)=false/\(b==39)=false/\(b==35)=false/\(b==64)=false/\(b==47)=false/\(b==60)=false/\(b==43)=false/\(b==46)=false/\digB b=false/\b≠0:=by
 have: ∀n:Nat,n<256->hdB (UInt8.ofNat n)=true->spB (UInt8.ofNat n)=false/\(UInt8.ofNat n==34)=false/\(UInt8.ofNat n==39)=false/\(UInt8.ofNat n==35)=false/\(UInt8.ofNat n==64)=false/\(UInt8.ofNat n==47)=false/\(UInt8.ofNat n==60)=false/\(UInt8.ofNat n==43)=false/\(UInt8.ofNat n==46)=false/\digB (UInt8.ofNat n)=false/\UInt8.ofNat n≠0:=by decide+kernel
 have:=this b.toNat (Ib b);rw[Sb]at this;exact this h
theorem aU{q:Str}(h:nmS q=true):nbS q=false:=by
 obtain⟨_,_,_,_,_,_,_,h43,h46,hdg,_⟩:=yu (Tq h);unfold nbS unsign Eg;rw[h43,jc];cases h45:atS q 0==45 with
 |false=> rw[Ja (by decide)];unfold undot;rw[h46,Ja (by decide),hdg]
 |true=>
  rw[Ka rfl];unfold nmS at h;rw[h45,Ka rfl]at h;have h1:hdB (atS q 1)=true:=by
   unfold hdB;cases hf:fstB (atS q 1)with
   |true=>simp
   |false=>
    cases h4:atS q 1==45 with
    |true=>rfl
    |false=> rw[hf,h4,jc,jc]at h;unfold escS at h;rw[Da,Qt]at h;rw[h.1];rfl
  obtain⟨_,_,_,_,_,_,_,_,g46,gdg,_⟩:=yu h1;unfold undot;rw[Qt,g46,Ja (by decide),Qt,gdg]
theorem sU{s r:Str}:(decide ((0:Int)<=(beh s r:Int))&&decide ((beh s r:Int)<=(s.length:Int)))=true:=by have:=Uh s r;rw[Ea (by omega),Ea (by omega)];rfl
theorem ME{s r:Str}(hr:r<:+s):List.drop ((beh s r:Int)).toNat s=r:=by rw[Ta,Ep hr]
theorem ou{a b:UInt8}{m t:Str}(h:(b==a)=false):(a::m).isPrefixOf (b::t)=false:=by
 rw[List.isPrefixOf];have:(a==b)=false:=by rw[Ia]at h ⊢;exact fun e=>h e.symm
 rw[this];rfl
theorem zA2{a:UInt8}{m q:Str}(h0:a≠0)(h:(atS q 0==a)=false):(a::m).isPrefixOf q=false:=by
 cases q with
 |nil=>rfl
 |cons b t=>exact ou h
def capF(cap:Nat):Nat->Str->Nat
 |n,[]=>n
 |n,c::r=>capF cap (min cap (decN n c)) r
theorem SH(cap:Nat): ∀(l:Str) (n:Nat) (c:UInt8),capF cap n (l++[c])=min cap (decN (capF cap n l) c)
 |[],_,_=>rfl
 |d::l,n,c=>by show capF cap (min cap (decN n d)) (l++[c])=_;rw[SH cap l];rfl
theorem Sk(cap:Nat): ∀(l:Str) (n:Nat),n<=cap->capF cap n l<=cap
 |[],_,h=>h
 |c::l,n,_=>Sk cap l _ (Nat.min_le_left ..)
theorem kM {R:Type} {step:Int×Int->Option (LO (Int×Int) Int R)} {l:Str} {cap:Nat} (hl:l.all digB=true) (hn:l.length<=100000) (hc:cap<=1000000000000)
  (h1: ∀(v:Int) (i:Nat) (hi:i<l.length),step (v,(i:Int))=some (.again (if(cap:Int)<w64 (w64 (10*v)+w64 (wu8 ((l[i].toNat:Int) - 48)))then(cap:Int)else w64 (w64 (10*v)+w64 (wu8 ((l[i].toNat:Int) - 48))),w64 ((i:Int)+1))))
  (h2: ∀v:Int,step (v,(l.length:Int))=some (.out v)):Gg step (0,0)=some (.out ((capF cap 0 l:Nat):Int)):=by
 refine ZG (fun s=> ∃i:Nat,i<=l.length/\s=(((capF cap 0 (l.take i):Nat):Int),(i:Int))) (fun s=>l.length - s.2.toNat) _ ?_ ⟨0,by omega,rfl⟩;rintro _ ⟨i,hi,rfl⟩;rcases Mc i l.length with h|h
 ·refine .inl ⟨_,h1 _ i h,⟨i+1,by omega,?_⟩,by simp only;rw[zz (by omega) (by omega)];omega⟩;have hd:=Vp (Xa.1 hl _ (Cf h));have ht:capF cap 0 (l.take (i+1))=min cap (decN (capF cap 0 (l.take i)) l[i]):=by rw[He h,SH]
  have hb:=Sk cap (l.take i) 0 (Ac _);have hu:wu8 ((l[i].toNat:Int) - 48)=((l[i].toNat - 48:Nat):Int):=by show IntKind.u8.wrap _=_;rw[IntKind.wrap_u8];omega
  unfold decN at ht;rw[hu,zz (n:=10*_) (by omega) (by omega),zz (n:=((l[i].toNat - 48:Nat):Int)) (by omega) (by omega),zz (n:=(i:Int)+1) (by omega) (by omega),zz (by omega) (by omega)];refine Prod.ext ?_ ?_
  ·show(if(cap:Int)<10*((capF cap 0 (l.take i):Nat):Int)+((l[i].toNat - 48:Nat):Int)then(cap:Int)else 10*((capF cap 0 (l.take i):Nat):Int)+((l[i].toNat - 48:Nat):Int))=_;split<;>omega
  ·show(i:Int)+1=((i+1:Nat):Int);omega
 ·have:i=l.length:=by omega
  subst this;refine .inr (.inl ⟨_,h2 _,?_⟩);rw[Re]
theorem fG: ∀(k n:Nat),n<=Fg->pg k n<=Fg
 |0,_,h=>h
 |k+1,n,h=>by
  unfold pg;split
  ·exact h
  ·exact fG k _ (Nat.min_le_left ..)
theorem OQ {R:Type} {step:Int×Int->Option (LO (Int×Int) Int R)} {v:Nat} {p:Int} (hp:p<=4000000) (hp': -4000000<=p) (hv:v<=1000000000000)
  (h: ∀(a b:Int),step (a,b)=bif bif bif decide (a>0)then decide (b>0)else false then decide (b<1000000000000)else false then some (.again (w64 (a - 1),if 1000000000000<w64 (10*b)then 1000000000000 else w64 (10*b)))else some (.out b)):
  Gg step (p,(v:Int))=some (.out ((pg p.toNat v:Nat):Int)):=by
 have hm:Fg=1000000000000:=rfl;refine ZG (fun s=> ∃(a:Int) (b:Nat),s=(a,(b:Int))/\a<=4000000/\ -4000000<=a/\b<=1000000000000/\pg a.toNat b=pg p.toNat v) (fun s=>s.1.toNat) _ ?_ ⟨p,v,rfl,hp,hp',hv,rfl⟩;rintro _ ⟨a,b,rfl,ha,ha',hb,he⟩;rw[h];by_cases h1:a>0
 ·obtain⟨k,hk⟩: ∃k,a.toNat=k+1:=⟨a.toNat - 1,by omega⟩;rw[hk,pg]at he;rw[Ea h1,Fa];by_cases h2:b=0\/Fg<=b
  ·rw[Ka h2]at he;have:(bif bif decide (((b:Nat):Int)>0)then decide (((b:Nat):Int)<1000000000000)else false then(some (.again (w64 (a - 1),if 1000000000000<w64 (10*(b:Int))then 1000000000000 else w64 (10*(b:Int)))):Option (LO (Int×Int) Int R))else some (.out (b:Int)))=some (.out (b:Int)):=by
    rcases h2 with h2|h2
    ·subst h2;rfl
    ·have e:decide (((b:Nat):Int)<1000000000000)=false:=Ra (by omega);rw[e];cases decide (((b:Nat):Int)>0)<;>rfl
   exact .inr (.inl ⟨_,this,by rw[he]⟩)
  ·rw[Ja h2]at he;have e1:decide (((b:Nat):Int)>0)=true:=Ea (by omega);have e2:decide (((b:Nat):Int)<1000000000000)=true:=Ea (by omega);rw[e1,Fa,e2,Fa];refine .inl ⟨_,rfl,⟨a - 1,min Fg (10*b),?_,by omega,by omega,by omega,?_⟩,by simp only;rw[zz (by omega) (by omega)];omega⟩
   ·rw[zz (by omega) (by omega),zz (by omega) (by omega)];refine Prod.ext rfl ?_;show(if(1000000000000:Int)<10*(b:Int)then(1000000000000:Int)else 10*(b:Int))=((min Fg (10*b):Nat):Int);split<;>omega
   ·rw[show(a - 1).toNat=k by omega];exact he
 ·rw[Ra h1,Ba];refine .inr (.inl ⟨_,rfl,?_⟩);rw[<-he,show a.toNat=0 by omega];rfl
structure NumP where
 sg:Str
 D:Str
 F:Option Str
 X:Option (UInt8×Str×Str)
def dotS:Option Str->Str
 |none=>[]
 |some f=>46::f
def expT:Option (UInt8×Str×Str)->Str
 |none=>[]
 |some (e,s,x)=>e::(s++x)
def NumP.txt(n:NumP):Str:=n.sg++(n.D++(dotS n.F++expT n.X))
def sgB(s:Str):Bool:=s==[]||s==[43]||s==[45]
def NumP.ok(n:NumP):Bool:=sgB n.sg&&n.D.all digB&&(match n.F with|none=> !n.D.isEmpty|some f=> !f.isEmpty&&f.all digB)&&
 (match n.X with|none=>true|some (e,s,x)=>(e==101||e==69)&&sgB s&& !x.isEmpty&&x.all digB)
def expV:Option (UInt8×Str×Str)->Int
 |none=>0
 |some (_,s,x)=>if s==[45]then -((capF 1048576 0 x:Nat):Int)else((capF 1048576 0 x:Nat):Int)
def thoV(A:Str)(p:Int):Nat:=pg p.toNat (capF Fg 0 (if p<0 then A.take ((A.length:Int)+p).toNat else A))
def NumP.val(n:NumP):Int:=
 let v:=thoV (n.D++n.F.getD []) (3+expV n.X - ((n.F.getD []).length:Int))
 if n.sg==[45]then -(v:Int)else(v:Int)
theorem Et{s:Str}(h:sgB s=true):s=[]\/s=[43]\/s=[45]:=by
 unfold sgB at h;simp only[Tc,ma]at h;rcases h with(h|h)|h
 ·exact .inl h
 ·exact .inr (.inl h)
 ·exact .inr (.inr h)
theorem CL{s q:Str}(h:sgB s=true)(hq: ∀c r,q=c::r->List.contains [43,45] c=false):Lib.trimLeftS (s++q) [43,45]=q:=by
 have h0:Lib.trimLeftS q [43,45]=q:=by
  unfold Lib.trimLeftS;cases q with
  |nil=>rfl
  |cons c r=>rw[Lf,hq c r rfl];rfl
 rcases Et h with rfl|rfl|rfl
 ·exact h0
 ·show List.dropWhile _ (43::q)=_;rw[Lf];exact h0
 ·show List.dropWhile _ (45::q)=_;rw[Lf];exact h0
theorem nL{e:UInt8}(he:e=101\/e=69)(t:Str): ∀(l:Str),(l.all fun b=>digB b||b==46)=true->Lib.indexAny (l++e::t) [101,69]=(l.length:Int)
 |[],_=>by
  rw[Kc,Lib.indexAny];rcases he with rfl|rfl<;>rfl
 |c::l,h=>by
  rw[ic,Da]at h;have hc:List.contains [101,69] c=false:=by
   have: ∀n:Nat,n<256->(digB (UInt8.ofNat n)||UInt8.ofNat n==46)=true->List.contains [101,69] (UInt8.ofNat n)=false:=by decide+kernel
   have:=this c.toNat (Ib c);rw[Sb]at this;exact this h.1
  rw[ja,Lib.indexAny,hc,nL he t l h.2];have:((l.length:Int)== -1)=false:=Ia.2 (by omega);rw[this,Ga];simp
theorem nJ{l:Str}(h:l.all digB=true):(l.all fun b=>digB b||b==46)=true:=by rw[Xa]at h ⊢;intro b hb;rw[h b hb];rfl
theorem lw{l:Str}(h: ∀b∈l,b.toNat<128):Ih l=true:=by unfold Ih;rw[Xa];exact fun b hb=>Ea (h b hb)
theorem rW{l:Str}(h:Ih l=true): ∀b∈l,b.toNat<128:=by unfold Ih at h;rw[Xa]at h;exact fun b hb=>Bc (h b hb)
theorem UV{D:Str}(hD:D.all digB=true)(F:Option Str): ∃f,Lib.cut (D++dotS F) [46]=(D,F.getD [],f):=by
 unfold Lib.cut;rw[YC];cases F with
 |none=> rw[show dotS none=[]from rfl,Ya,jE _ hD,Ja (by decide)];exact⟨false,rfl⟩
 |some g=>
  rw[show dotS (some g)=46::g from rfl,kE _ _ hD,Ka (by omega)];refine⟨true,?_⟩;rw[Ta,df,Ua,show D.length+1=(D++[46]).length by simp];have:D++46::g=(D++[46])++g:=by simp
  rw[this,Jg];rfl
theorem SN {D:Str} {F:Option Str} {E:Int} (hD:D.all digB=true) (hF:(F.getD []).all digB=true) (hl:D.length+(F.getD []).length<=50000) (hE:E<=2000000) (hE': -2000000<=E) (y1:UInt8) (sg:Str)
  (hy:((y1.toNat:Int)==45)=(sg==[45])) (hsh:short (D++dotS F)=true):
  (ze (cutF (D++dotS F,[46])) fun y11=>
 need (Zw y11.1.length y11.2.1.length)<|
 zV (X:=Str×Int) (
   bif decide (w64 ((3+E) - (y11.2.1.length:Int))<0)then
    need (decide (0<=(if w64 (((y11.1++y11.2.1).length:Int)+w64 ((3+E) - (y11.2.1.length:Int)))>0 then w64 (((y11.1++y11.2.1).length:Int)+w64 ((3+E) - (y11.2.1.length:Int)))else 0))&&decide ((if w64 (((y11.1++y11.2.1).length:Int)+w64 ((3+E) - (y11.2.1.length:Int)))>0 then w64 (((y11.1++y11.2.1).length:Int)+w64 ((3+E) - (y11.2.1.length:Int)))else 0)<=((y11.1++y11.2.1).length:Int)))<|
    some (LX.out (List.take (if w64 (((y11.1++y11.2.1).length:Int)+w64 ((3+E) - (y11.2.1.length:Int)))>0 then w64 (((y11.1++y11.2.1).length:Int)+w64 ((3+E) - (y11.2.1.length:Int)))else 0).toNat (y11.1++y11.2.1),w64 ((3+E) - (y11.2.1.length:Int))))
   else
    some (LX.out (y11.1++y11.2.1,w64 ((3+E) - (y11.2.1.length:Int))))) fun j12=>
 need (decide (j12.1.length<=maxLen))<|
 Zp (fun(s13:Int×Int)=>
   bif decide (s13.2<(j12.1.length:Int))then
    need (decide (0<=s13.2)&&decide (s13.2<(j12.1.length:Int)))<|
    ze j12.1[s13.2.toNat]? fun y14=>
    some (LO.again (if 1000000000000<w64 (w64 (10*s13.1)+w64 (wu8 ((y14.toNat:Int) - 48)))then 1000000000000 else w64 (w64 (10*s13.1)+w64 (wu8 ((y14.toNat:Int) - 48))),w64 (s13.2+1)))
   else
    some (LO.out s13.1):Int×Int->Option (LO (Int×Int) (Int) _)) (0,0) fun o15=>
 Zp (fun(s16:Int×Int)=>
   bif bif bif decide (s16.1>0)then decide (s16.2>0)else false then decide (s16.2<1000000000000)else false then
    some (LO.again (w64 (s16.1 - 1),if 1000000000000<w64 (10*s16.2)then 1000000000000 else w64 (10*s16.2)))
   else
    some (LO.out s16.2):Int×Int->Option (LO (Int×Int) (Int) _)) (j12.2,o15) fun o17=>
 zV (X:=Int) (
   bif (y1.toNat:Int)==45 then
    some (LX.out (w64 (0 - o17)))
   else
    some (LX.out o17)) fun j18=>
 some j18)=some (if sg==[45]then -((thoV (D++F.getD []) (3+E - ((F.getD []).length:Int)):Nat):Int)else((thoV (D++F.getD []) (3+E - ((F.getD []).length:Int)):Nat):Int)):=by
 obtain⟨f,hcut⟩:=UV hD F;have t3:cutF (D++dotS F,[46])=some (D,F.getD [],f):=by unfold cutF;rw[zk (by exact hsh)];exact congrArg some hcut
 have hml:maxLen=9223372036854775807:=rfl;have hmost:Fg=1000000000000:=rfl;simp only[ze,t3,Aa];generalize F.getD []=G at*;rw[zk (zZ.2 (by omega))];obtain⟨p,hp⟩: ∃p:Int,p=3+E - (G.length:Int):=⟨_,rfl⟩;rw[<-hp,zz (n:=p) (by omega) (by omega)];have hA:(D++G).all digB=true:=by rw[Gf,hD,hF];rfl
 have hAl:(D++G).length<=50000:=by rw[Ca];omega
 generalize D++G=A at*;have key: ∀B:Str,B.all digB=true->B.length<=50000->(need (decide (B.length<=maxLen))<|
 Zp (fun(s13:Int×Int)=>
   bif decide (s13.2<(B.length:Int))then
    need (decide (0<=s13.2)&&decide (s13.2<(B.length:Int)))<|
    (B[s13.2.toNat]?).bind fun y14=>
    some (LO.again (if 1000000000000<w64 (w64 (10*s13.1)+w64 (wu8 ((y14.toNat:Int) - 48)))then 1000000000000 else w64 (w64 (10*s13.1)+w64 (wu8 ((y14.toNat:Int) - 48))),w64 (s13.2+1)))
   else
    some (LO.out s13.1):Int×Int->Option (LO (Int×Int) (Int) _)) (0,0) fun o15=>
 Zp (fun(s16:Int×Int)=>
   bif bif bif decide (s16.1>0)then decide (s16.2>0)else false then decide (s16.2<1000000000000)else false then
    some (LO.again (w64 (s16.1 - 1),if 1000000000000<w64 (10*s16.2)then 1000000000000 else w64 (10*s16.2)))
   else
    some (LO.out s16.2):Int×Int->Option (LO (Int×Int) (Int) _)) (p,o15) fun o17=>
 zV (X:=Int) (
   bif (y1.toNat:Int)==45 then
    some (LX.out (w64 (0 - o17)))
   else
    some (LX.out o17)) fun j18=>
 some j18)=some (if sg==[45]then -((pg p.toNat (capF Fg 0 B):Nat):Int)else((pg p.toNat (capF Fg 0 B):Nat):Int)):=by
  intro B hB hBl;have hcap:=Sk Fg B 0 (Ac _);rw[zk (Ea (by omega))];rw[zW (kM (cap:=Fg) hB (by omega) (by omega) (fun v i hi=> ?_) (fun v=> ?_))]
  ·have htm:=fG p.toNat _ hcap;rw[zW (OQ (by omega) (by omega) (by omega) (fun a b=> ?_)),hy]
   ·cases hs:sg==[45]with
    |true=> rw[Fa,zg,zz (by omega) (by omega),Ka rfl];congr 1;omega
    |false=>rw[Ba,zg,Ja (by decide)]
   ·simp only
  ·have e1:decide ((i:Int)<(B.length:Int))=true:=Ea (by omega);have e0:decide ((0:Int)<=(i:Int))=true:=Ea (by omega);simp only[e1,e0,Fa,Cc,Zf,Ta,Na hi,Aa];rfl
  ·simp only;rw[Ra (by omega),Ba]
 unfold thoV;by_cases hn:p<0
 ·rw[Ea hn,Fa,Ka hn];have hk:(if w64 ((A.length:Int)+p)>0 then w64 ((A.length:Int)+p)else 0)=((((A.length:Int)+p).toNat:Nat):Int):=by rw[zz (by omega) (by omega)];split<;>omega
  rw[hk,zk (by rw[Ea (by omega),Ea (by omega)];rfl),zg,Ta];refine key _ ?_ (by rw[Yc];omega);rw[Xa]at hA ⊢;exact fun b hb=>hA b (Te hb)
 ·rw[Ra hn,Ba,Ja hn,zg];exact key _ hA hAl
theorem dS{n:NumP}(h:n.ok=true)(hl:n.txt.length<=40000):Z0 n.txt=some n.val:=by
 obtain⟨sg,D,F,X⟩:=n;unfold NumP.ok at h;simp only[Da]at h;obtain⟨⟨⟨hsg,hD⟩,hFo⟩,hX⟩:=h;have hF:(F.getD []).all digB=true:=by
  cases F with
  |none=>rfl
  |some f=>simp only[Da]at hFo;exact hFo.2
 have hne:D++dotS F≠[]:=by
  cases F with
  |none=>cases D with
   |nil=>exact absurd hFo (by decide)
   |cons c r=>simp
  |some f=>simp[dotS]
 have hpar:((D++dotS F).all fun b=>digB b||b==46)=true:=by
  rw[Gf,nJ hD];cases F with
  |none=>rfl
  |some f=>rw[show dotS (some f)=46::f from rfl,ic,nJ (show f.all digB=true from hF)];rfl
 have hlen:sg.length+(D.length+((dotS F).length+(expT X).length))<=40000:=by
  have:(NumP.txt ⟨sg,D,F,X⟩).length=sg.length+(D.length+((dotS F).length+(expT X).length)):=by unfold NumP.txt;simp only[Ca]
  omega
 have hFl:(F.getD []).length<=(dotS F).length:=by
  cases F with
  |none=>exact Cb _
  |some f=>show f.length<=(46::f).length;rw[Ga];omega
 have hhead: ∀c r,D++(dotS F++expT X)=c::r->List.contains [43,45] c=false:=by
  rw[<-Ma];intro c r e;cases hq:D++dotS F with
  |nil=>exact absurd hq hne
  |cons d q=>
   rw[hq,ja]at e;injection e with e1 _;subst e1;rw[hq,ic,Da,Tc]at hpar;rcases hpar.1 with hd|hd
   ·exact(Qf hd).2.2.2.2
   ·rw[ma.1 hd];decide
 have hy1: ∃b,geti (NumP.txt ⟨sg,D,F,X⟩) 0=some b/\(((b.toNat:Int)==45)=(sg==[45])):=by
  unfold NumP.txt;show∃b,geti (sg++(D++(dotS F++expT X))) 0=some b/\_;rcases Et hsg with rfl|rfl|rfl
  ·cases hq:D++(dotS F++expT X)with
   |nil=>rw[<-Ma]at hq;exact absurd (Tf.1 hq).1 hne
   |cons c r=> refine⟨c,rfl,?_⟩;have:=hhead c r hq;refine Ia.2 (fun e=> ?_);have:c=45:=Bf.1 (by show c.toNat=45;omega);subst this;revert this;simp_all
  ·exact⟨43,rfl,rfl⟩
  ·exact⟨45,rfl,rfl⟩
 obtain⟨y1,hg,hyy⟩:=hy1;have t1:Oj (NumP.txt ⟨sg,D,F,X⟩,[43,45])=some (D++(dotS F++expT X)):=by unfold Oj;rw[zk (show(short ([43,45]:Str)&&Ih [43,45])=true by decide)];exact congrArg some (CL hsg hhead)
 unfold Z0;simp only[ze,hg,t1,Aa];have hsh:short (D++dotS F)=true:=Ea (by rw[Ca];omega);have hasc:Ih (D++dotS F)=true:=wL hpar;cases X with
 |none=>
  have t2:QS (D++(dotS F++expT none),[101,69])=some (-1):=by show QS (D++(dotS F++[]),[101,69])=_;rw[Ya];unfold QS;rw[zk (by simp only[hsh,hasc,Cc,Lb];decide)];exact congrArg some (VF _ hpar)
  simp only[t2,Aa,show decide ((-1:Int)>=0)=false from rfl,Ba,zg];rw[show D++(dotS F++expT none)=D++dotS F by show D++(dotS F++[])=_;rw[Ya]];have:=SN (E:=0) hD hF (by omega) (by omega) (by omega) y1 sg hyy hsh;exact this
 |some ex=>
  obtain⟨e,s,x⟩:=ex;simp only[Da]at hX;obtain⟨⟨⟨he,hs⟩,hxne⟩,hx⟩:=hX;have he':e=101\/e=69:=by rw[Tc,ma,ma]at he;exact he
  have hexl:(expT (some (e,s,x))).length=1+(s.length+x.length):=by show(e::(s++x)).length=_;rw[Ga,Ca];omega
  have hass:D++(dotS F++expT (some (e,s,x)))=(D++dotS F)++e::(s++x):=by rw[<-Ma];rfl
  have hasx:Ih ((D++dotS F)++e::(s++x))=true:=by
   refine lw (fun b hb=> ?_);rcases Ad.1 hb with hb|hb
   ·exact rW hasc b hb
   ·rcases Yb.1 hb with hb|hb
    ·subst hb;rcases he' with rfl|rfl<;>decide
    ·rcases Ad.1 hb with hb|hb
     ·rcases Et hs with rfl|rfl|rfl
      ·cases hb
      ·rw[Hd]at hb;subst hb;decide
      ·rw[Hd]at hb;subst hb;decide
     ·have:=Vp (Xa.1 hx b hb);omega
  have hlt:((D++dotS F)++e::(s++x)).length<=40000:=by rw[Ca,Ga,Ca,Ca];omega
  have t2:QS (D++(dotS F++expT (some (e,s,x))),[101,69])=some ((D++dotS F).length:Int):=by rw[hass];unfold QS;show need (short ((D++dotS F)++e::(s++x))&&short [101,69]&&Ih ((D++dotS F)++e::(s++x))&&Ih [101,69]) _=_;rw[show short ((D++dotS F)++e::(s++x))=true from Ea (by omega),hasx];exact congrArg some (nL he' (s++x) _ hpar)
  have hdrop:List.drop (D++dotS F).length ((D++dotS F)++e::(s++x))=e::(s++x):=Jg;have hdrop1:List.drop ((D++dotS F).length+1) ((D++dotS F)++e::(s++x))=s++x:=by rw[<-We,hdrop];rfl
  have hd0:(D++dotS F).length<=40000:=by rw[Ca];omega
  have hw1:w64 (((D++dotS F).length:Int)+1)=(((D++dotS F).length+1:Nat):Int):=by rw[zz (by omega) (by omega)];omega
  simp only[t2,Aa];rw[Ea (show(((D++dotS F).length:Nat):Int)>=0 by omega),Fa,hw1,hass];have hlt2:(D++dotS F).length+1<=((D++dotS F)++e::(s++x)).length:=by rw[Ca (bs:=e::(s++x)),Ga];omega
  rw[zk (by rw[Ea (by omega),Ea (by omega)];rfl),Ta,hdrop1];have hxh: ∀c r,x=c::r->List.contains [43,45] c=false:=by intro c r e;subst e;rw[ic,Da]at hx;exact(Qf hx.1).2.2.2.2
  have t4:Oj (s++x,[43,45])=some x:=by unfold Oj;rw[zk (show(short ([43,45]:Str)&&Ih [43,45])=true by decide)];exact congrArg some (CL hs hxh)
  have hxl:x.length<=40000:=by omega
  have hml:maxLen=9223372036854775807:=rfl;simp only[t4,Aa];rw[zk (Ea (by omega))];have hcap:=Sk 1048576 x 0 (Ac _);rw[zW (kM (cap:=1048576) hx (by omega) (by omega) (fun v i hi=> ?_) (fun v=> ?_))]
  ·have hg8: ∃y8,geti ((D++dotS F)++e::(s++x)) (((D++dotS F).length+1:Nat):Int)=some y8/\(((y8.toNat:Int)==45)=(s==[45])):=by
    have hgg: ∀(b:UInt8) (r:Str),s++x=b::r->geti ((D++dotS F)++e::(s++x)) (((D++dotS F).length+1:Nat):Int)=some b:=by
     intro b r e1;unfold geti;have:((D++dotS F)++e::(s++x))[(D++dotS F).length+1]? =some b:=by rw[Rc (by omega),show(D++dotS F).length+1 - (D++dotS F).length=1 by omega,Af,e1];rfl
     rw[Ta,this,Ea (by omega)];rfl
    rcases Et hs with rfl|rfl|rfl
    ·cases hxx:x with
     |nil=>rw[hxx]at hxne;exact absurd hxne (by decide)
     |cons c r=> refine⟨c,by rw[<-hxx];exact hgg c r hxx,?_⟩;have:=hxh c r hxx;refine Ia.2 (fun e=> ?_);have h45:c=45:=Bf.1 (by show c.toNat=45;omega);subst h45;exact absurd this (by decide)
    ·exact⟨43,hgg 43 x rfl,rfl⟩
    ·exact⟨45,hgg 45 x rfl,rfl⟩
   obtain⟨y8,h8,h8'⟩:=hg8;simp only[h8,Aa];rw[h8'];have hj:(bif s==[45]then(some (LX.out ((D++dotS F)++e::(s++x),3,w64 (0 - ((capF 1048576 0 x:Nat):Int)))):Option (LX (Str×Int×Int) (LX (Str×Int) Int)))else some (LX.out ((D++dotS F)++e::(s++x),3,((capF 1048576 0 x:Nat):Int))))
     =some (LX.out ((D++dotS F)++e::(s++x),3,expV (some (e,s,x)))):=by
    unfold expV;simp only;cases s==[45]with
    |true=>rw[Fa,Ka rfl,zz (by omega) (by omega)];simp
    |false=>rw[Ba,Ja (by decide)]
   have hEb:expV (some (e,s,x))<=1048576/\ -1048576<=expV (some (e,s,x)):=by unfold expV;simp only;split<;>omega
   refine(congrArg (fun o=>zV (zV o _) _) hj).trans ?_;simp only[zg];rw[show decide ((((D++dotS F).length:Nat):Int)<=((((D++dotS F)++e::(s++x)).length:Nat):Int))=true from Ea (by omega),zk (by rfl)];simp only[zg,Ta,df];rw[zz (by omega) (by omega)];exact SN (E:=expV (some (e,s,x))) hD hF (by omega) (by omega) (by omega) y1 sg hyy hsh
  ·have e1:decide ((i:Int)<(x.length:Int))=true:=Ea (by omega);have e0:decide ((0:Int)<=(i:Int))=true:=Ea (by omega);simp only[e1,e0,Fa,Cc,Zf,Ta,Na hi,Aa];rfl
  ·simp only;rw[Ra (by omega),Ba]
theorem ak {S X R:Type} {step:S->Option (LO S X R)} {k:X->Option R} (Inv:S->Prop) (μ:S->Nat) (y:R)
  (h: ∀s,Inv s->(∃s',step s=some (.again s')/\Inv s'/\μ s'<μ s)\/(∃x,step s=some (.out x)/\k x=some y)\/step s=some (.ret y)) {s:S} (hs:Inv s):Zp step s k=some y:=by
 have key: ∀(m:Nat) (s:S),μ s<m->Inv s-> ∃r:LX X R,Qz step m s=some r/\r.go k=some y:=by
  intro m
  induction m with
  |zero=>intro s h;omega
  |succ m ih=>
   intro s hm hs;simp only[Qz];rcases h s hs with⟨s',h1,h2,h3⟩|⟨x,h1,h2⟩|h1
   ·rw[h1];exact ih s' (by omega) h2
   ·rw[h1];exact⟨_,rfl,h2⟩
   ·rw[h1];exact⟨_,rfl,rfl⟩
 obtain⟨r,h1,h2⟩:=key (μ s+1) s (by omega) hs;rw[wo (Ol h1)];exact h2
theorem yN(p:UInt8->Bool): ∀l:Str,past p l=l.dropWhile p
 |[]=>rfl
 |c::r=>by
  rw[past,Lf];cases h:p c with
  |true=>exact yN p r
  |false=>rfl
theorem Ht(p:UInt8->Bool)(l:Str):l.takeWhile p++past p l=l:=by rw[yN,List.takeWhile_append_dropWhile]
theorem Wv(p:UInt8->Bool): ∀l:Str,(l.takeWhile p).all p=true
 |[]=>rfl
 |c::r=>by
  rw[Ag];cases h:p c with
  |true=>show(c::List.takeWhile p r).all p=true;rw[ic,h,Wv p r];rfl
  |false=>rfl
def sgOf(l:Str):Str:=if Eg (atS l 0)then [atS l 0]else []
theorem gJ(l:Str):sgOf l++unsign l=l:=by
 unfold sgOf unsign;cases h:Eg (atS l 0)with
 |false=>rfl
 |true=>
  rw[Ka rfl,Ka rfl];cases l with
  |nil=>exact absurd h (by decide)
  |cons c r=>rfl
theorem gU(l:Str):sgB (sgOf l)=true:=by
 unfold sgOf;cases h:Eg (atS l 0)with
 |false=>rfl
 |true=> rw[Ka rfl];unfold Eg at h;rw[Tc,ma,ma]at h;rcases h with h|h<;>rw[h]<;>rfl
def dotP(q:Str):Option Str:=if atS q 0==46&&digB (atS q 1)then some ((q.drop 1).takeWhile digB)else none
def expP(q:Str):Option (UInt8×Str×Str):=
 if(atS q 0==101||atS q 0==69)&&digB (atS (unsign (q.drop 1)) 0)then some (atS q 0,sgOf (q.drop 1),(unsign (q.drop 1)).takeWhile digB)else none
def numP(l:Str):NumP:=⟨sgOf l,(unsign l).takeWhile digB,dotP (past digB (unsign l)),expP (zM (past digB (unsign l))).1⟩
theorem jY(q:Str):dotS (dotP q)++(zM q).1=q/\(zM q).2=(dotP q).isNone:=by
 unfold dotP zM;cases h:atS q 0==46&&digB (atS q 1)with
 |false=>exact⟨rfl,rfl⟩
 |true=>
  rw[Ka rfl,Ka rfl];cases q with
  |nil=>exact absurd h (by decide)
  |cons c r=> rw[Da,ma]at h;refine⟨?_,rfl⟩;show(46::List.takeWhile digB r)++past digB r=c::r;rw[ja,Ht,show c=46 from h.1]
theorem KX(q:Str):expT (expP q)++(match expS q with|some r=>r|none=>q)=q:=by
 unfold expP expS;cases h1:atS q 0==101||atS q 0==69 with
 |false=>rfl
 |true=>
  cases h2:digB (atS (unsign (q.drop 1)) 0)with
  |false=>rfl
  |true=>
   simp only[Bool.and_self,Gd];cases q with
   |nil=>exact absurd h1 (by decide)
   |cons c r=> show(c::(sgOf r++List.takeWhile digB (unsign r)))++past digB (unsign r)=c::r;rw[ja,Ma,Ht,gJ]
theorem yB(l:Str):(numP l).txt++(zu l).1=l:=by
 have h1:=(jY (past digB (unsign l))).1;have h2:=KX (zM (past digB (unsign l))).1;have h3:(zu l).1=(match expS (zM (past digB (unsign l))).1 with|some r=>r|none=>(zM (past digB (unsign l))).1):=by unfold zu;simp only;cases expS (zM (past digB (unsign l))).1<;>rfl
 rw[h3];show(sgOf l++(List.takeWhile digB (unsign l)++(dotS (dotP (past digB (unsign l)))++expT (expP (zM (past digB (unsign l))).1))))++_=l;rw[Ma,Ma,Ma,h2,h1,Ht,gJ]
theorem vD{p:UInt8->Bool}{q:Str}(h:p (atS q 0)=true)(h0:p 0=false):(q.takeWhile p).isEmpty=false:=by
 cases q with
 |nil=>rw[show atS [] 0=0 from rfl,h0]at h;cases h
 |cons c r=>rw[Ag,Ka (show p c=true from h)];rfl
theorem wz{l:Str}(h:nbS l=true):(numP l).ok=true:=by
 unfold NumP.ok numP;simp only[gU,Wv,Lb,Da];refine⟨?_,?_⟩
 ·unfold dotP;cases hd:atS (past digB (unsign l)) 0==46&&digB (atS (past digB (unsign l)) 1)with
  |true=> rw[Ka rfl];simp only[Wv,Cc];rw[Da]at hd;rw[vD (p:=digB) (by rw[Qt];exact hd.2) (by decide)];rfl
  |false=>
   rw[Ja (by decide)];simp only;cases hq:digB (atS (unsign l) 0)with
   |true=>rw[vD hq (by decide)];rfl
   |false=>
    exfalso;have hp:past digB (unsign l)=unsign l:=by
     cases hu:unsign l with
     |nil=>rfl
     |cons c r=>rw[hu]at hq;rw[past,Ja (by rw[show digB c=false from hq];decide)]
    rw[hp]at hd;unfold nbS undot at h;cases h46:atS (unsign l) 0==46 with
    |false=>rw[h46,Ja (by decide),hq]at h;cases h
    |true=> rw[h46,Ka rfl,Qt]at h;rw[h46,Lb]at hd;rw[show atS (unsign l) (1+0)=atS (unsign l) 1 from rfl,hd]at h;cases h
 ·unfold expP;cases hd:(atS (zM (past digB (unsign l))).1 0==101||atS (zM (past digB (unsign l))).1 0==69)&&digB (atS (unsign ((zM (past digB (unsign l))).1.drop 1)) 0)with
  |false=>rfl
  |true=> rw[Ka rfl];rw[Da]at hd;simp only[hd.1,gU,Wv,Cc,Lb];rw[vD hd.2 (by decide)];rfl
theorem zCK{n:NumP}(h:n.ok=true):n.txt≠[]:=by
 obtain⟨sg,D,F,X⟩:=n;unfold NumP.ok at h;simp only[Da]at h;intro e;unfold NumP.txt at e;simp only[Tf]at e;obtain⟨e1,e2,e3,e4⟩:=e;subst e2;cases F with
 |none=>exact absurd h.1.2 (by decide)
 |some f=>cases e3
theorem K5{c:UInt8}{r:Str}(h:nbS (c::r)=true):(zu (c::r)).1<:+r:=by
 have h1:=yB (c::r);have h2:=zCK (wz h);cases ht:(numP (c::r)).txt with
 |nil=>exact absurd ht h2
 |cons d t=> rw[ht,ja]at h1;injection h1 with _ h3;exact⟨t,h3⟩
def zy(l:Str):zb×Str:=
 if nmS (zu l).1 then(⟨12,[],(numP l).val,(zm (zu l).1).1,(zu l).2⟩,(zm (zu l).1).2)
 else if atS (zu l).1 0==37 then(⟨11,[],(numP l).val,[],false⟩,(zu l).1.drop 1)
 else(⟨10,[],(numP l).val,[],(zu l).2⟩,(zu l).1)
theorem WF{s l t e:Str}(hl:l<:+s)(h:t++e=l):List.drop (beh s l) (List.take (beh s e) s)=t:=by
 obtain⟨p,rfl⟩:=hl;subst h;have h1:beh (p++(t++e)) (t++e)=p.length:=by unfold beh;simp only[Ca];omega
 have h2:beh (p++(t++e)) e=(p++t).length:=by unfold beh;simp only[Ca];omega
 rw[h1,h2,<-Ma,df,Jg]
theorem fV{s l:Str}(hs:s.length<=40000)(hl:l<:+s)(h:nbS l=true):ZI (sr s l)=some ((zy l).1,sr s (zy l).2):=by
 have hsb:s.length<=big:=by unfold big;omega
 have he:=EQ hl;have hle:=hl.length_le;have hsp:=yB l;have hel:(zu l).1.length<=l.length:=by have:=congrArg List.length hsp;rw[Ca]at this;omega
 have htl:(numP l).txt.length<=40000:=by have:=congrArg List.length hsp;rw[Ca]at this;omega
 unfold ZI;rw[JX hsb hl];simp only[ze,Aa];have h1:(beh s l:Int)<=(beh s (zu l).1:Int):=by unfold beh;omega
 have h2:=Uh s (zu l).1;rw[zk (by rw[Ea (by omega),Ea (by omega),Ea (by omega)];rfl),Ta,Ta,WF hl hsp,dS (wz h) htl];simp only[Aa];rw[show zH (0,sr s (zu l).1)=some (nmS (zu l).1)from bJ (k:=0) hsb he (by omega)];simp only[Aa];unfold zy;cases hn:nmS (zu l).1 with
 |true=> rw[Fa,wy hsb he,Ka rfl];rfl
 |false=>
  rw[Ba,Bh hsb he,Ja (by decide)];simp only[Aa,zC3];cases h37:atS (zu l).1 0==37 with
  |true=> rw[Fa,zg,Wu hsb he (by rw[ma.1 h37];decide),Ka rfl]
  |false=>rw[Ba,zg,Ja (by decide)]
theorem dA(l:Str):(zm l).1.length<=4*l.length:=by
 match l with
 |[]=>rw[qF];exact Cb _
 |c::r=>
  rw[zI];split
  ·have:=dA r;show(c::(zm r).1).length<=_;rw[Ga,Ga];omega
  ·split
   ·have h1:=zF r;have h2:=Rp r;have:=dA (zo r).2;show((zo r).1++(zm (zo r).2).1).length<=_;rw[Ca,Ga];omega
   ·exact Ac _
termination_by l.length
decreasing_by
 all_goals first|(have:=zF r;simp only[Ga];omega)|(simp only[Ga];omega)
def qo(l:Str):zb×Str:=
 if atS (zm l).2 0==40 then
  (if(lowS (zm l).1==[117,114,108])&& !(atS (past spB ((zm l).2.drop 1)) 0==34||atS (past spB ((zm l).2.drop 1)) 0==39)
  then(Xh (urlS (past spB ((zm l).2.drop 1))).1,(urlS (past spB ((zm l).2.drop 1))).2)
  else(⟨2,(zm l).1,0,[],false⟩,(zm l).2.drop 1))
 else(⟨1,(zm l).1,0,[],false⟩,(zm l).2)
theorem zAv{s q:Str}(hs:s.length<=40000)(hq:q<:+s):ZC (sr s q)=some ((qo q).1,sr s (qo q).2):=by
 have hsb:s.length<=big:=by unfold big;omega
 have hn:(zm q).2<:+s:=(Yk q).trans hq;have h4:=dA q;have hql:=hq.length_le;have hnl:(zm q).1.length<=big:=by unfold big;omega
 unfold ZC;rw[wy hsb hq];simp only[ze,Aa,Bh hsb hn];unfold bne qo;rw[zC4];cases h40:atS (zm q).2 0==40 with
 |false=>rfl
 |true=>
  have hne:atS (zm q).2 0≠0:=by rw[ma.1 h40];decide
  rw[Nb,Ba,Ka rfl,Wu hsb hn hne,fH hnl (by decide),Ls];simp only[Aa];have hd:=aj hn 1;cases hu:lowS (zm q).1==[117,114,108]with
  |false=>rfl
  |true=>
   rw[Fa,bz hsb hd,Lb];have hp:=Yj spB hd;simp only[Aa,Bh hsb hp];rw[VU,UU];cases h34:atS (past spB ((zm q).2.drop 1)) 0==34 with
   |true=>rfl
   |false=>
    cases h39:atS (past spB ((zm q).2.drop 1)) 0==39 with
    |true=>rfl
    |false=> rw[urlR hsb hd];rfl
theorem nV{c:UInt8}{r:Str}(h:letB c=true\/escS (c::r)=true):(zm (c::r)).2<:+r:=by
 rw[zI];split
 ·exact Yk r
 ·rename_i hl;rw[Ka (h.resolve_left hl)];exact(Yk _).trans (Zb r)
theorem yM{c:UInt8}{r:Str}(h:nmS (c::r)=true):letB c=true\/escS (c::r)=true:=by
 unfold nmS at h;cases h45:atS (c::r) 0==45 with
 |true=> left;rw[show c=45 from ma.1 h45];decide
 |false=>
  rw[h45,Ja (by decide),Tc]at h;rcases h with h|h
  ·left;unfold letB;rw[show fstB c=true from h];rfl
  ·exact .inr h
theorem AZ{c:UInt8}{r:Str}(h:nmS (c::r)=true):(qo (c::r)).2<:+r:=by
 have hn:=nV (yM h);have hd:(zm (c::r)).2.drop 1<:+r:=(je 1 _).trans hn;unfold qo;split
 ·split
  ·exact(NF _).trans ((mo spB _).trans hd)
  ·exact hd
 ·exact hn
def nxU(c:UInt8)(r:Str):zb×Str:=
  if nmS (c::r)then qo (c::r)
  else if Yg c==0 then(⟨9,[c],0,[],false⟩,r)
  else(Nh (Yg c),r)
def nxT(c:UInt8)(r:Str):zb×Str:=
  if nbS (c::r)then zy (c::r)
  else if [45,45,62].isPrefixOf (c::r)then(Nh 15,(c::r).drop 3)
  else if [60,33,45,45].isPrefixOf (c::r)then(Nh 14,(c::r).drop 4)
  else if c==64&&nmS r then(⟨3,(zm r).1,0,[],false⟩,(zm r).2)
  else nxU c r
def Zo:Str->zb×Str
 |[]=>(⟨0,[],0,[],false⟩,[])
 |c::r=>
  if spB c then(Nh 13,past spB (c::r))
  else if c==34||c==39 then(Vj (zR c r).1,(zR c r).2)
  else if c==35&&(letB (atS r 0)||escS r)then(⟨4,(zm r).1,0,[],nmS r⟩,(zm r).2)
  else nxT c r
theorem Wt(c:UInt8)(r:Str):Zo (c::r)=
  if spB c then(Nh 13,past spB (c::r))
  else if c==34||c==39 then(Vj (zR c r).1,(zR c r).2)
  else if c==35&&(letB (atS r 0)||escS r)then(⟨4,(zm r).1,0,[],nmS r⟩,(zm r).2)
  else if nbS (c::r)then zy (c::r)
  else if [45,45,62].isPrefixOf (c::r)then(Nh 15,(c::r).drop 3)
  else if [60,33,45,45].isPrefixOf (c::r)then(Nh 14,(c::r).drop 4)
  else if c==64&&nmS r then(⟨3,(zm r).1,0,[],false⟩,(zm r).2)
  else if nmS (c::r)then qo (c::r)
  else if Yg c==0 then(⟨9,[c],0,[],false⟩,r)
  else(Nh (Yg c),r):=rfl
theorem R6{c:UInt8}{r:Str}(h:nbS (c::r)=true):(zy (c::r)).2<:+r:=by
 have h1:=K5 h;unfold zy;split
 ·exact(Yk _).trans h1
 ·split
  ·exact(je 1 _).trans h1
  ·exact h1
theorem Ak(c:UInt8)(r:Str):(Zo (c::r)).2<:+r:=by
 rw[Wt];split
 ·rename_i h;show past spB (c::r)<:+r;rw[past,Ka h];exact mo spB r
 ·split
  ·exact rC c r
  ·split
   ·exact Yk r
   ·split
    ·rename_i h;exact R6 h
    ·split
     ·exact je 2 r
     ·split
      ·exact je 3 r
      ·split
       ·exact Yk r
       ·split
        ·rename_i h;exact AZ h
        ·split
         ·exact Gc _
         ·exact Gc _
theorem tV(c:UInt8):decide (Lib.indexByte [58,59,44,91,93,40,41,123,125] c>=0)= !(Yg c==0)/\(Yg c≠0->wu8 (16+wu8 (Lib.indexByte [58,59,44,91,93,40,41,123,125] c))=Yg c):=by
 have: ∀n:Nat,n<256->decide (Lib.indexByte [58,59,44,91,93,40,41,123,125] (UInt8.ofNat n)>=0)= !(Yg (UInt8.ofNat n)==0)/\(Yg (UInt8.ofNat n)≠0->wu8 (16+wu8 (Lib.indexByte [58,59,44,91,93,40,41,123,125] (UInt8.ofNat n)))=Yg (UInt8.ofNat n)):=by decide+kernel
 have:=this c.toNat (Ib c);rw[Sb]at this;exact this
theorem Aj{m q:Str}(h:m.isPrefixOf q=true):m.length<=q.length:=by obtain⟨t,rfl⟩:=Df.1 h;rw[Ca];omega
def Iu(s:Str)(X:zb×Str):Option (zb×za):=some (X.1,sr s X.2)
theorem zCV{s q:Str}{c:UInt8}{r:Str}(hs:s.length<=40000)(hq:q<:+s)(hc:q=c::r):qh (sr s q)=some ((Zo q).1,sr s (Zo q).2):=by
 subst hc;have hsb:s.length<=big:=by unfold big;omega
 have hr:=zU hq;have hd1:(c::r).drop 1=r:=rfl;rw[show Zo (c::r)=if spB c then(Nh 13,past spB (c::r))else if c==34||c==39 then(Vj (zR c r).1,(zR c r).2)else if c==35&&(letB (atS r 0)||escS r)then(⟨4,(zm r).1,0,[],nmS r⟩,(zm r).2)else nxT c r from rfl];unfold qh;simp only[ze,Bh hsb hq,Aa];rw[zk sU];simp only[Tv,Aa,VU,UU,zC2,zC5,ME hq,Du,show atS (c::r) 0=c from rfl,gq];cases hsp:spB c with
 |true=> rw[Fa,bz hsb hq,Ka rfl];rfl
 |false=>
  rw[Ba,Ja (by decide)];cases hqu:c==34||c==39 with
  |true=> rw[Fa,zA5 hsb hq,Ka rfl];rfl
  |false=>
   rw[Ba,Ja (by decide)];have hsc:zt (1,sr s (c::r))=some (escS r):=fB (k:=1) hsb hq (by omega);have hnm1:zH (1,sr s (c::r))=some (nmS r):=bJ (k:=1) hsb hq (by omega);have hnm0:zH (0,sr s (c::r))=some (nmS (c::r)):=bJ (k:=0) hsb hq (by omega);have hst:(⟨s,w64 ((beh s (c::r):Int)+1)⟩:za)=sr s r:=by rw[Vh hsb hq]
   rw[hst];have tail:((Zv (sr s (c::r))).bind fun y10=>
    bif y10 then
     (ZI (sr s (c::r))).bind fun y11=>
     some (y11.1,y11.2)
    else
     (some ([45,45,62].isPrefixOf (c::r))).bind fun y12=>
     bif y12 then
      some ((⟨15,[],0,[],false⟩:zb),(⟨s,w64 ((beh s (c::r):Int)+3)⟩:za))
     else
      (some ([60,33,45,45].isPrefixOf (c::r))).bind fun y13=>
      bif y13 then
       some ((⟨14,[],0,[],false⟩:zb),(⟨s,w64 ((beh s (c::r):Int)+4)⟩:za))
      else
       (zq (c==64) (zH (1,sr s (c::r))) (default:Bool)).bind fun y14=>
       bif bif c==64 then y14 else false then
        (zL (sr s r)).bind fun y15=>
        some ((⟨3,y15.1,0,[],false⟩:zb),y15.2)
       else
        (zH (0,sr s (c::r))).bind fun y16=>
        bif y16 then
         (ZC (sr s (c::r))).bind fun y17=>
         some (y17.1,y17.2)
        else
         (strings_IndexByte ([58,59,44,91,93,40,41,123,125],wu8 (pk (c::r) 0))).bind fun y18=>
         bif decide (y18>=0)then
          some ((⟨wu8 (16+wu8 y18),[],0,[],false⟩:zb),sr s r)
         else
          need (decide (1<=((c::r).length:Int)))<|
          some ((⟨9,List.take 1 (c::r),0,[],false⟩:zb),sr s r))=
    Iu s (nxT c r):=by
    unfold nxT;simp only[zAL hsb hq,Aa];cases hnb:nbS (c::r)with
    |true=> rw[Fa,fV hs hq hnb,Ka rfl];rfl
    |false=>
     rw[Ba,Ja (by decide)];cases h3:[45,45,62].isPrefixOf (c::r)with
     |true=> rw[Fa,Ka rfl,show(3:Int)=((3:Nat):Int)from rfl,Bz (n:=3) hsb hq (Aj h3)];rfl
     |false=>
      rw[Ba,Ja (by decide)];cases h4:[60,33,45,45].isPrefixOf (c::r)with
      |true=> rw[Fa,Ka rfl,show(4:Int)=((4:Nat):Int)from rfl,Bz (n:=4) hsb hq (Aj h4)];rfl
      |false=>
       rw[Ba,Ja (by decide),hnm1,hnm0];have rest: ∀z:Bool,((some z).bind fun y14=>bif y14 then
        (zL (sr s r)).bind fun y15=>
        some ((⟨3,y15.1,0,[],false⟩:zb),y15.2)
       else
        (some (nmS (c::r))).bind fun y16=>
        bif y16 then
         (ZC (sr s (c::r))).bind fun y17=>
         some (y17.1,y17.2)
        else
         (strings_IndexByte ([58,59,44,91,93,40,41,123,125],wu8 (pk (c::r) 0))).bind fun y18=>
         bif decide (y18>=0)then
          some ((⟨wu8 (16+wu8 y18),[],0,[],false⟩:zb),sr s r)
         else
          need (decide (1<=((c::r).length:Int)))<|
          some ((⟨9,List.take 1 (c::r),0,[],false⟩:zb),sr s r))=Iu s (if z then(⟨3,(zm r).1,0,[],false⟩,(zm r).2)else nxU c r):=by
        intro z;unfold nxU;simp only[Aa];cases z with
        |true=> rw[Fa,wy hsb hr];rfl
        |false=>
         rw[Ba,Ja (by decide)];cases hnm:nmS (c::r)with
         |true=>rw[Fa,zAv hs hq];rfl
         |false=>
          rw[Ba,Ja (by decide),Yo,Wy];have hb:(wu8 (c.toNat:Int)).toNat.toUInt8=c:=by rw[Mr,Nf (Ib c),Ta];exact Sb
          rw[hb];obtain⟨m1,m2⟩:=tV c;simp only[Aa,m1];cases hm:Yg c==0 with
          |true=> rw[Nb,Ba,zk (Ea (by rw[Ga];omega))];rfl
          |false=> rw[Eb,Fa,m2 (Ia.1 hm)];rfl
       cases h64:c==64 with
       |false=> have:=rest false;simp only[zN,Aa,Ba,Ic]at this ⊢;exact this
       |true=> have:=rest (nmS r);simp only[zG,Aa,Fa,Lb]at this ⊢;exact this
   cases h35:c==35 with
   |false=> simp only[zN,Aa,Ba,Xd,Ic];exact tail
   |true=>
    simp only[zG,Aa,Fa,Cc,Lb,pu hsb hq,VN];have e1:atS (c::r) 1=atS r 0:=rfl;rw[e1,hsc];have hh:(bif letB (atS r 0)||escS r then(zH (1,sr s (c::r))).bind fun y8=>(zL (sr s r)).bind fun y9=>some ((⟨4,y9.1,0,[],y8⟩:zb),y9.2)else Iu s (nxT c r))=Iu s (if(letB (atS r 0)||escS r)then(⟨4,(zm r).1,0,[],nmS r⟩,(zm r).2)else nxT c r):=by
     cases letB (atS r 0)||escS r with
     |false=>rfl
     |true=>rw[Fa,hnm1,wy hsb hr];rfl
    show _=Iu s (if(letB (atS r 0)||escS r)then(⟨4,(zm r).1,0,[],nmS r⟩,(zm r).2)else nxT c r);rw[<-hh];cases hl:letB (atS r 0)with
    |true=>rfl
    |false=>
     simp only[Eb,zG,Aa,jc];cases hes:escS r with
     |true=>rfl
     |false=>rw[Ba];exact tail
def clsS:Str->Option Str
 |[]=>none
 |c::r=>if c==42&&atS r 0==47 then some (r.drop 1)else clsS r
theorem Kl: ∀(l:Str) {r:Str},clsS l=some r->r<:+l/\r.length+2<=l.length
 |[],r,h=>by cases h
 |c::t,r,h=>by
  unfold clsS at h;split at h
  ·rename_i hc;rw[Da,ma,ma]at hc;injection h with h;subst h;have:=Nq (l:=t) (n:=0) (by rw[hc.2];decide);exact⟨(je 1 t).trans (Td c t),by rw[Ob,Ga];omega⟩
  ·obtain⟨h1,h2⟩:=Kl t h;exact⟨h1.trans (Td c t),by rw[Ga];omega⟩
theorem pre2(b:UInt8)(l:Str):([42,47]:Str).isPrefixOf (b::l)=(b==42&&atS l 0==47):=by
 have h1:((42:UInt8)==b)=(b==42):=by rw[Vf,ma,ma];exact eq_comm
 rw[List.isPrefixOf,h1];cases l with
 |nil=>rfl
 |cons d t=>
  have h2:((47:UInt8)==d)=(d==47):=by rw[Vf,ma,ma];exact eq_comm
  rw[List.isPrefixOf,h2,List.isPrefixOf];rw[Cc];rfl
theorem PO: ∀l:Str,Lib.index l [42,47]=match clsS l with|none=> -1|some r=>((l.length - r.length - 2:Nat):Int)
 |[]=>rfl
 |b::l=>by
  rw[Lib.index,pre2,clsS];cases h:b==42&&atS l 0==47 with
  |true=> rw[Ka rfl,Ka rfl];rw[Da,ma,ma]at h;have:=Nq (l:=l) (n:=0) (by rw[h.2];decide);simp only[Ob,Ga];omega
  |false=>
   simp only[Dc,Fe];rw[PO l];cases hc:clsS l with
   |none=>rfl
   |some r=> have:=(Kl l hc).2;simp only;rw[Ja (by rw[ma];omega),Ga];omega
def cmtS(l:Str):Str:=
 if([47,42]:Str).isPrefixOf l then
  (match h:clsS (l.drop 2)with
  |some q=>cmtS q
  |none=>[])
 else l
termination_by l.length
decreasing_by
 have:=(Kl _ h).2;rw[Ob]at this;omega
theorem Ui(l:Str):cmtS l=if([47,42]:Str).isPrefixOf l then(match clsS (l.drop 2)with|some q=>cmtS q|none=>[])else l:=by
 rw[cmtS];split
 ·split<;>rename_i h<;>rw[h]
 ·rfl
theorem Z6{l:Str}(h:([47,42]:Str).isPrefixOf l=false):cmtS l=l:=by rw[Ui,h];rfl
theorem Ti(l:Str):cmtS l<:+l:=by
 rw[Ui];split
 ·split
  ·rename_i q hq;have h1:=Kl _ hq;have h2:=h1.2;rw[Ob]at h2;exact(Ti q).trans (h1.1.trans (je 2 l))
  ·exact Uf
 ·exact Gc _
termination_by l.length
decreasing_by
 all_goals first|omega|(simp only[Ob]at *; omega)
theorem Wl(l:Str):cmtS (cmtS l)=cmtS l:=by
 rw[Ui l];split
 ·split
  ·rename_i q hq;have h2:=(Kl _ hq).2;rw[Ob]at h2;exact Wl q
  ·exact Z6 rfl
 ·rename_i h;exact Z6 (Bool.eq_false_iff.2 h)
termination_by l.length
decreasing_by
 all_goals first|omega|(simp only[Ob]at *; omega)
theorem Rw(l:Str):([47,42]:Str).isPrefixOf (cmtS l)=false:=by
 have h:=Wl l;cases hp:([47,42]:Str).isPrefixOf (cmtS l)with
 |false=>rfl
 |true=>
  exfalso;rw[Ui (cmtS l),hp,Ka rfl]at h;have hl:=Aj hp;rw[show([47,42]:Str).length=2 from rfl]at hl;cases hc:clsS ((cmtS l).drop 2)with
  |none=>rw[hc]at h;rw[<-h]at hl;simp at hl
  |some q=> rw[hc]at h;have h1:=(Kl _ hc).2;have h2:=(Ti q).length_le;simp only at h;rw[h,Ob]at*;omega
theorem MP{s q:Str}(hs:s.length<=40000)(hq:q<:+s):Zl (sr s q)=some (sr s (cmtS q)):=by
 have hsb:s.length<=big:=by unfold big;omega
 unfold Zl;refine ak (fun z=> ∃p,z=sr s p/\p<:+s/\cmtS p=cmtS q) (fun z=>s.length - z.at_.toNat) _ ?_ ⟨q,rfl,hq,rfl⟩;rintro _ ⟨p,rfl,hp,he⟩;rw[zk sU];simp only[ze,ME hp,Du,Aa];rw[Ui p]at he;cases hpre:([47,42]:Str).isPrefixOf p with
 |false=> rw[hpre,Ja (by decide)]at he;exact .inr (.inl ⟨_,rfl,by rw[he]⟩)
 |true=>
  rw[hpre,Ka rfl]at he;have hl:=Aj hpre;rw[show([47,42]:Str).length=2 from rfl]at hl;have hle:=hp.length_le;have hb:=TF hp hl;have hb2:=Uh s (p.drop 2);rw[Fa];have hw:w64 ((beh s p:Int)+2)=((beh s (p.drop 2):Nat):Int):=by rw[<-hb,zz (by omega) (by omega)];omega
  rw[hw,zk (by rw[Ea (by omega),Ea (by omega)];rfl),ME (aj hp 2)];have hlen:(p.drop 2).length<=40000:=by rw[Ob];omega
  have hi:Gl (p.drop 2,[42,47])=some (Lib.index (p.drop 2) [42,47]):=by unfold Gl;rw[zk (by exact Ea (show(p.drop 2).length<4294967281 by omega))]
  rw[hi,PO];simp only[Aa];cases hc:clsS (p.drop 2)with
  |none=> rw[hc]at he;refine .inr (.inr ?_);rw[<-he];show _=some (LO.ret (⟨s,(beh s []:Int)⟩:za));unfold beh;rw[Jb];rfl
  |some r=>
   rw[hc]at he;obtain⟨h1,h2⟩:=Kl _ hc;have hrs:r<:+s:=h1.trans (aj hp 2);rw[Ob]at h2 hlen;simp only;rw[Ra (by omega),Ba];refine .inl ⟨sr s r,?_,⟨r,rfl,hrs,he⟩,?_⟩
   ·rw[Ob,zz (n:=_+4) (by omega) (by omega)];have:(beh s p:Int)+(((p.length - 2 - r.length - 2:Nat):Int)+4)=((beh s r:Nat):Int):=by unfold beh;omega
    rw[this,zz (by have:=Uh s r;omega) (by have:=Uh s r;omega)]
   ·show s.length - beh s r<s.length - beh s p;unfold beh;omega
def qm(l:Str):List zb:=
 match h:cmtS l with
 |[]=>[]
 |c::r=>(Zo (c::r)).1::qm (Zo (c::r)).2
termination_by l.length
decreasing_by
 have h1:=(Ak c r).length_le;have h2:=(Ti l).length_le;rw[h,Ga]at h2;omega
theorem QM{l:Str}(h:cmtS l=[]):qm l=[]:=by
 rw[qm];split
 ·rfl
 ·rename_i h2;rw[h]at h2;cases h2
theorem QC{l:Str}{c:UInt8}{r:Str}(h:cmtS l=c::r):qm l=(Zo (c::r)).1::qm (Zo (c::r)).2:=by
 rw[qm];split
 ·rename_i h2;rw[h]at h2;cases h2
 ·rename_i h2;rw[h]at h2;injection h2 with h3 h4;subst h3 h4;rfl
theorem Bt(l:Str):qm (cmtS l)=qm l:=by
 cases h:cmtS l with
 |nil=>rw[QM h];exact QM (Z6 rfl)
 |cons c r=> rw[QC h];exact QC (by rw[<-h,Wl])
theorem gF(l:Str):(qm l).length<=l.length:=by
 cases h:cmtS l with
 |nil=>rw[QM h];exact Ac _
 |cons c r=>
  have h4:(Zo (c::r)).2.length<l.length:=by have h1:=(Ak c r).length_le;have h2:=(Ti l).length_le;rw[h,Ga]at h2;omega
  rw[QC h,Ga];have:=gF (Zo (c::r)).2;omega
termination_by l.length
decreasing_by
 all_goals omega
theorem dZ: ∀l:Str,(Proofs.Cl.cleanS l).length<=3*l.length:=by
 have: ∀(n:Nat) (l:Str),l.length<=n->(Proofs.Cl.cleanS l).length<=3*l.length:=by
  intro n
  induction n with
  |zero=>
   intro l h;cases l with
   |nil=>rw[Proofs.Cl.cleanS];exact Cb _
   |cons c r=>rw[Ga]at h;omega
  |succ n ih=>
   intro l h;rw[Proofs.Cl.cleanS.eq_def];split
   ·exact Cb _
   ·rename_i r;rw[Ga,Ga]at h;have:=ih r (by omega);rw[Ga,Ga,Ga];omega
   ·rename_i c r _;rw[Ga]at h;have:=ih r (by omega);rw[Bool.cond_eq_ite];split
    ·simp only[Ga];omega
    ·rw[Bool.cond_eq_ite];split
     ·simp only[Ga];omega
     ·simp only[Ga];omega
 exact fun l=>this l.length l (Cb _)
def Xo(w:Str):List zb×Int:=if 4000<w.length then([],28)else if 1500<(qm (Proofs.Cl.cleanS w)).length then([],4)else(qm (Proofs.Cl.cleanS w),0)
theorem lL{n:Nat}(h:n<=100000):zP n 1 56=true:=by unfold zP;exact Ea (by omega)
theorem KZ(w:Str):Ty w=some (Xo w):=by
 unfold Ty Xo;by_cases hlong:4000<w.length
 ·have hcl:Il w=some ([],28):=by unfold Il;rw[Ka hlong]
  unfold Sy;rw[hcl,Ka hlong];rfl
 ·have hcl:Il w=some (Proofs.Cl.cleanS w,0):=by unfold Il;rw[Ja hlong]
  rw[Ja hlong];have h3:=dZ w;generalize Proofs.Cl.cleanS w=s at hcl h3;have hs:s.length<=40000:=by omega
  unfold Sy;rw[hcl];simp only[ze,Aa];rw[show((0:Int) != 0)=false from rfl,Ba,sr_0,MP hs (Gc s)];simp only[Aa];have hmain: ∃z:Int×List zb,Zp (fun(s3:Int×List zb×za)=>
    bif decide (s3.2.2.at_<(s.length:Int))then
     bif decide (w64 (s3.1+1)>1500)then
      some (LO.ret (4,s3.2.1))
     else
      (qh s3.2.2).bind fun y4=>
      (QB ((y4.1,s3.2.2.at_,y4.2.at_),s3.2.1)).bind fun y5=>
      (Zl y4.2).bind fun y6=>
      some (LO.again (w64 (s3.1+1),y5,y6))
    else
     some (LO.out (s3.2.1,s3.2.2)):Int×List zb×za->Option (LO (Int×List zb×za) (List zb×za) (Int×List zb))) (0,[],sr s (cmtS s)) (fun o7=>some (0,o7.1))=some z/\
    z=(if 1500<(qm s).length then(4,(qm s).take 1500)else(0,qm s)):=by
   refine⟨_,ak (fun z=> ∃(acc:List zb) (q:Str),z=((acc.length:Int),acc,sr s q)/\q<:+s/\cmtS q=q/\acc.length<=1500/\acc++qm q=qm s) (fun z=>s.length - z.2.2.at_.toNat) (if 1500<(qm s).length then(4,(qm s).take 1500)else(0,qm s)) ?_ ⟨[],cmtS s,rfl,Ti s,Wl s,by simp,by rw[Kc,Bt]⟩,rfl⟩;rintro _ ⟨acc,q,rfl,hq,hqc,ha,he⟩;simp only;have hle:=hq.length_le;cases q with
   |nil=>
    have hb:((beh s []:Nat):Int)=(s.length:Int):=by unfold beh;rw[Jb];rfl
    have hd:decide (((beh s []:Nat):Int)<(s.length:Int))=false:=Ra (by omega);simp only[hd,Ba];rw[QM (Z6 rfl),Ya]at he;refine .inr (.inl ⟨_,rfl,?_⟩);rw[<-he,Ja (by omega)]
   |cons c r=>
    rw[Ga]at hle;have hb:beh s (c::r)<s.length:=by unfold beh;rw[Ga];omega
    have hd:decide (((beh s (c::r):Nat):Int)<(s.length:Int))=true:=Ea (by omega);have hw:w64 ((acc.length:Int)+1)=(acc.length:Int)+1:=zz (by omega) (by omega);simp only[hd,Fa,hw];rw[QC hqc]at he;have hlen:=congrArg List.length he;rw[Ca,Ga]at hlen;by_cases hfull:acc.length=1500
    ·have hd2:decide ((acc.length:Int)+1>1500)=true:=Ea (by omega);simp only[hd2,Fa];refine .inr (.inr ?_);rw[Ka (by omega),<-he,<-hfull,df]
    ·have hd2:decide ((acc.length:Int)+1>1500)=false:=Ra (by omega);simp only[hd2,Ba,zCV hs hq rfl,Aa];unfold QB;rw[zk (lL (by simp only;omega))];have hns:(Zo (c::r)).2<:+s:=(Ak c r).trans (zU hq);simp only[Aa,MP hs hns];refine .inl ⟨_,rfl,⟨acc++[(Zo (c::r)).1],cmtS (Zo (c::r)).2,?_,(Ti _).trans hns,Wl _,by rw[Ca,Ua];omega,?_⟩,?_⟩
     ·rw[Ca,Ua];refine Prod.ext ?_ rfl;show(acc.length:Int)+1=((acc.length+1:Nat):Int);omega
     ·rw[Bt,Ma];exact he
     ·have h1:=(Ak c r).length_le;have h2:=(Ti (Zo (c::r)).2).length_le;show s.length - beh s (cmtS (Zo (c::r)).2)<s.length - beh s (c::r);unfold beh at*;rw[Ga]at*;omega
  obtain⟨z,hz1,hz2⟩:=hmain;rw[hz1,hz2];by_cases hmany:1500<(qm s).length
  ·rw[Ka hmany,Ka hmany];rfl
  ·rw[Ja hmany,Ja hmany];rfl
end Go.Lv.VT
