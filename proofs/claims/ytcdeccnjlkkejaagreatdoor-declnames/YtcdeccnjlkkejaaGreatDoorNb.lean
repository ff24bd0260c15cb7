/- The writing of names. -/
import Derived.Test.YtcdeccnjlkkejaaGreatDoorNam
set_option linter.unusedSimpArgs false
set_option linter.unusedVariables false
namespace Go.Lv.VT
set_option maxRecDepth 100000
def escC(c:UInt8):Str:=bif decide (32<c.toNat)&&decide (c.toNat<127)&& !digB c&& !alB c then [92,c]else 92::(hexS c.toNat++[32])
def pcW(dash:Bool)(k:Nat)(c:UInt8):Str:=bif letB c&&(k==0|| !digB c)&& !dash then [c]else escC c
def encW(dash:Bool):Nat->Str->Str
 |_,[]=>[]
 |k,c::r=>pcW dash k c++encW dash (k - 1) r
theorem RU(c:UInt8):namN c.toNat=letB c:=by
 have: ∀n:Nat,n<256->namN (UInt8.ofNat n).toNat=letB (UInt8.ofNat n):=by decide+kernel
 have h:=this c.toNat (Bb c);simp_all
theorem UI(c:UInt8):qM (c.toNat:Int)=some (letB c):=by rw[yN,RU]
theorem IB(c:UInt8):ZL (c.toNat:Int)=some (digB c):=AO c
theorem NW(c:UInt8):Jp (c.toNat:Int)=some (alB c):=of_n (by decide+kernel) c
theorem UV(c:UInt8):wu64 (c.toNat:Int)=(c.toNat:Int):=by
 have:=Bb c;show IntKind.u64.wrap _=_;have h: ∀n:Int,IntKind.u64.wrap n=n%18446744073709551616:=fun n=>by simp[IntKind.wrap,IntKind.bits,IntKind.signed]
 rw[h];omega
theorem Ir(c:UInt8):qf ((c.toNat:Nat):Int)=some c:=by simp_all
theorem VJ(n:Nat):(hexS n).length<=2:=by unfold hexS;split<;>simp
theorem Tk(c:UInt8){acc:Str}(j:acc.length<=1000000000):Zc ((c.toNat:Int),acc)=some (acc++escC c):=by
 have i:=Bb c;unfold Zc escC;simp only[zg,IB,NW];have g:decide ((c.toNat:Int)>32)=decide (32<c.toNat):=by rw[decide_eq_decide];omega
 have f:decide ((c.toNat:Int)<127)=decide (c.toNat<127):=by rw[decide_eq_decide];omega
 rw[g,f];have b:short (acc++[(92:UInt8)])=true:=Ga (by grind);have e:jl ((wu64 (c.toNat:Int),16),acc++[(92:UInt8)])=some (acc++[(92:UInt8)]++hexS c.toNat):=by unfold jl;simp only[UV,b];rw[zA (by simp;omega)];rfl
 have h:=VJ c.toNat;have a:need (zD acc.length 1 1) (zg (jl ((wu64 (c.toNat:Int),16),acc++[(92:UInt8)])) fun d=>need (zD d.length 1 1) (some (d++[(32:UInt8)])))=some (acc++92::(hexS c.toNat++[32])):=by rw[zA (Fg (by omega)),e];simp only[zg,Aa];rw[zA (Fg (by grind))];simp
 simp only[zg]at a;rw[a];cases decide (32<c.toNat)with
 |false=>rfl
 |true=>
  cases decide (c.toNat<127)with
  |false=>rfl
  |true=>
   cases digB c with
   |true=>rfl
   |false=>
    cases alB c with
    |true=>rfl
    |false=> simp only[zx,Ea,Xa,Bool.and_self,Aa,Ir];rw[zA (Fg (by omega))]
theorem Cs(c:UInt8):(escC c).length<=4:=by
 have:=VJ c.toNat;unfold escC
 grind
theorem oH(dash:Bool)(k:Nat)(c:UInt8):(pcW dash k c).length<=4:=by
 have:=Cs c;unfold pcW
 grind
theorem Xl(dash:Bool): ∀(k:Nat) (l:Str),(encW dash k l).length<=4*l.length
 |_,[]=>by unfold encW;simp
 |k,c::r=>by
  have:=oH dash k c;have:=Xl dash (k - 1) r;unfold encW
  grind
theorem KS{dash:Bool}{k i:Nat}{l:Str}(h:i<l.length):encW dash (k - i) (l.drop i)=pcW dash (k - i) l[i]++encW dash (k - (i+1)) (l.drop (i+1)):=by rw[ma h,encW,show k - i - 1=k - (i+1) by omega]
theorem eH {R:Type} {step:Int×List UInt8->Option (LO (Int×List UInt8) (List UInt8) R)} {l acc:Str} {k:Nat} {dash:Bool} (hl:l.length<=100000) (ha:acc.length<=100000000)
  (h1: ∀(i:Nat) (a:Str) (hi:i<l.length),a.length<=500000000->step ((i:Int),a)=some (.again (w64 ((i:Int)+1),a++pcW dash (k - i) l[i])))
  (h2: ∀a,step ((l.length:Int),a)=some (.out a)):Dg step (0,acc)=some (.out (acc++encW dash k l)):=by
 refine ZT (fun z=> ∃(i:Nat) (a:Str),z=((i:Int),a)/\i<=l.length/\a.length<=acc.length+4*i/\a++encW dash (k - i) (l.drop i)=acc++encW dash k l) (fun z=>l.length - z.1.toNat) _ ?_ ⟨0,acc,rfl,by omega,by omega,rfl⟩;rintro _ ⟨i,a,rfl,hi,hal,he⟩;rcases Yc i l.length with h|h
 ·refine .inl ⟨_,h1 i a h (by omega),⟨i+1,_,by rw[Zd (by omega) (by omega)];rfl,by omega,?_,?_⟩,by simp only;rw[Zd (by omega) (by omega)];omega⟩
  ·have:=oH dash (k - i) l[i]
   grind
  ·rw[<-he,KS h,Oa]
 ·have:i=l.length:=by omega
  subst this;refine .inr (.inl ⟨_,h2 a,?_⟩);rw[<-he,We (Ua _)];rw[show encW dash (k - l.length) []=[] by rw[encW],Cb]
def yg(k:Nat)(l:Str):Bool:= !(k==0)&&l==[45]
def Qi(l:Str):Nat:=if [45].isPrefixOf l then 2 else 1
theorem Uo(l:Str):ZM l=some ((Qi l:Nat):Int):=by
 unfold ZM Qi;simp only[zg,qR,Aa]
 grind
def ZQ(l:Str):Str:=encW (l==[45]) (Qi l) l
theorem jr{n:Nat}(h:n<16):qY (hexD n)=true/\hexN (hexD n)=n/\(hexD n==10)=false/\letB (hexD n)=true:=by
 have: ∀n:Nat,n<16->qY (hexD n)=true/\hexN (hexD n)=n/\(hexD n==10)=false/\letB (hexD n)=true:=by decide+kernel
 exact this n h
theorem yD{k n:Nat}{c:UInt8}{r:Str}(h:qY c=true):hexes (k+1) n (c::r)=hexes k (16*n+hexN c) r:=by rw[hexes,Ia h]
theorem PI{n:Nat}(h:n<256)(R:Str):hexes 6 0 (hexS n++32::R)=(n,32::R):=by
 unfold hexS;by_cases c:n<16
 ·obtain⟨a,b,_⟩:=jr c;rw[Ia c,Uc,yD a,b,EB _ _ (32::R) (show qY 32=false by decide)];simp
 ·obtain⟨a,b,_⟩:=jr (show n / 16<16 by omega);obtain⟨e,d,_⟩:=jr (show n%16<16 by omega);rw[Fa c,Ta,Uc,yD a,yD e,b,d,EB _ _ (32::R) (show qY 32=false by decide)]
  grind
theorem iD{n:Nat}(h:n<256)(R:Str): ∃d t,hexS n++R=d::t/\qY d=true/\(d==10)=false:=by
 unfold hexS;by_cases c:n<16
 ·obtain⟨a,_,b,_⟩:=jr c;simp_all
 ·obtain⟨a,_,b,_⟩:=jr (show n / 16<16 by omega);exact⟨_,_,by rw[Fa c];rfl,a,b⟩
theorem GL{c:UInt8}(a:c≠0)(h:c.toNat<128):Cg c.toNat=[c]:=by
 have b:c.toNat≠0:=by intro e;exact a (Pe.1 e)
 unfold Cg;rw[Fa (by omega),Ia h,Md]
theorem NM{r:Str}(h:escS (92::r)=true):zm (92::r)=((zo r).1++(zm (zo r).2).1,(zm (zo r).2).2):=by rw[zP,Fa (by decide),Ia h]
theorem vJ{c:UInt8}(h0:c≠0)(h:c.toNat<128)(R:Str):zm (escC c++R)=(c::(zm R).1,(zm R).2):=by
 unfold escC;cases hg:decide (32<c.toNat)&&decide (c.toNat<127)&& !digB c&& !alB c with
 |true=>
  rw[Ea];have hx:qY c=false/\(c==10)=false:=by
   have: ∀n:Nat,n<256->(decide (32<(UInt8.ofNat n).toNat)&&decide ((UInt8.ofNat n).toNat<127)&& !digB (UInt8.ofNat n)&& !alB (UInt8.ofNat n))=true->qY (UInt8.ofNat n)=false/\(UInt8.ofNat n==10)=false:=by decide+kernel
   have:=this c.toNat (Bb c);rw[Md]at this;exact this hg
  have he:zo (c::R)=([c],R):=by show(if qY c then _ else _)=_;rw[Fa (by rw[hx.1];decide)]
  rw[show [92,c]++R=92::c::R from rfl,NM (by unfold escS;rw[show atS (92::c::R) 0=92 from rfl,show atS (92::c::R) 1=c from rfl,hx.2];rfl),he];rfl
 |false=>
  rw[Da,Ta,Oa];obtain⟨d,t,e,hd,h10⟩:=iD (n:=c.toNat) (Bb c) ([32]++R);have he:zo (hexS c.toNat++([32]++R))=([c],R):=by have hh:=PI (n:=c.toNat) (Bb c) R;rw[show(32::R:Str)=[32]++R from rfl,e]at hh;rw[e];show(if qY d then(Cg (hexes 6 0 (d::t)).1,unsp (hexes 6 0 (d::t)).2)else _)=_;rw[Ia hd,hh,GL h0 h];rfl
  rw[NM (by rw[e];unfold escS;rw[show atS (92::d::t) 0=92 from rfl,show atS (92::d::t) 1=d from rfl,h10];rfl),he];rfl
theorem uA{c:UInt8}(h: ¬c.toNat<128):letB c=true/\digB c=false:=by
 have: ∀n:Nat,n<256-> ¬(UInt8.ofNat n).toNat<128->letB (UInt8.ofNat n)=true/\digB (UInt8.ofNat n)=false:=by decide+kernel
 have:=this c.toNat (Bb c);simp_all
theorem kH{dash:Bool}{k:Nat}{c:UInt8}(e:c≠0)(f:dash=true->c.toNat<128)(R:Str):zm (pcW dash k c++R)=(c::(zm R).1,(zm R).2):=by
 unfold pcW;cases d:letB c&&(k==0|| !digB c)&& !dash with
 |true=> rw[Ca,Ca]at d;rw[Ea,Uc,zP,Ia d.1.1]
 |false=>
  rw[Da];refine vJ e ?_ R;by_cases h:c.toNat<128
  ·exact h
  ·obtain⟨a,b⟩:=uA h
   grind
theorem wJ{dash:Bool}: ∀(k:Nat) (l:Str),Zt l=true->(dash=true-> ∀c∈l,c.toNat<128)->zm (encW dash k l)=(l,[])
 |_,[],_,_=>by rw[encW,qA]
 |k,c::r,h,a=>by unfold Zt at h;rw[Nc,Ca]at h;rw[encW,kH (by grind) (fun e=>a e c (ib ..)),wJ (k - 1) r h.2 (fun e x b=>a e x (Lb _ b))]
theorem UW{l:Str}(h:Zt l=true):zm (ZQ l)=(l,[]):=by refine wJ _ _ h (fun e c a=> ?_);simp_all
theorem kw{dash:Bool}{k:Nat}(hk:0<k)(c:UInt8)(R:Str): ∃d t,pcW dash k c++R=d::t/\(d=92/\escS (d::t)=true\/(d=c/\dash=false/\letB d=true/\digB d=false/\t=R)):=by
 have hk0:(k==0)=false:=by rw[Ja];omega
 unfold pcW;rw[hk0,xc];cases hg:letB c&& !digB c&& !dash with
 |true=> rw[Ca,Ca,Be,Be]at hg;exact⟨c,R,rfl, .inr ⟨rfl,hg.2,hg.1.1,hg.1.2,rfl⟩⟩
 |false=>
  rw[Da];unfold escC;cases hg2:decide (32<c.toNat)&&decide (c.toNat<127)&& !digB c&& !alB c with
  |true=>
   refine⟨92,c::R,rfl, .inl ⟨rfl,?_⟩⟩;have:c≠10:=by rintro rfl;revert hg2;decide
   unfold escS;rw[show atS (92::c::R) 1=c from rfl,Ja.2 this];rfl
  |false=> obtain⟨d,t,e,hd,h10⟩:=iD (n:=c.toNat) (Bb c) ([32]++R);refine⟨92,_,by rw[Da,Ta,Oa], .inl ⟨rfl,?_⟩⟩;rw[e];unfold escS;rw[show atS (92::d::t) 1=d from rfl,h10];rfl
theorem BM{d:UInt8}(h:letB d=true)(h2:digB d=false):fstB d=true\/d=45:=by
 unfold letB at h
 grind
theorem kG{d:UInt8}{t:Str}(a:d=92)(h:escS (d::t)=true):nmS (d::t)=true:=by subst a;unfold nmS;rw[show atS (92::t) 0=92 from rfl,Fa (by decide),h,Gg]
theorem Bj{l:Str}(h:l≠[]):nmS (ZQ l)=true:=by
 cases l with
 |nil=>grind
 |cons c r=>
  unfold ZQ encW;obtain⟨d,t,e,u⟩:=kw (dash:=(c::r:Str)==[45]) (k:=Qi (c::r)) (by unfold Qi;split<;>omega) c (encW ((c::r:Str)==[45]) (Qi (c::r) - 1) r);rw[e];rcases u with⟨q,j⟩|⟨rfl,j,x,v,o⟩
  ·exact kG q j
  ·rcases BM x v with p|rfl
   ·by_cases m:d=45
    ·subst m;exact absurd p (by decide)
    ·unfold nmS;rw[show atS (d::t) 0=d from rfl,Fa (by grind),p,Ae]
   ·have C:r≠[]:=by rintro rfl;exact absurd j (by decide)
    cases r with
    |nil=>grind
    |cons f g=>
     have A:Qi (45::f::g)=2:=rfl;rw[A]at o;obtain⟨a,b,y,n⟩:=kw (dash:=(45::f::g:Str)==[45]) (k:=2 - 1) (by omega) f (encW ((45::f::g:Str)==[45]) (2 - 1 - 1) g);have z:t=a::b:=by rw[o,encW,y]
     rw[z];unfold nmS;rw[show atS (45::a::b) 0=45 from rfl,Ia (show((45:UInt8)==45)=true from rfl),show atS (45::a::b) 1=a from rfl,show(45::a::b:Str).drop 1=a::b from rfl];rcases n with⟨_,B⟩|⟨_,_,s,w,_⟩
     ·grind
     ·rcases BM s w with i|rfl
      ·rw[i];rfl
      ·simp
theorem Um(m:UInt8):zV m []=(some [],[]):=by rw[zV]
theorem qV(m c:UInt8)(r:Str):zV m (c::r)=if c==m then(some [],r)
  else if c==10 then(none,c::r)
  else if c==92 then
   (if r.isEmpty then(some [],[])
   else if atS r 0==10 then zV m (r.drop 1)
   else((zV m (zo r).2).1.map ((zo r).1++ ·),(zV m (zo r).2).2))
  else((zV m r).1.map (c:: ·),(zV m r).2):=by rw[zV]
theorem Tp(m:UInt8)(l:Str):(zV m l).2<:+l:=by
 match l with
 |[]=>rw[Um];grind
 |c::r=>
  rw[qV];have a:=Td c r;split
  ·exact a
  ·split
   ·grind
   ·split
    ·split
     ·grind
     ·split
      ·exact(Tp m (r.drop 1)).trans ((Fe 1 r).trans a)
      ·have:=zX r;exact(Tp m (zo r).2).trans ((Z0 r).trans a)
    ·exact(Tp m r).trans a
termination_by l.length
decreasing_by
 all_goals grind
theorem rA(a b:Str)(x:Option Str):(x.map (b++ ·)).map (a++ ·)=x.map ((a++b)++ ·):=by
 cases x with
 |none=>rfl
 |some t=>grind
theorem NK(a:Str)(b:UInt8)(x:Option Str):(x.map (b:: ·)).map (a++ ·)=x.map ((a++[b])++ ·):=rA a [b] x
def Ii:Option Str->ze
 |some t=>⟨5,t,0,[],false⟩
 |none=>⟨6,[],0,[],false⟩
theorem tQ{s q:Str}{m:UInt8}(k:s.length<=big)(w:m::q<:+s):ZA (sr s (m::q))=some (Ii (zV m q).1,sr s (zV m q).2):=by
 have J:big=4194304:=rfl;have D:=ah w;unfold ZA;simp only[zg,Ig k w,Aa,Ul,kg k w]
 let g:LX (za×ze×List UInt8) (ze×za):=match(zV m q).1 with
  |some t=> .out (sr s (zV m q).2,⟨0,[],0,[],false⟩,t)
  |none=> .ret (⟨6,[],0,[],false⟩,sr s (zV m q).2)
 rw[Bi (r:=g)]
 ·show LX.go g _=_;cases h:(zV m q).1 with
  |some t=>simp only[g,h];rfl
  |none=>simp only[g,h];rfl
 refine ZT (fun z=> ∃(p e:Str),z=(sr s p,⟨0,[],0,[],false⟩,e)/\p<:+s/\e.length+4*p.length<=4*s.length/\(zV m q).1=(zV m p).1.map (e++ ·)/\(zV m q).2=(zV m p).2) (fun z=>s.length - z.1.at_.toNat) _ ?_
  ⟨q,[],rfl,D,by grind,by simp,rfl⟩
 rintro _ ⟨p,e,rfl,j,C,b,a⟩;simp only[Ig k j,Aa,Il,Pz,OG];cases p with
 |nil=>
  refine .inr (.inl ⟨_,rfl,?_⟩);rw[Um]at b a
  grind
 |cons c t=>
  have i:=j.length_le;rw[Ka]at i C;have n:=ah j;rw[qV]at b a;rw[show(c::t).isEmpty=false from rfl,Da,Ul,show((c.toNat:Int)==(m.toNat:Int))=(c==m)from fB c m,show atS (c::t) 0=c from rfl,kg k j];have f: ∀u:Str,u.length<=t.length->u<:+s->s.length - beh s u<s.length - beh s (c::t):=by intro u A F;unfold beh;rw[Ka];omega
  cases v:c==m with
  |true=>
   grind
  |false=>
   rw[v,Fa (by decide)]at b a;rw[Da];cases y:c==10 with
   |true=>
    grind
   |false=>
    rw[y,Fa (by decide)]at b a;rw[Da];cases l:c==92 with
    |false=> rw[l,Fa (by decide)]at b a;simp only[zx,Da,Aa,Pd,Us];rw[zA (Fg (by omega))];exact .inl ⟨_,rfl,⟨t,e++[c],rfl,n,by grind,by rw[b,NK],a⟩,f t (by omega) n⟩
    |true=>
     rw[l,Ia rfl]at b a;simp only[zx,Ea,Xq k j,Aa,Sb];have x:pk (c::t) 1=pk t 0:=rfl;rw[x,Il];cases t with
     |nil=>
      rw[show([]:Str).isEmpty=true from rfl,Ia rfl]at b a;have o:beh s [c]=s.length - 1:=rfl;have G:(if((s.length:Int)<w64 ((beh s [c]:Int)+2))then(s.length:Int)else w64 ((beh s [c]:Int)+2))=((beh s []:Nat):Int):=by rw[Zd (by omega) (by omega),Ia (by omega)];unfold beh;rw[Jb];omega
      refine .inl ⟨(sr s [],⟨0,[],0,[],false⟩,e),?_,⟨[],e,rfl,List.nil_suffix,by grind,by rw[b,Um],by rw[a,Um]⟩,f [] (by simp) List.nil_suffix⟩
      grind
     |cons d u=>
      rw[show(d::u).isEmpty=false from rfl,Fa (by decide)]at b a;simp only[show(d::u).isEmpty=false from rfl,Xa,Ea,Da,Aa,Pz];cases B:atS (d::u) 0==10 with
      |true=>
       rw[B,Ia rfl]at b a;have A:=ah n;rw[Ka]at i C;have o:beh s (c::d::u)=s.length - (u.length+1+1):=by unfold beh;rw[Ka,Ka]
       have G:(if((s.length:Int)<w64 ((beh s (c::d::u):Int)+2))then(s.length:Int)else w64 ((beh s (c::d::u):Int)+2))=((beh s u:Nat):Int):=by rw[Zd (by omega) (by omega),Fa (by omega)];unfold beh;rw[Ka,Ka];omega
       refine .inl ⟨(sr s u,⟨0,[],0,[],false⟩,e),?_,⟨u,e,rfl,A,by omega,b,a⟩,f u (by grind) A⟩
       grind
      |false=> rw[B,Fa (by decide)]at b a;have H:=Jt (d::u);have E:=zX (d::u);refine .inl ⟨(sr s (zo (d::u)).2,⟨0,[],0,[],false⟩,e++(zo (d::u)).1),?_,⟨_,_,rfl,(Z0 _).trans n,by grind,by rw[b,rA],a⟩,f _ E ((Z0 _).trans n)⟩;simp only[Da,TD k j (show e.length<=1000000000 by omega),Aa]
theorem MG{n:Nat}(l:n≠0)(h:n<16777216):Zw (w32 (n:Int))=some (Cg n):=by
 have j:zD 0 1 1=true:=Fg (by omega);have f:zD 0 2 1=true:=Fg (by omega);have d:zD 0 3 1=true:=Fg (by omega);have g:zD 0 4 1=true:=Fg (by omega);have c:(128+n%64)<256:=by omega
 have a:(128+n / 64%64)<256:=by omega
 have b:(128+n / 4096%64)<256:=by omega
 unfold Zw qb Cg;simp only[Dk (show n<2147483648 by omega),CJ (show n<2147483648 by omega),zg,shr6,JG,IG,TK,ZJ c,ZJ a,ZJ b,Aa];by_cases e:n<128
 ·rw[Ga (by omega),Ea,Cr,ZJ (by omega),Aa,zA j,Fa (by omega),Ia e,Tf (by omega)]
 ·rw[aa (by omega),Da];by_cases i:n<2048
  ·rw[Ga (by omega),Ea,pF (by omega),ZJ (by omega)];simp only[Aa];rw[zA f,Fa (by omega),Fa (by omega),Ia i];rfl
  ·rw[aa (by omega),Da];by_cases m:n<55296
   ·rw[Ga (by omega),Ea,zh];simp only[Ea];rw[Xu (by omega),ZJ (by omega)];simp only[Aa];rw[zA d,Fa (by omega),Fa (by omega),Fa (by omega),Ia (by omega)];rfl
   ·rw[aa (by omega),Da,zh];simp only[MH];by_cases k:57343<n/\n<65536
    ·rw[Ga (by omega),Ga (by omega),Sb,Ea,Xu (by omega),ZJ (by omega)];simp only[Aa];rw[zA d,Fa (by omega),Fa (by omega),Fa (by omega),Ia (by omega)];rfl
    ·rw[show(decide ((57343:Int)<(n:Int))&&decide ((n:Int)<=65535))=false by grind,Da];by_cases o:65535<n/\n<=1114111
     ·rw[Ga (by omega),Ga (by omega),Sb,Ea,TG (by omega),ZJ (by omega)];simp only[Aa];rw[zA g,Fa (by omega),Fa (by omega),Fa (by omega),Fa (by omega)];rfl
     ·rw[show(decide ((n:Int)>65535)&&decide ((n:Int)<=1114111))=false by grind,Da,zA d,Ia (by omega)];rfl
theorem WM:Zw 65533=some Rj:=by have h:=MG (n:=65533) (by omega) (by omega);rw[Dk (by omega)]at h;exact h
theorem KY{s l:Str}{c:UInt8}(hs:s.length<=big)(hr:c::l<:+s):
  Zh (sr s (c::l))=some (sr s (zo l).2,(zo l).1):=by
 have hl:=ah hr;unfold Zh;simp only[kg hs hr,zg,Ig hs hl,Aa,Il];cases l with
 |nil=> rw[show([]:Str).isEmpty=true from rfl,Ea,WM];rfl
 |cons d r=>
  rw[show(d::r).isEmpty=false from rfl,Da,Ou];simp only[Aa,ww];cases hx:qY (atS (d::r) 0)with
  |false=>
   rw[Xa,Ea,Ul,Us];simp only[Aa,kg hs hl];rw[zA (Fg (n:=0) (by omega))];have:zo (d::r)=([d],r):=by show(if qY d then _ else _)=_;rw[Fa (by rw[show qY d=false from hx];decide)]
   rw[this]
  |true=>
   rw[Ib,Da];have he:zo (d::r)=(Cg (hexes 6 0 (d::r)).1,unsp (hexes 6 0 (d::r)).2):=by show(if qY d then _ else _)=_;rw[Ia (show qY d=true from hx)]
   rw[he];rw[qD (kJ (l:=d::r) hl (fun n i q hq hn hi=> ?_))]
   ·have hq:(hexes 6 0 (d::r)).2<:+s:=(Et 6 0 _).trans hl;have hlt:=vC 6 0 (d::r);rw[show 16 ^ 6*(0+1)=16777216 from rfl]at hlt;simp only[Ig hs hq,Aa,Hr];have hj:(bif spB (atS (hexes 6 0 (d::r)).2 0)then some (LX.out (((hexes 6 0 (d::r)).1:Int),(⟨s,w64 ((beh s (hexes 6 0 (d::r)).2:Int)+1)⟩:za)))else some (LX.out (((hexes 6 0 (d::r)).1:Int),sr s (hexes 6 0 (d::r)).2)):Option (LX (Int×za) (za×List UInt8)))
      =some (LX.out (((hexes 6 0 (d::r)).1:Int),sr s (unsp (hexes 6 0 (d::r)).2))):=by
     cases hh:(hexes 6 0 (d::r)).2 with
     |nil=>rfl
     |cons e t=>
      rw[hh]at hq;rw[show atS (e::t) 0=e from rfl,kg hs hq];show _=some (LX.out (_,sr s (if spB e then t else e::t)))
      grind
    rw[hj,zh];simp only;by_cases h0:(hexes 6 0 (d::r)).1=0
    ·rw[h0,show((((0:Nat):Int))==0)=true from rfl,Ea,zh];simp only[Dk (show 65533<2147483648 by omega),show w32 (65533:Int)=65533 from Dk (n:=65533) (by omega),WM,Aa];rfl
    ·rw[show(((hexes 6 0 (d::r)).1:Int)==0)=false by grind,Da,zh];simp only[MG h0 hlt,Aa]
   ·simp only[Ig hs hq,Aa,Ou,ww];have hb6:decide ((i:Int)<6)=decide (i<6):=by rw[decide_eq_decide];omega
    rw[hb6];cases decide (i<6)with
    |false=>rfl
    |true=>
     rw[Ea,Ab];cases hx2:qY (atS q 0)with
     |false=>rfl
     |true=>
      cases q with
      |nil=>exact absurd hx2 (by decide)
      |cons e t=>
       have hI:hexI (atS (e::t) 0)=(hexN (atS (e::t) 0):Int):=by unfold hexI;rw[Ia hx2]
       rw[hI,TH hn (Hw hx2),kg hs hq,Zd (by omega) (by omega)];rfl
theorem Vs:badS []=[]:=by rw[badS]
theorem Vt(c:UInt8)(r:Str):badS (c::r)=if c==41 then r else if escS (c::r)then badS (zo r).2 else badS r:=by rw[badS]
theorem Ew(l:Str):badS l<:+l:=by
 match l with
 |[]=>rw[Vs];grind
 |c::r=>
  rw[Vt];have a:=Td c r;split
  ·exact a
  ·split
   ·have:=zX r;exact(Ew (zo r).2).trans ((Z0 r).trans a)
   ·exact(Ew r).trans a
termination_by l.length
decreasing_by
 all_goals grind
theorem WR{s t:Str}{c:UInt8}(e:s.length<=big)(h:c::t<:+s):geti s (w64 ((beh s t:Int) - 1))=some c:=by
 have f:big=4194304:=rfl;have b:=h.length_le;rw[Ka]at b;have d:=Vo h;have g:beh s t=beh s (c::t)+1:=by unfold beh;rw[Ka];omega
 have a:beh s (c::t)<s.length:=by unfold beh;rw[Ka];omega
 rw[Zd (by omega) (by omega),show(beh s t:Int) - 1=((beh s (c::t):Nat):Int) by omega,qI a];rw[ma a]at d
 grind
theorem badR{s q:Str}(e:s.length<=big)(j:q<:+s):Zu (sr s q)=some (⟨8,[],0,[],false⟩,sr s (badS q)):=by
 unfold Zu;refine JD ?_;refine ZT (fun z=> ∃(p:Str),z=(sr s p,(⟨0,[],0,[],false⟩:ze))/\p<:+s/\badS q=badS p) (fun z=>s.length - z.1.at_.toNat) _ ?_ ⟨q,rfl,j,rfl⟩;rintro _ ⟨p,rfl,b,g⟩;simp only[zg,Ig e b,Aa,Il];cases p with
 |nil=>exact .inr (.inr ⟨_,rfl,by rw[g,Vs]⟩)
 |cons c t=>
  have d:=b.length_le;rw[Ka]at d;have i:=ah b;have f: ∀u:Str,u.length<=t.length->u<:+s->s.length - beh s u<s.length - beh s (c::t):=by intro u l k;unfold beh;rw[Ka];omega
  rw[show(c::t).isEmpty=false from rfl,Da,jC e b];rw[Vt]at g;simp only[Aa];cases a:escS (c::t)with
  |true=>
   have h:(c==41)=false:=by unfold escS at a;rw[Ca,Db]at a;rw[show c=92 from a.1];decide
   rw[a,h,Fa (by decide),Ia rfl]at g;rw[Ea,KY e b];exact .inl ⟨_,rfl,⟨_,rfl,(Z0 t).trans i,g⟩,f _ (zX t) ((Z0 t).trans i)⟩
  |false=>
   rw[Da,kg e b,WR e b];simp only[Aa];rw[show((c.toNat:Int)==41)=(c==41)from fB c 41]
   grind
theorem ol:urlS []=(some [],[]):=by rw[urlS]
theorem Jj(c:UInt8)(r:Str):urlS (c::r)=if c==41 then(some [],r)
  else if spB c then(match past spB r with
   |[]=>(some [],[])
   |d::a=>if d==41 then(some [],a)else(none,badS (d::a)))
  else if c==34||c==39||c==40||unB c||c==92&& !escS (c::r)then(none,badS (c::r))
  else if c==92 then((urlS (zo r).2).1.map ((zo r).1++ ·),(urlS (zo r).2).2)
  else((urlS r).1.map (c:: ·),(urlS r).2):=by rw[urlS];grind
theorem Yn(l:Str):(urlS l).2<:+l:=by
 match l with
 |[]=>rw[ol];grind
 |c::r=>
  rw[Jj];have a:=Td c r;split
  ·exact a
  ·split
   ·have b:=(Pk spB r).trans a;cases e:past spB r with
    |nil=>grind
    |cons d f=>
     rw[e]at b;simp only;split
     ·exact(Td d f).trans b
     ·exact(Ew _).trans b
   ·split
    ·exact Ew _
    ·split
     ·have:=zX r;exact(Yn (zo r).2).trans ((Z0 r).trans a)
     ·exact(Yn r).trans a
termination_by l.length
decreasing_by
 all_goals grind
def Gi:Option Str->ze
 |some t=>⟨7,t,0,[],false⟩
 |none=>⟨8,[],0,[],false⟩
theorem fQ(c:UInt8): ∃y,zx (!(bif bif bif bif (c.toNat:Int)==34 then true else(c.toNat:Int)==39 then true else(c.toNat:Int)==40 then true else decide ((c.toNat:Int)<=8)then true else(c.toNat:Int)==11)) (ZO ((c.toNat:Int),14,31)) (default:Bool)=some y/\
  (bif bif bif bif bif bif (c.toNat:Int)==34 then true else(c.toNat:Int)==39 then true else(c.toNat:Int)==40 then true else decide ((c.toNat:Int)<=8)then true else(c.toNat:Int)==11 then true else y then true else(c.toNat:Int)==127)=(c==34||c==39||c==40||unB c):=by
 have a: ∀n:Nat,n<256->((zx (!(bif bif bif bif (n:Int)==34 then true else(n:Int)==39 then true else(n:Int)==40 then true else decide ((n:Int)<=8)then true else(n:Int)==11)) (ZO ((n:Int),14,31)) (default:Bool)).elim false fun y=>
  (bif bif bif bif bif bif (n:Int)==34 then true else(n:Int)==39 then true else(n:Int)==40 then true else decide ((n:Int)<=8)then true else(n:Int)==11 then true else y then true else(n:Int)==127)==(UInt8.ofNat n==34||UInt8.ofNat n==39||UInt8.ofNat n==40||unB (UInt8.ofNat n)))=true:=by decide+kernel
 have h:=a c.toNat (Bb c);rw[Md]at h;cases b:zx (!(bif bif bif bif (c.toNat:Int)==34 then true else(c.toNat:Int)==39 then true else(c.toNat:Int)==40 then true else decide ((c.toNat:Int)<=8)then true else(c.toNat:Int)==11)) (ZO ((c.toNat:Int),14,31)) (default:Bool)with
 |none=>grind
 |some y=>
  grind
theorem ry(c:UInt8)(t:Str):(pk (c::t) 0== -1)=false:=by rw[Il];rfl
theorem urlR{s w:Str}(f:s.length<=big)(v:w<:+s):Z8 (sr s w)=some (Gi (urlS (past spB w)).1,sr s (urlS (past spB w)).2):=by
 have L:big=4194304:=rfl;unfold Z8;rw[lu f v];simp only[zg,Aa];have E:=ul spB v;generalize past spB w=q at E ⊢;refine JD ?_;refine ZT (fun z=> ∃(p e:Str),z=(sr s p,(⟨0,[],0,[],false⟩:ze),e)/\p<:+s/\e.length+4*p.length<=4*s.length/\(urlS q).1=(urlS p).1.map (e++ ·)/\(urlS q).2=(urlS p).2) (fun z=>s.length - z.1.at_.toNat) _ ?_
  ⟨q,[],rfl,E,by grind,by simp,rfl⟩
 rintro _ ⟨p,e,rfl,h,G,b,a⟩;simp only[Ig f h,Aa,Hr];cases p with
 |nil=> refine .inr (.inr ⟨_,rfl,?_⟩);rw[ol]at b a;rw[b,a];simp only[lc,Cb,Gi]
 |cons c t=>
  have m:=h.length_le;rw[Ka]at m G;have r:=ah h;have k: ∀u:Str,u.length<=t.length->u<:+s->s.length - beh s u<s.length - beh s (c::t):=by intro u M J;unfold beh;rw[Ka];omega
  rw[Jj]at b a;rw[show atS (c::t) 0=c from rfl];cases j:spB c with
  |true=>
   have i:(c==41)=false:=by rw[Ja];rintro rfl;exact absurd j (by decide)
   rw[i,j,Fa (by decide),Ia rfl]at b a;have D:past spB (c::t)=past spB t:=by rw[past,Ia j]
   have g:past spB t<:+s:=ul spB r;rw[Ea,lu f h,D];simp only[Aa,Ig f g];cases o:past spB t with
   |nil=> rw[o]at b a;refine .inr (.inr ⟨_,rfl,?_⟩);simp only at b a;rw[b,a];simp only[lc,Cb,Gi]
   |cons d F=>
    rw[o]at b a g;simp only at b a;unfold bne;rw[Oz,ry,show atS (d::F) 0=d from rfl];cases C:d==41 with
    |true=> rw[C,Ia rfl]at b a;refine .inr (.inr ⟨_,?_,rfl⟩);simp only[Ib,Da,zh,ry,Oz,show atS (d::F) 0=d from rfl,C,Ea,kg f g];rw[b,a];simp only[lc,Cb,Gi]
    |false=> rw[C,Fa (by decide)]at b a;refine .inr (.inr ⟨_,?_,rfl⟩);simp only[Xa,Ea,badR f g,Aa,zsw];rw[b,a];rfl
  |false=>
   rw[Da,zh];simp only[ry,Oz,show atS (c::t) 0=c from rfl,Da,kg f h];cases i:c==41 with
   |true=> rw[i,Ia rfl]at b a;refine .inr (.inr ⟨_,by rw[Ea],?_⟩);rw[b,a];simp only[lc,Cb,Gi]
   |false=>
    rw[i,Fa (by decide),j,Fa (by decide)]at b a;rw[Da];obtain⟨y,B,A⟩:=fQ c;rw[Ul,B];simp only[Aa];rw[A];cases x:(c==34||c==39||c==40||unB c)with
    |true=> rw[x,Ae,Ia rfl]at b a;refine .inr (.inr ⟨_,?_,rfl⟩);rw[Ea,badR f h];simp only[Aa];rw[b,a];rfl
    |false=>
     rw[x,xc]at b a;rw[Da];unfold bne;rw[show((c.toNat:Int)==92)=(c==92)from fB c 92];cases n:c==92 with
     |false=> rw[n,Nb,Fa (by decide),Fa (by decide)]at b a;rw[Xa,Ea,Us];simp only[Aa];rw[zA (Fg (by omega))];exact .inl ⟨_,rfl,⟨t,e++[c],rfl,r,by grind,by rw[b,NK],a⟩,k t (Ua _) r⟩
     |true=>
      rw[n,Ab]at b a;rw[Ib,Da,jC f h];simp only[Aa];cases l:escS (c::t)with
      |true=> rw[l,Ib,Fa (by decide),Ia rfl]at b a;have K:=Jt t;have H:=zX t;refine .inl ⟨(sr s (zo t).2,⟨0,[],0,[],false⟩,e++(zo t).1),?_,⟨_,_,rfl,(Z0 _).trans r,by grind,by rw[b,rA],a⟩,k _ H ((Z0 _).trans r)⟩;simp only[Ea,TD f h (show e.length<=1000000000 by omega),Aa]
      |false=> rw[l,Xa,Ia rfl]at b a;refine .inr (.inr ⟨_,?_,rfl⟩);rw[Da,badR f h];simp only[Aa];rw[b,a];rfl
def hdB(b:UInt8):Bool:=b==45||fstB b||b==92
theorem dm{q:Str}(h:nmS q=true):hdB (atS q 0)=true:=by
 unfold nmS at h;unfold hdB;cases a:atS q 0==45 with
 |true=>rfl
 |false=>
  rw[a,Fa (by decide),Jc]at h;rcases h with h|h
  ·rw[h];rfl
  ·unfold escS at h
   grind
theorem oq{b:UInt8}(h:hdB b=true):spB b=false/\(b==34)=false/\(b==39)=false/\(b==35)=false/\(b==64)=false/\(b==47)=false/\(b==60)=false/\(b==43)=false/\(b==46)=false/\digB b=false/\b≠0:=by
 have: ∀n:Nat,n<256->hdB (UInt8.ofNat n)=true->spB (UInt8.ofNat n)=false/\(UInt8.ofNat n==34)=false/\(UInt8.ofNat n==39)=false/\(UInt8.ofNat n==35)=false/\(UInt8.ofNat n==64)=false/\(UInt8.ofNat n==47)=false/\(UInt8.ofNat n==60)=false/\(UInt8.ofNat n==43)=false/\(UInt8.ofNat n==46)=false/\digB (UInt8.ofNat n)=false/\UInt8.ofNat n≠0:=by decide+kernel
 have:=this b.toNat (Bb b);simp_all
theorem uF{q:Str}(h:nmS q=true):nbS q=false:=by
 obtain⟨_,_,_,_,_,_,_,a,j,f,_⟩:=oq (dm h);unfold nbS unsign Jf;rw[a,xc];cases b:atS q 0==45 with
 |false=>
  rw[Fa (by decide)];unfold undot
  grind
 |true=>
  rw[Ia rfl];unfold nmS at h;rw[b,Ia rfl]at h;have i:hdB (atS q 1)=true:=by
   unfold hdB;cases e:fstB (atS q 1)with
   |true=>simp
   |false=>
    cases g:atS q 1==45 with
    |true=>rfl
    |false=> rw[e,g,xc,xc]at h;unfold escS at h;rw[Ca,Ql]at h;rw[h.1];rfl
  obtain⟨_,_,_,_,_,_,_,_,d,c,_⟩:=oq i;unfold undot;rw[Ql,d,Fa (by decide),Ql,c]
theorem aG{s r:Str}:(decide ((0:Int)<=(beh s r:Int))&&decide ((beh s r:Int)<=(s.length:Int)))=true:=by
 have:=ji s r
 grind
theorem UA{s r:Str}(a:r<:+s):List.drop ((beh s r:Int)).toNat s=r:=by rw[Va,Vo a]
theorem gz{a b:UInt8}{m t:Str}(h:(b==a)=false):(a::m).isPrefixOf (b::t)=false:=by
 grind
theorem vQ{a:UInt8}{m q:Str}(c:a≠0)(h:(atS q 0==a)=false):(a::m).isPrefixOf q=false:=by
 cases q with
 |nil=>rfl
 |cons b t=>exact gz h
def capF(cap:Nat):Nat->Str->Nat
 |n,[]=>n
 |n,c::r=>capF cap (min cap (decN n c)) r
theorem kL(cap:Nat): ∀(l:Str) (n:Nat) (c:UInt8),capF cap n (l++[c])=min cap (decN (capF cap n l) c)
 |[],_,_=>rfl
 |d::l,n,c=>by show capF cap (min cap (decN n d)) (l++[c])=_;rw[kL cap l];rfl
theorem Cw(cap:Nat): ∀(l:Str) (n:Nat),n<=cap->capF cap n l<=cap
 |[],_,h=>h
 |c::l,n,_=>Cw cap l _ (Nat.min_le_left ..)
theorem sJ {R:Type} {step:Int×Int->Option (LO (Int×Int) Int R)} {l:Str} {cap:Nat} (b:l.all digB=true) (j:l.length<=100000) (f:cap<=1000000000000)
  (a: ∀(v:Int) (i:Nat) (hi:i<l.length),step (v,(i:Int))=some (.again (if(cap:Int)<w64 (w64 (10*v)+w64 (wu8 ((l[i].toNat:Int) - 48)))then(cap:Int)else w64 (w64 (10*v)+w64 (wu8 ((l[i].toNat:Int) - 48))),w64 ((i:Int)+1))))
  (h2: ∀v:Int,step (v,(l.length:Int))=some (.out v)):Dg step (0,0)=some (.out ((capF cap 0 l:Nat):Int)):=by
 refine ZT (fun s=> ∃i:Nat,i<=l.length/\s=(((capF cap 0 (l.take i):Nat):Int),(i:Int))) (fun s=>l.length - s.2.toNat) _ ?_ ⟨0,by omega,rfl⟩;rintro _ ⟨i,hi,rfl⟩;rcases Yc i l.length with h|h
 ·refine .inl ⟨_,a _ i h,⟨i+1,by omega,?_⟩,by simp only;rw[Zd (by omega) (by omega)];omega⟩;have e:=yo (Rb.1 b _ (Gd h));have d:capF cap 0 (l.take (i+1))=min cap (decN (capF cap 0 (l.take i)) l[i]):=by rw[Gc h,kL]
  have g:=Cw cap (l.take i) 0 (Vb _);have c:wu8 ((l[i].toNat:Int) - 48)=((l[i].toNat - 48:Nat):Int):=by show IntKind.u8.wrap _=_;rw[IntKind.wrap_u8];omega
  unfold decN at d;rw[c,Zd (n:=10*_) (by omega) (by omega),Zd (n:=((l[i].toNat - 48:Nat):Int)) (by omega) (by omega),Zd (n:=(i:Int)+1) (by omega) (by omega),Zd (by omega) (by omega)];refine Prod.ext ?_ ?_
  ·grind
  ·grind
 grind
theorem PL: ∀(k n:Nat),n<=mg->Jh k n<=mg
 |0,_,h=>h
 |k+1,n,h=>by
  unfold Jh;split
  ·exact h
  ·exact PL k _ (Nat.min_le_left ..)
theorem PZ {R:Type} {step:Int×Int->Option (LO (Int×Int) Int R)} {v:Nat} {p:Int} (n:p<=4000000) (d: -4000000<=p) (i:v<=1000000000000)
  (h: ∀(a b:Int),step (a,b)=bif bif bif decide (a>0)then decide (b>0)else false then decide (b<1000000000000)else false then some (.again (w64 (a - 1),if 1000000000000<w64 (10*b)then 1000000000000 else w64 (10*b)))else some (.out b)):
  Dg step (p,(v:Int))=some (.out ((Jh p.toNat v:Nat):Int)):=by
 have o:mg=1000000000000:=rfl;refine ZT (fun s=> ∃(a:Int) (b:Nat),s=(a,(b:Int))/\a<=4000000/\ -4000000<=a/\b<=1000000000000/\Jh a.toNat b=Jh p.toNat v) (fun s=>s.1.toNat) _ ?_ ⟨p,v,rfl,n,d,i,rfl⟩;rintro _ ⟨a,b,rfl,r,f,q,c⟩;rw[h];by_cases e:a>0
 ·obtain⟨k,l⟩: ∃k,a.toNat=k+1:=⟨a.toNat - 1,by omega⟩;rw[l,Jh]at c;rw[Ga e,Ea];by_cases g:b=0\/mg<=b
  ·grind
  ·rw[Fa g]at c;have m:decide (((b:Nat):Int)>0)=true:=Ga (by omega);have j:decide (((b:Nat):Int)<1000000000000)=true:=Ga (by omega);rw[m,Ea,j,Ea];refine .inl ⟨_,rfl,⟨a - 1,min mg (10*b),?_,by omega,by omega,by omega,?_⟩,by simp only;rw[Zd (by omega) (by omega)];omega⟩
   ·rw[Zd (by omega) (by omega),Zd (by omega) (by omega)]
    grind
   grind
 ·rw[aa e,Da];refine .inr (.inl ⟨_,rfl,?_⟩);rw[<-c,show a.toNat=0 by omega];rfl
structure NumP where
 sg:Str
 D:Str
 F:Option Str
 X:Option (UInt8×Str×Str)
def dotS:Option Str->Str
 |none=>[]
 |some f=>46::f
def expT:Option (UInt8×Str×Str)->Str
 |none=>[]
 |some (e,s,x)=>e::(s++x)
def NumP.txt(n:NumP):Str:=n.sg++(n.D++(dotS n.F++expT n.X))
def sgB(s:Str):Bool:=s==[]||s==[43]||s==[45]
def NumP.ok(n:NumP):Bool:=sgB n.sg&&n.D.all digB&&(match n.F with|none=> !n.D.isEmpty|some f=> !f.isEmpty&&f.all digB)&&
 (match n.X with|none=>true|some (e,s,x)=>(e==101||e==69)&&sgB s&& !x.isEmpty&&x.all digB)
def expV:Option (UInt8×Str×Str)->Int
 |none=>0
 |some (_,s,x)=>if s==[45]then -((capF 1048576 0 x:Nat):Int)else((capF 1048576 0 x:Nat):Int)
def thoV(A:Str)(p:Int):Nat:=Jh p.toNat (capF mg 0 (if p<0 then A.take ((A.length:Int)+p).toNat else A))
def NumP.val(n:NumP):Int:=
 let v:=thoV (n.D++n.F.getD []) (3+expV n.X - ((n.F.getD []).length:Int))
 if n.sg==[45]then -(v:Int)else(v:Int)
theorem Ww{s:Str}(h:sgB s=true):s=[]\/s=[43]\/s=[45]:=by
 unfold sgB at h
 grind
theorem iH{s q:Str}(h:sgB s=true)(b: ∀c r,q=c::r->List.contains [43,45] c=false):Lib.trimLeftS (s++q) [43,45]=q:=by
 have a:Lib.trimLeftS q [43,45]=q:=by
  unfold Lib.trimLeftS;cases q with
  |nil=>rfl
  |cons c r=>simp_all
 rcases Ww h with rfl|rfl|rfl
 ·exact a
 ·show List.dropWhile _ (43::q)=_;rw[De];exact a
 ·show List.dropWhile _ (45::q)=_;rw[De];exact a
theorem oI{e:UInt8}(he:e=101\/e=69)(t:Str): ∀(l:Str),(l.all fun b=>digB b||b==46)=true->Lib.indexAny (l++e::t) [101,69]=(l.length:Int)
 |[],_=>by
  rw[Xb,Lib.indexAny]
  grind
 |c::l,h=>by
  rw[Nc,Ca]at h;have hc:List.contains [101,69] c=false:=by
   have: ∀n:Nat,n<256->(digB (UInt8.ofNat n)||UInt8.ofNat n==46)=true->List.contains [101,69] (UInt8.ofNat n)=false:=by decide+kernel
   have:=this c.toNat (Bb c);rw[Md]at this;exact this h.1
  rw[Ta,Lib.indexAny,hc,oI he t l h.2]
  grind
theorem BH{l:Str}(h:l.all digB=true):(l.all fun b=>digB b||b==46)=true:=by
 grind
theorem Ws{l:Str}(h: ∀b∈l,b.toNat<128):Kg l=true:=by
 unfold Kg
 grind
theorem LV{l:Str}(h:Kg l=true): ∀b∈l,b.toNat<128:=by
 unfold Kg at h
 grind
theorem rT{D:Str}(a:D.all digB=true)(F:Option Str): ∃f,Lib.cut (D++dotS F) [46]=(D,F.getD [],f):=by
 unfold Lib.cut;rw[yx];cases F with
 |none=> rw[show dotS none=[]from rfl,Cb,BB _ a,Fa (by decide)];simp_all
 |some g=> rw[show dotS (some g)=46::g from rfl,CB _ _ a,Ia (by omega)];simp_all
theorem KJ {D:Str} {F:Option Str} {E:Int} (w:D.all digB=true) (y:(F.getD []).all digB=true) (R:D.length+(F.getD []).length<=50000) (Q:E<=2000000) (C: -2000000<=E) (s:UInt8) (r:Str)
  (M:((s.toNat:Int)==45)=(r==[45])) (u:short (D++dotS F)=true):
  (zg (cutF (D++dotS F,[46])) fun c=>
 need (df c.1.length c.2.1.length)<|
 zY (X:=Str×Int) (
   bif decide (w64 ((3+E) - (c.2.1.length:Int))<0)then
    need (decide (0<=(if w64 (((c.1++c.2.1).length:Int)+w64 ((3+E) - (c.2.1.length:Int)))>0 then w64 (((c.1++c.2.1).length:Int)+w64 ((3+E) - (c.2.1.length:Int)))else 0))&&decide ((if w64 (((c.1++c.2.1).length:Int)+w64 ((3+E) - (c.2.1.length:Int)))>0 then w64 (((c.1++c.2.1).length:Int)+w64 ((3+E) - (c.2.1.length:Int)))else 0)<=((c.1++c.2.1).length:Int)))<|
    some (LX.out (List.take (if w64 (((c.1++c.2.1).length:Int)+w64 ((3+E) - (c.2.1.length:Int)))>0 then w64 (((c.1++c.2.1).length:Int)+w64 ((3+E) - (c.2.1.length:Int)))else 0).toNat (c.1++c.2.1),w64 ((3+E) - (c.2.1.length:Int))))
   else
    some (LX.out (c.1++c.2.1,w64 ((3+E) - (c.2.1.length:Int))))) fun j=>
 need (decide (j.1.length<=maxLen))<|
 ZR (fun(d:Int×Int)=>
   bif decide (d.2<(j.1.length:Int))then
    need (decide (0<=d.2)&&decide (d.2<(j.1.length:Int)))<|
    zg j.1[d.2.toNat]? fun g=>
    some (LO.again (if 1000000000000<w64 (w64 (10*d.1)+w64 (wu8 ((g.toNat:Int) - 48)))then 1000000000000 else w64 (w64 (10*d.1)+w64 (wu8 ((g.toNat:Int) - 48))),w64 (d.2+1)))
   else
    some (LO.out d.1):Int×Int->Option (LO (Int×Int) (Int) _)) (0,0) fun l=>
 ZR (fun(e:Int×Int)=>
   bif bif bif decide (e.1>0)then decide (e.2>0)else false then decide (e.2<1000000000000)else false then
    some (LO.again (w64 (e.1 - 1),if 1000000000000<w64 (10*e.2)then 1000000000000 else w64 (10*e.2)))
   else
    some (LO.out e.2):Int×Int->Option (LO (Int×Int) (Int) _)) (j.2,l) fun h=>
 zY (X:=Int) (
   bif (s.toNat:Int)==45 then
    some (LX.out (w64 (0 - h)))
   else
    some (LX.out h)) fun k=>
 some k)=some (if r==[45]then -((thoV (D++F.getD []) (3+E - ((F.getD []).length:Int)):Nat):Int)else((thoV (D++F.getD []) (3+E - ((F.getD []).length:Int)):Nat):Int)):=by
 obtain⟨f,m⟩:=rT w F;have O:cutF (D++dotS F,[46])=some (D,F.getD [],f):=by unfold cutF;rw[zA (by exact u)];exact congrArg some m
 have x:maxLen=9223372036854775807:=rfl;have t:mg=1000000000000:=rfl;simp only[zg,O,Aa];generalize F.getD []=G at*;rw[zA (Kj.2 (by omega))];obtain⟨p,L⟩: ∃p:Int,p=3+E - (G.length:Int):=⟨_,rfl⟩;rw[<-L,Zd (n:=p) (by omega) (by omega)];have S:(D++G).all digB=true:=by rw[List.all_append,w,y];rfl
 have K:(D++G).length<=50000:=by rw[Ha];omega
 generalize D++G=A at*;have H: ∀B:Str,B.all digB=true->B.length<=50000->(need (decide (B.length<=maxLen))<|
 ZR (fun(d:Int×Int)=>
   bif decide (d.2<(B.length:Int))then
    need (decide (0<=d.2)&&decide (d.2<(B.length:Int)))<|
    (B[d.2.toNat]?).bind fun g=>
    some (LO.again (if 1000000000000<w64 (w64 (10*d.1)+w64 (wu8 ((g.toNat:Int) - 48)))then 1000000000000 else w64 (w64 (10*d.1)+w64 (wu8 ((g.toNat:Int) - 48))),w64 (d.2+1)))
   else
    some (LO.out d.1):Int×Int->Option (LO (Int×Int) (Int) _)) (0,0) fun l=>
 ZR (fun(e:Int×Int)=>
   bif bif bif decide (e.1>0)then decide (e.2>0)else false then decide (e.2<1000000000000)else false then
    some (LO.again (w64 (e.1 - 1),if 1000000000000<w64 (10*e.2)then 1000000000000 else w64 (10*e.2)))
   else
    some (LO.out e.2):Int×Int->Option (LO (Int×Int) (Int) _)) (p,l) fun h=>
 zY (X:=Int) (
   bif (s.toNat:Int)==45 then
    some (LX.out (w64 (0 - h)))
   else
    some (LX.out h)) fun k=>
 some k)=some (if r==[45]then -((Jh p.toNat (capF mg 0 B):Nat):Int)else((Jh p.toNat (capF mg 0 B):Nat):Int)):=by
  intro B J z;have o:=Cw mg B 0 (Vb _);rw[zA (Ga (by omega))];rw[qD (sJ (cap:=mg) J (by omega) (by omega) (fun v i U=> ?_) (fun v=> ?_))]
  ·have N:=PL p.toNat _ o;rw[qD (PZ (by omega) (by omega) (by omega) (fun a b=> ?_)),M]
   ·cases T:r==[45]with
    |true=> rw[Ea,zh,Zd (by omega) (by omega),Ia rfl];congr 1;omega
    |false=>simp_all
   ·simp only
  ·simp_all
  ·grind
 unfold thoV;by_cases q:p<0
 ·rw[Ga q,Ea,Ia q];have P:(if w64 ((A.length:Int)+p)>0 then w64 ((A.length:Int)+p)else 0)=((((A.length:Int)+p).toNat:Nat):Int):=by rw[Zd (by omega) (by omega)];split<;>omega
  rw[P,zA (by grind),zh,Va]
  grind
 ·rw[aa q,Da,Fa q,zh]
  grind
theorem uO{n:NumP}(h:n.ok=true)(hl:n.txt.length<=40000):Zv n.txt=some n.val:=by
 obtain⟨sg,D,F,X⟩:=n;unfold NumP.ok at h;simp only[Ca]at h;obtain⟨⟨⟨hsg,hD⟩,hFo⟩,hX⟩:=h;have hF:(F.getD []).all digB=true:=by
  cases F with
  |none=>rfl
  |some f=>grind
 have hne:D++dotS F≠[]:=by
  cases F with
  |none=>simp_all
  |some f=>simp[dotS]
 have hpar:((D++dotS F).all fun b=>digB b||b==46)=true:=by
  rw[List.all_append,BH hD];cases F with
  |none=>rfl
  |some f=>rw[show dotS (some f)=46::f from rfl,Nc,BH (show f.all digB=true from hF)];rfl
 have hlen:sg.length+(D.length+((dotS F).length+(expT X).length))<=40000:=by
  have:(NumP.txt ⟨sg,D,F,X⟩).length=sg.length+(D.length+((dotS F).length+(expT X).length)):=by unfold NumP.txt;simp only[Ha]
  omega
 have hFl:(F.getD []).length<=(dotS F).length:=by
  cases F with
  |none=>grind
  |some f=>show f.length<=(46::f).length;grind
 have hhead: ∀c r,D++(dotS F++expT X)=c::r->List.contains [43,45] c=false:=by
  rw[<-Oa];intro c r e;cases hq:D++dotS F with
  |nil=>grind
  |cons d q=>
   rw[hq,Ta]at e;injection e with e1 _;subst e1;rw[hq,Nc,Ca,Jc]at hpar;rcases hpar.1 with hd|hd
   ·exact(QP hd).2.2.2.2
   grind
 have hy1: ∃b,geti (NumP.txt ⟨sg,D,F,X⟩) 0=some b/\(((b.toNat:Int)==45)=(sg==[45])):=by
  unfold NumP.txt;show∃b,geti (sg++(D++(dotS F++expT X))) 0=some b/\_;rcases Ww hsg with rfl|rfl|rfl
  ·cases hq:D++(dotS F++expT X)with
   |nil=>simp_all
   |cons c r=>
    refine⟨c,rfl,?_⟩;have:=hhead c r hq;refine Ja.2 (fun e=> ?_);have:c=45:=Pe.1 (by grind)
    grind
  ·exact⟨43,rfl,rfl⟩
  ·exact⟨45,rfl,rfl⟩
 obtain⟨y1,hg,hyy⟩:=hy1;have t1:Ih (NumP.txt ⟨sg,D,F,X⟩,[43,45])=some (D++(dotS F++expT X)):=by unfold Ih;rw[zA (show(short ([43,45]:Str)&&Kg [43,45])=true by decide)];exact congrArg some (iH hsg hhead)
 unfold Zv;simp only[zg,hg,t1,Aa];have hsh:short (D++dotS F)=true:=Ga (by grind);have hasc:Kg (D++dotS F)=true:=mI hpar;cases X with
 |none=>
  have t2:Qv (D++(dotS F++expT none),[101,69])=some (-1):=by show Qv (D++(dotS F++[]),[101,69])=_;rw[Cb];unfold Qv;rw[zA (by simp only[hsh,hasc,Sb,Ab];decide)];exact congrArg some (iB _ hpar)
  simp only[t2,Aa,show decide ((-1:Int)>=0)=false from rfl,Da,zh];rw[show D++(dotS F++expT none)=D++dotS F by show D++(dotS F++[])=_;grind];have:=KJ (E:=0) hD hF (by omega) (by omega) (by omega) y1 sg hyy hsh;exact this
 |some ex=>
  obtain⟨e,s,x⟩:=ex;simp only[Ca]at hX;obtain⟨⟨⟨he,hs⟩,hxne⟩,hx⟩:=hX;have he':e=101\/e=69:=by rw[Jc,Db,Db]at he;exact he
  have hexl:(expT (some (e,s,x))).length=1+(s.length+x.length):=by show(e::(s++x)).length=_;rw[Ka,Ha];omega
  have hass:D++(dotS F++expT (some (e,s,x)))=(D++dotS F)++e::(s++x):=by rw[<-Oa];rfl
  have hasx:Kg ((D++dotS F)++e::(s++x))=true:=by
   refine Ws (fun b hb=> ?_);rcases Ed.1 hb with hb|hb
   ·exact LV hasc b hb
   ·rcases Kb.1 hb with hb|hb
    ·subst hb;rcases he' with rfl|rfl<;>decide
    ·rcases Ed.1 hb with hb|hb
     ·rcases Ww hs with rfl|rfl|rfl
      ·cases hb
      ·simp_all
      simp_all
     ·have:=yo (Rb.1 hx b hb);omega
  have hlt:((D++dotS F)++e::(s++x)).length<=40000:=by rw[Ha,Ka,Ha,Ha];omega
  have t2:Qv (D++(dotS F++expT (some (e,s,x))),[101,69])=some ((D++dotS F).length:Int):=by rw[hass];unfold Qv;show need (short ((D++dotS F)++e::(s++x))&&short [101,69]&&Kg ((D++dotS F)++e::(s++x))&&Kg [101,69]) _=_;rw[show short ((D++dotS F)++e::(s++x))=true from Ga (by omega),hasx];exact congrArg some (oI he' (s++x) _ hpar)
  have hdrop:List.drop (D++dotS F).length ((D++dotS F)++e::(s++x))=e::(s++x):=List.drop_left;have hdrop1:List.drop ((D++dotS F).length+1) ((D++dotS F)++e::(s++x))=s++x:=by rw[<-Ve,hdrop];rfl
  have hd0:(D++dotS F).length<=40000:=by rw[Ha];omega
  have hw1:w64 (((D++dotS F).length:Int)+1)=(((D++dotS F).length+1:Nat):Int):=by rw[Zd (by omega) (by omega)];omega
  simp only[t2,Aa];rw[Ga (show(((D++dotS F).length:Nat):Int)>=0 by omega),Ea,hw1,hass];have hlt2:(D++dotS F).length+1<=((D++dotS F)++e::(s++x)).length:=by rw[Ha (bs:=e::(s++x)),Ka];omega
  rw[zA (by grind),Va,hdrop1];have hxh: ∀c r,x=c::r->List.contains [43,45] c=false:=by intro c r e;subst e;rw[Nc,Ca]at hx;exact(QP hx.1).2.2.2.2
  have t4:Ih (s++x,[43,45])=some x:=by unfold Ih;rw[zA (show(short ([43,45]:Str)&&Kg [43,45])=true by decide)];exact congrArg some (iH hs hxh)
  have hxl:x.length<=40000:=by omega
  have hml:maxLen=9223372036854775807:=rfl;simp only[t4,Aa];rw[zA (Ga (by omega))];have hcap:=Cw 1048576 x 0 (Vb _);rw[qD (sJ (cap:=1048576) hx (by omega) (by omega) (fun v i hi=> ?_) (fun v=> ?_))]
  ·have hg8: ∃y8,geti ((D++dotS F)++e::(s++x)) (((D++dotS F).length+1:Nat):Int)=some y8/\(((y8.toNat:Int)==45)=(s==[45])):=by
    have hgg: ∀(b:UInt8) (r:Str),s++x=b::r->geti ((D++dotS F)++e::(s++x)) (((D++dotS F).length+1:Nat):Int)=some b:=by
     intro b r e1;unfold geti;have:((D++dotS F)++e::(s++x))[(D++dotS F).length+1]? =some b:=by rw[Ng (by omega),show(D++dotS F).length+1 - (D++dotS F).length=1 by omega,Ue,e1];rfl
     rw[Va,this,Ga (by omega)];rfl
    rcases Ww hs with rfl|rfl|rfl
    ·cases hxx:x with
     |nil=>grind
     |cons c r=>
      refine⟨c,by grind,?_⟩;have:=hxh c r hxx;refine Ja.2 (fun e=> ?_);have h45:c=45:=Pe.1 (by grind)
      grind
    ·grind
    ·grind
   obtain⟨y8,h8,h8'⟩:=hg8;simp only[h8,Aa];rw[h8'];have hj:(bif s==[45]then(some (LX.out ((D++dotS F)++e::(s++x),3,w64 (0 - ((capF 1048576 0 x:Nat):Int)))):Option (LX (Str×Int×Int) (LX (Str×Int) Int)))else some (LX.out ((D++dotS F)++e::(s++x),3,((capF 1048576 0 x:Nat):Int))))
     =some (LX.out ((D++dotS F)++e::(s++x),3,expV (some (e,s,x)))):=by
    unfold expV;simp only;cases s==[45]with
    |true=>rw[Ea,Ia rfl,Zd (by omega) (by omega)];simp
    |false=>grind
   have hEb:expV (some (e,s,x))<=1048576/\ -1048576<=expV (some (e,s,x)):=by unfold expV;simp only;split<;>omega
   refine(congrArg (fun o=>zY (zY o _) _) hj).trans ?_;simp only[zh];rw[show decide ((((D++dotS F).length:Nat):Int)<=((((D++dotS F)++e::(s++x)).length:Nat):Int))=true from Ga (by omega),zA (by rfl)];simp only[zh,Va,List.take_left];rw[Zd (by omega) (by omega)];exact KJ (E:=expV (some (e,s,x))) hD hF (by omega) (by omega) (by omega) y1 sg hyy hsh
  ·simp_all
  ·grind
theorem Sk {S X R:Type} {step:S->Option (LO S X R)} {k:X->Option R} (Inv:S->Prop) (b:S->Nat) (y:R)
  (h: ∀s,Inv s->(∃s',step s=some (.again s')/\Inv s'/\b s'<b s)\/(∃x,step s=some (.out x)/\k x=some y)\/step s=some (.ret y)) {s:S} (d:Inv s):ZR step s k=some y:=by
 have c: ∀(m:Nat) (s:S),b s<m->Inv s-> ∃r:LX X R,Qo step m s=some r/\r.go k=some y:=by
  intro m
  induction m with
  |zero=>intro s h;omega
  |succ m i=>
   intro s f d;simp only[Qo];rcases h s d with⟨s',a,e,g⟩|⟨x,a,e⟩|a
   ·grind
   ·simp_all
   simp_all
 obtain⟨r,a,e⟩:=c (b s+1) s (by omega) d;rw[Bi (Am a)];exact e
theorem xK(p:UInt8->Bool): ∀l:Str,past p l=l.dropWhile p
 |[]=>rfl
 |c::r=>by
  rw[past,De];cases h:p c with
  |true=>exact xK p r
  |false=>rfl
theorem Ps(p:UInt8->Bool)(l:Str):l.takeWhile p++past p l=l:=by rw[xK,List.takeWhile_append_dropWhile]
theorem Uv(p:UInt8->Bool): ∀l:Str,(l.takeWhile p).all p=true
 |[]=>rfl
 |c::r=>by simp_all
def sgOf(l:Str):Str:=if Jf (atS l 0)then [atS l 0]else []
theorem ny(l:Str):sgOf l++unsign l=l:=by
 unfold sgOf unsign;cases h:Jf (atS l 0)with
 |false=>rfl
 |true=>
  rw[Ia rfl,Ia rfl];cases l with
  |nil=>exact absurd h (by decide)
  |cons c r=>rfl
theorem KG(l:Str):sgB (sgOf l)=true:=by
 unfold sgOf;cases h:Jf (atS l 0)with
 |false=>rfl
 |true=> rw[Ia rfl];unfold Jf at h;rw[Jc,Db,Db]at h;rcases h with h|h<;>rw[h]<;>rfl
def dotP(q:Str):Option Str:=if atS q 0==46&&digB (atS q 1)then some ((q.drop 1).takeWhile digB)else none
def expP(q:Str):Option (UInt8×Str×Str):=
 if(atS q 0==101||atS q 0==69)&&digB (atS (unsign (q.drop 1)) 0)then some (atS q 0,sgOf (q.drop 1),(unsign (q.drop 1)).takeWhile digB)else none
def numP(l:Str):NumP:=⟨sgOf l,(unsign l).takeWhile digB,dotP (past digB (unsign l)),expP (Za (past digB (unsign l))).1⟩
theorem rX(q:Str):dotS (dotP q)++(Za q).1=q/\(Za q).2=(dotP q).isNone:=by
 unfold dotP Za;cases h:atS q 0==46&&digB (atS q 1)with
 |false=>exact⟨rfl,rfl⟩
 |true=>
  rw[Ia rfl,Ia rfl];cases q with
  |nil=>exact absurd h (by decide)
  |cons c r=> rw[Ca,Db]at h;refine⟨?_,rfl⟩;show(46::List.takeWhile digB r)++past digB r=c::r;rw[Ta,Ps,show c=46 from h.1]
theorem gV(q:Str):expT (expP q)++(match expS q with|some r=>r|none=>q)=q:=by
 unfold expP expS;cases a:atS q 0==101||atS q 0==69 with
 |false=>rfl
 |true=>
  cases b:digB (atS (unsign (q.drop 1)) 0)with
  |false=>rfl
  |true=>
   simp only[Bool.and_self,jd];cases q with
   |nil=>exact absurd a (by decide)
   |cons c r=> show(c::(sgOf r++List.takeWhile digB (unsign r)))++past digB (unsign r)=c::r;rw[Ta,Oa,Ps,ny]
theorem GD(l:Str):(numP l).txt++(zI l).1=l:=by
 have c:=(rX (past digB (unsign l))).1;have b:=gV (Za (past digB (unsign l))).1;have a:(zI l).1=(match expS (Za (past digB (unsign l))).1 with|some r=>r|none=>(Za (past digB (unsign l))).1):=by unfold zI;simp only;cases expS (Za (past digB (unsign l))).1<;>rfl
 rw[a];show(sgOf l++(List.takeWhile digB (unsign l)++(dotS (dotP (past digB (unsign l)))++expT (expP (Za (past digB (unsign l))).1))))++_=l;rw[Oa,Oa,Oa,b,c,Ps,ny]
theorem yz{p:UInt8->Bool}{q:Str}(h:p (atS q 0)=true)(a:p 0=false):(q.takeWhile p).isEmpty=false:=by
 cases q with
 |nil=>rw[show atS [] 0=0 from rfl,a]at h;cases h
 |cons c r=>rw[List.takeWhile_cons,Ia (show p c=true from h)];rfl
theorem LA{l:Str}(h:nbS l=true):(numP l).ok=true:=by
 unfold NumP.ok numP;simp only[KG,Uv,Ab,Ca];refine⟨?_,?_⟩
 ·unfold dotP;cases a:atS (past digB (unsign l)) 0==46&&digB (atS (past digB (unsign l)) 1)with
  |true=> rw[Ia rfl];simp only[Uv,Sb];rw[Ca]at a;rw[yz (p:=digB) (by rw[Ql];exact a.2) (by decide)];rfl
  |false=>
   rw[Fa (by decide)];simp only;cases b:digB (atS (unsign l) 0)with
   |true=>rw[yz b (by decide)];rfl
   |false=>
    exfalso;have f:past digB (unsign l)=unsign l:=by
     cases e:unsign l with
     |nil=>rfl
     |cons c r=>rw[e]at b;rw[past,Fa (by rw[show digB c=false from b];decide)]
    rw[f]at a;unfold nbS undot at h;cases d:atS (unsign l) 0==46 with
    |false=>grind
    |true=>
     rw[d,Ia rfl,Ql]at h
     grind
 ·unfold expP;cases a:(atS (Za (past digB (unsign l))).1 0==101||atS (Za (past digB (unsign l))).1 0==69)&&digB (atS (unsign ((Za (past digB (unsign l))).1.drop 1)) 0)with
  |false=>rfl
  |true=> rw[Ia rfl];rw[Ca]at a;simp only[a.1,KG,Uv,Sb,Ab];rw[yz a.2 (by decide)];rfl
theorem bQ{n:NumP}(h:n.ok=true):n.txt≠[]:=by
 obtain⟨c,D,F,X⟩:=n;unfold NumP.ok at h;simp only[Ca]at h;intro e;unfold NumP.txt at e;simp only[List.append_eq_nil_iff]at e;obtain⟨g,b,a,d⟩:=e;subst b;cases F with
 |none=>grind
 |some f=>cases a
theorem uM{c:UInt8}{r:Str}(h:nbS (c::r)=true):(zI (c::r)).1<:+r:=by
 have e:=GD (c::r);have b:=bQ (LA h);cases a:(numP (c::r)).txt with
 |nil=>grind
 |cons d t=>
  grind
def zG(l:Str):ze×Str:=
 if nmS (zI l).1 then(⟨12,[],(numP l).val,(zm (zI l).1).1,(zI l).2⟩,(zm (zI l).1).2)
 else if atS (zI l).1 0==37 then(⟨11,[],(numP l).val,[],false⟩,(zI l).1.drop 1)
 else(⟨10,[],(numP l).val,[],(zI l).2⟩,(zI l).1)
theorem VS{s l t e:Str}(a:l<:+s)(h:t++e=l):List.drop (beh s l) (List.take (beh s e) s)=t:=by
 obtain⟨p,rfl⟩:=a;subst h;have c:beh (p++(t++e)) (t++e)=p.length:=by unfold beh;simp only[Ha];omega
 have b:beh (p++(t++e)) e=(p++t).length:=by unfold beh;simp only[Ha];omega
 grind
theorem AU{s l:Str}(hs:s.length<=40000)(hl:l<:+s)(h:nbS l=true):Ze (sr s l)=some ((zG l).1,sr s (zG l).2):=by
 have hsb:s.length<=big:=by unfold big;omega
 have he:=aY hl;have hle:=hl.length_le;have hsp:=GD l;have hel:(zI l).1.length<=l.length:=by have:=congrArg List.length hsp;rw[Ha]at this;omega
 have htl:(numP l).txt.length<=40000:=by have:=congrArg List.length hsp;rw[Ha]at this;omega
 unfold Ze;rw[fV hsb hl];simp only[zg,Aa];have h1:(beh s l:Int)<=(beh s (zI l).1:Int):=by unfold beh;omega
 have h2:=ji s (zI l).1;rw[zA (by simp_all),Va,Va,VS hl hsp,uO (LA h) htl];simp only[Aa];rw[show zy (0,sr s (zI l).1)=some (nmS (zI l).1)from Jz (k:=0) hsb he (by omega)];simp only[Aa];unfold zG;cases hn:nmS (zI l).1 with
 |true=> rw[Ea,Iu hsb he,Ia rfl];rfl
 |false=>
  rw[Da,Ig hsb he,Fa (by decide)];simp only[Aa,E9];cases h37:atS (zI l).1 0==37 with
  |true=> rw[Ea,zh,Nq hsb he (by grind),Ia rfl]
  |false=>simp_all
theorem nA(l:Str):(zm l).1.length<=4*l.length:=by
 match l with
 |[]=>rw[qA];grind
 |c::r=>
  rw[zP];split
  ·have:=nA r
   grind
  ·split
   ·have b:=zX r;have a:=Jt r;have:=nA (zo r).2
    grind
   grind
termination_by l.length
decreasing_by
 all_goals grind
def qC(l:Str):ze×Str:=
 if atS (zm l).2 0==40 then
  (if(lowS (zm l).1==[117,114,108])&& !(atS (past spB ((zm l).2.drop 1)) 0==34||atS (past spB ((zm l).2.drop 1)) 0==39)
  then(Gi (urlS (past spB ((zm l).2.drop 1))).1,(urlS (past spB ((zm l).2.drop 1))).2)
  else(⟨2,(zm l).1,0,[],false⟩,(zm l).2.drop 1))
 else(⟨1,(zm l).1,0,[],false⟩,(zm l).2)
theorem rR{s q:Str}(m:s.length<=40000)(g:q<:+s):Zi (sr s q)=some ((qC q).1,sr s (qC q).2):=by
 have a:s.length<=big:=by unfold big;omega
 have e:(zm q).2<:+s:=(Gj q).trans g;have l:=nA q;have i:=g.length_le;have f:(zm q).1.length<=big:=by unfold big;omega
 unfold Zi;rw[Iu a g];simp only[zg,Aa,Ig a e];unfold bne qC;rw[D9];cases d:atS (zm q).2 0==40 with
 |false=>rfl
 |true=>
  have c:atS (zm q).2 0≠0:=by rw[Db.1 d];decide
  rw[Ib,Da,Ia rfl,Nq a e c,dx f (by decide),Kv];simp only[Aa];have b:=Dj e 1;cases n:lowS (zm q).1==[117,114,108]with
  |false=>rfl
  |true=>
   rw[Ea,lu a b,Ab];have k:=ul spB b;simp only[Aa,Ig a k];rw[RG,PG];cases j:atS (past spB ((zm q).2.drop 1)) 0==34 with
   |true=>rfl
   |false=>
    cases h:atS (past spB ((zm q).2.drop 1)) 0==39 with
    |true=>rfl
    |false=> rw[urlR a b];rfl
theorem GU{c:UInt8}{r:Str}(h:letB c=true\/escS (c::r)=true):(zm (c::r)).2<:+r:=by
 rw[zP];split
 ·exact Gj r
 ·rename_i a;rw[Ia (h.resolve_left a)];exact(Gj _).trans (Z0 r)
theorem JK{c:UInt8}{r:Str}(h:nmS (c::r)=true):letB c=true\/escS (c::r)=true:=by
 unfold nmS at h;cases a:atS (c::r) 0==45 with
 |true=> left;rw[show c=45 from Db.1 a];decide
 |false=>
  rw[a,Fa (by decide),Jc]at h;rcases h with h|h
  ·left;unfold letB;rw[show fstB c=true from h];rfl
  ·exact .inr h
theorem vW{c:UInt8}{r:Str}(h:nmS (c::r)=true):(qC (c::r)).2<:+r:=by
 have b:=GU (JK h);have a:(zm (c::r)).2.drop 1<:+r:=(Fe 1 _).trans b;unfold qC;split
 ·split
  ·exact(Yn _).trans ((Pk spB _).trans a)
  ·exact a
 ·exact b
def nxU(c:UInt8)(r:Str):ze×Str:=
  if nmS (c::r)then qC (c::r)
  else if jf c==0 then(⟨9,[c],0,[],false⟩,r)
  else(uf (jf c),r)
def nxT(c:UInt8)(r:Str):ze×Str:=
  if nbS (c::r)then zG (c::r)
  else if [45,45,62].isPrefixOf (c::r)then(uf 15,(c::r).drop 3)
  else if [60,33,45,45].isPrefixOf (c::r)then(uf 14,(c::r).drop 4)
  else if c==64&&nmS r then(⟨3,(zm r).1,0,[],false⟩,(zm r).2)
  else nxU c r
def Zy:Str->ze×Str
 |[]=>(⟨0,[],0,[],false⟩,[])
 |c::r=>
  if spB c then(uf 13,past spB (c::r))
  else if c==34||c==39 then(Ii (zV c r).1,(zV c r).2)
  else if c==35&&(letB (atS r 0)||escS r)then(⟨4,(zm r).1,0,[],nmS r⟩,(zm r).2)
  else nxT c r
theorem Om(c:UInt8)(r:Str):Zy (c::r)=
  if spB c then(uf 13,past spB (c::r))
  else if c==34||c==39 then(Ii (zV c r).1,(zV c r).2)
  else if c==35&&(letB (atS r 0)||escS r)then(⟨4,(zm r).1,0,[],nmS r⟩,(zm r).2)
  else if nbS (c::r)then zG (c::r)
  else if [45,45,62].isPrefixOf (c::r)then(uf 15,(c::r).drop 3)
  else if [60,33,45,45].isPrefixOf (c::r)then(uf 14,(c::r).drop 4)
  else if c==64&&nmS r then(⟨3,(zm r).1,0,[],false⟩,(zm r).2)
  else if nmS (c::r)then qC (c::r)
  else if jf c==0 then(⟨9,[c],0,[],false⟩,r)
  else(uf (jf c),r):=rfl
theorem XZ{c:UInt8}{r:Str}(h:nbS (c::r)=true):(zG (c::r)).2<:+r:=by
 have a:=uM h;unfold zG;split
 ·exact(Gj _).trans a
 ·split
  ·exact(Fe 1 _).trans a
  ·exact a
theorem Ni(c:UInt8)(r:Str):(Zy (c::r)).2<:+r:=by
 rw[Om];split
 ·rename_i h;show past spB (c::r)<:+r;rw[past,Ia h];exact Pk spB r
 ·split
  ·exact Tp c r
  ·split
   ·exact Gj r
   ·split
    ·rename_i h;exact XZ h
    ·split
     ·exact Fe 2 r
     ·split
      ·exact Fe 3 r
      ·split
       ·exact Gj r
       ·split
        ·rename_i h;exact vW h
        grind
theorem MU(c:UInt8):decide (Lib.indexByte [58,59,44,91,93,40,41,123,125] c>=0)= !(jf c==0)/\(jf c≠0->wu8 (16+wu8 (Lib.indexByte [58,59,44,91,93,40,41,123,125] c))=jf c):=by
 have: ∀n:Nat,n<256->decide (Lib.indexByte [58,59,44,91,93,40,41,123,125] (UInt8.ofNat n)>=0)= !(jf (UInt8.ofNat n)==0)/\(jf (UInt8.ofNat n)≠0->wu8 (16+wu8 (Lib.indexByte [58,59,44,91,93,40,41,123,125] (UInt8.ofNat n)))=jf (UInt8.ofNat n)):=by decide+kernel
 have:=this c.toNat (Bb c);simp_all
theorem Kk{m q:Str}(h:m.isPrefixOf q=true):m.length<=q.length:=by
 grind
def Pq(s:Str)(X:ze×Str):Option (ze×za):=some (X.1,sr s X.2)
theorem UQ{s q:Str}{c:UInt8}{r:Str}(y:s.length<=40000)(b:q<:+s)(D:q=c::r):ZC (sr s q)=some ((Zy q).1,sr s (Zy q).2):=by
 subst D;have a:s.length<=big:=by unfold big;omega
 have A:=ah b;have J:(c::r).drop 1=r:=rfl;rw[show Zy (c::r)=if spB c then(uf 13,past spB (c::r))else if c==34||c==39 then(Ii (zV c r).1,(zV c r).2)else if c==35&&(letB (atS r 0)||escS r)then(⟨4,(zm r).1,0,[],nmS r⟩,(zm r).2)else nxT c r from rfl];unfold ZC;simp only[zg,Ig a b,Aa];rw[zA aG];simp only[Hr,Aa,RG,PG,F9,C9,UA b,qR,show atS (c::r) 0=c from rfl,Dz];cases Q:spB c with
 |true=> rw[Ea,lu a b,Ia rfl];rfl
 |false=>
  rw[Da,Fa (by decide)];cases H:c==34||c==39 with
  |true=> rw[Ea,tQ a b,Ia rfl];rfl
  |false=>
   rw[Da,Fa (by decide)];have p:zq (1,sr s (c::r))=some (escS r):=yw (k:=1) a b (by omega);have g:zy (1,sr s (c::r))=some (nmS r):=Jz (k:=1) a b (by omega);have l:zy (0,sr s (c::r))=some (nmS (c::r)):=Jz (k:=0) a b (by omega);have u:(⟨s,w64 ((beh s (c::r):Int)+1)⟩:za)=sr s r:=by rw[kg a b]
   rw[u];have o:((Zl (sr s (c::r))).bind fun w=>
    bif w then
     (Ze (sr s (c::r))).bind fun j=>
     some (j.1,j.2)
    else
     (some ([45,45,62].isPrefixOf (c::r))).bind fun v=>
     bif v then
      some ((⟨15,[],0,[],false⟩:ze),(⟨s,w64 ((beh s (c::r):Int)+3)⟩:za))
     else
      (some ([60,33,45,45].isPrefixOf (c::r))).bind fun t=>
      bif t then
       some ((⟨14,[],0,[],false⟩:ze),(⟨s,w64 ((beh s (c::r):Int)+4)⟩:za))
      else
       (zx (c==64) (zy (1,sr s (c::r))) (default:Bool)).bind fun h=>
       bif bif c==64 then h else false then
        (zM (sr s r)).bind fun f=>
        some ((⟨3,f.1,0,[],false⟩:ze),f.2)
       else
        (zy (0,sr s (c::r))).bind fun i=>
        bif i then
         (Zi (sr s (c::r))).bind fun d=>
         some (d.1,d.2)
        else
         (strings_IndexByte ([58,59,44,91,93,40,41,123,125],wu8 (pk (c::r) 0))).bind fun e=>
         bif decide (e>=0)then
          some ((⟨wu8 (16+wu8 e),[],0,[],false⟩:ze),sr s r)
         else
          need (decide (1<=((c::r).length:Int)))<|
          some ((⟨9,List.take 1 (c::r),0,[],false⟩:ze),sr s r))=
    Pq s (nxT c r):=by
    unfold nxT;simp only[bS a b,Aa];cases x:nbS (c::r)with
    |true=> rw[Ea,AU y b x,Ia rfl];rfl
    |false=>
     rw[Da,Fa (by decide)];cases O:[45,45,62].isPrefixOf (c::r)with
     |true=> rw[Ea,Ia rfl,show(3:Int)=((3:Nat):Int)from rfl,Lu (n:=3) a b (Kk O)];rfl
     |false=>
      rw[Da,Fa (by decide)];cases L:[60,33,45,45].isPrefixOf (c::r)with
      |true=> rw[Ea,Ia rfl,show(4:Int)=((4:Nat):Int)from rfl,Lu (n:=4) a b (Kk L)];rfl
      |false=>
       rw[Da,Fa (by decide),g,l];have m: ∀z:Bool,((some z).bind fun h=>bif h then
        (zM (sr s r)).bind fun f=>
        some ((⟨3,f.1,0,[],false⟩:ze),f.2)
       else
        (some (nmS (c::r))).bind fun i=>
        bif i then
         (Zi (sr s (c::r))).bind fun d=>
         some (d.1,d.2)
        else
         (strings_IndexByte ([58,59,44,91,93,40,41,123,125],wu8 (pk (c::r) 0))).bind fun e=>
         bif decide (e>=0)then
          some ((⟨wu8 (16+wu8 e),[],0,[],false⟩:ze),sr s r)
         else
          need (decide (1<=((c::r).length:Int)))<|
          some ((⟨9,List.take 1 (c::r),0,[],false⟩:ze),sr s r))=Pq s (if z then(⟨3,(zm r).1,0,[],false⟩,(zm r).2)else nxU c r):=by
        intro z;unfold nxU;simp only[Aa];cases z with
        |true=> rw[Ea,Iu a A];rfl
        |false=>
         rw[Da,Fa (by decide)];cases G:nmS (c::r)with
         |true=>rw[Ea,rR y b];rfl
         |false=>
          rw[Da,Fa (by decide),Ul,Xp];have R:(wu8 (c.toNat:Int)).toNat.toUInt8=c:=by rw[Cr,Tf (Bb c),Va];exact Md
          rw[R];obtain⟨K,S⟩:=MU c;simp only[Aa,K];cases M:jf c==0 with
          |true=> rw[Ib,Da,zA (Ga (by grind))];rfl
          |false=> rw[Xa,Ea,S (Ja.1 M)];rfl
       cases N:c==64 with
       |false=> simp_all
       |true=> have:=m (nmS r);simp_all
   cases C:c==35 with
   |false=> simp only[ZH,Aa,Da,Pd,Nb];exact o
   |true=>
    simp only[zS,Aa,Ea,Sb,Ab,Xq a b,NJ];have E:atS (c::r) 1=atS r 0:=rfl;rw[E,p];have F:(bif letB (atS r 0)||escS r then(zy (1,sr s (c::r))).bind fun P=>(zM (sr s r)).bind fun B=>some ((⟨4,B.1,0,[],P⟩:ze),B.2)else Pq s (nxT c r))=Pq s (if(letB (atS r 0)||escS r)then(⟨4,(zm r).1,0,[],nmS r⟩,(zm r).2)else nxT c r):=by
     cases letB (atS r 0)||escS r with
     |false=>rfl
     |true=>rw[Ea,g,Iu a A];rfl
    show _=Pq s (if(letB (atS r 0)||escS r)then(⟨4,(zm r).1,0,[],nmS r⟩,(zm r).2)else nxT c r);rw[<-F];cases T:letB (atS r 0)with
    |true=>rfl
    |false=> simp_all
def clsS:Str->Option Str
 |[]=>none
 |c::r=>if c==42&&atS r 0==47 then some (r.drop 1)else clsS r
theorem ni: ∀(l:Str) {r:Str},clsS l=some r->r<:+l/\r.length+2<=l.length
 |[],r,h=>by cases h
 |c::t,r,h=>by
  unfold clsS at h;split at h
  ·rename_i a;rw[Ca,Db,Db]at a;injection h with h;subst h;have:=Tq (l:=t) (n:=0) (by rw[a.2];decide);exact⟨(Fe 1 t).trans (Td c t),by grind⟩
  ·obtain⟨d,b⟩:=ni t h
   grind
theorem pre2(b:UInt8)(l:Str):([42,47]:Str).isPrefixOf (b::l)=(b==42&&atS l 0==47):=by
 have c:((42:UInt8)==b)=(b==42):=by rw[Bool.eq_iff_iff,Db,Db];exact eq_comm
 rw[List.isPrefixOf,c];cases l with
 |nil=>rfl
 |cons d t=>
  have a:((47:UInt8)==d)=(d==47):=by rw[Bool.eq_iff_iff,Db,Db];exact eq_comm
  rw[List.isPrefixOf,a,List.isPrefixOf];rw[Sb];rfl
theorem GM: ∀l:Str,Lib.index l [42,47]=match clsS l with|none=> -1|some r=>((l.length - r.length - 2:Nat):Int)
 |[]=>rfl
 |b::l=>by
  rw[Lib.index,pre2,clsS];cases h:b==42&&atS l 0==47 with
  |true=>
   grind
  |false=>
   simp only[Ob,Ld];rw[GM l];cases a:clsS l with
   |none=>rfl
   |some r=>
    have:=(ni l a).2
    grind
def cmtS(l:Str):Str:=
 if([47,42]:Str).isPrefixOf l then
  (match h:clsS (l.drop 2)with
  |some q=>cmtS q
  |none=>[])
 else l
termination_by l.length
decreasing_by
 have:=(ni _ h).2
 grind
theorem Xh(l:Str):cmtS l=if([47,42]:Str).isPrefixOf l then(match clsS (l.drop 2)with|some q=>cmtS q|none=>[])else l:=by
 rw[cmtS]
 grind
theorem qg{l:Str}(h:([47,42]:Str).isPrefixOf l=false):cmtS l=l:=by rw[Xh,h];rfl
theorem mi(l:Str):cmtS l<:+l:=by
 rw[Xh];split
 ·split
  ·rename_i q b;have a:=ni _ b;have c:=a.2;rw[Pb]at c;exact(mi q).trans (a.1.trans (Fe 2 l))
  grind
 grind
termination_by l.length
decreasing_by
 grind
theorem il(l:Str):cmtS (cmtS l)=cmtS l:=by
 rw[Xh l];split
 ·split
  ·rename_i q a;have b:=(ni _ a).2;rw[Pb]at b;exact il q
  ·exact qg rfl
 ·rename_i h;exact qg (Bool.eq_false_iff.2 h)
termination_by l.length
decreasing_by
 grind
theorem Ur(l:Str):([47,42]:Str).isPrefixOf (cmtS l)=false:=by
 have h:=il l;cases b:([47,42]:Str).isPrefixOf (cmtS l)with
 |false=>rfl
 |true=>
  exfalso;rw[Xh (cmtS l),b,Ia rfl]at h;have c:=Kk b;rw[show([47,42]:Str).length=2 from rfl]at c;cases a:clsS ((cmtS l).drop 2)with
  |none=>grind
  |some q=>
   rw[a]at h;have d:=(ni _ a).2;have e:=(mi q).length_le
   grind
theorem gL{s q:Str}(hs:s.length<=40000)(hq:q<:+s):Zb (sr s q)=some (sr s (cmtS q)):=by
 have hsb:s.length<=big:=by unfold big;omega
 unfold Zb;refine Sk (fun z=> ∃p,z=sr s p/\p<:+s/\cmtS p=cmtS q) (fun z=>s.length - z.at_.toNat) _ ?_ ⟨q,rfl,hq,rfl⟩;rintro _ ⟨p,rfl,hp,he⟩;rw[zA aG];simp only[zg,UA hp,qR,Aa];rw[Xh p]at he;cases hpre:([47,42]:Str).isPrefixOf p with
 |false=>
  grind
 |true=>
  rw[hpre,Ia rfl]at he;have hl:=Kk hpre;rw[show([47,42]:Str).length=2 from rfl]at hl;have hle:=hp.length_le;have hb:=lI hp hl;have hb2:=ji s (p.drop 2);rw[Ea];have hw:w64 ((beh s p:Int)+2)=((beh s (p.drop 2):Nat):Int):=by rw[<-hb,Zd (by omega) (by omega)];omega
  rw[hw,zA (by grind),UA (Dj hp 2)];have hlen:(p.drop 2).length<=40000:=by rw[Pb];omega
  have hi:Ji (p.drop 2,[42,47])=some (Lib.index (p.drop 2) [42,47]):=by unfold Ji;rw[zA (by exact Ga (show(p.drop 2).length<4294967281 by omega))]
  rw[hi,GM];simp only[Aa];cases hc:clsS (p.drop 2)with
  |none=>
   rw[hc]at he;refine .inr (.inr ?_);rw[<-he];show _=some (LO.ret (⟨s,(beh s []:Int)⟩:za));unfold beh
   grind
  |some r=>
   rw[hc]at he;obtain⟨h1,h2⟩:=ni _ hc;have hrs:r<:+s:=h1.trans (Dj hp 2);rw[Pb]at h2 hlen;simp only;rw[aa (by omega),Da];refine .inl ⟨sr s r,?_,⟨r,rfl,hrs,he⟩,?_⟩
   ·rw[Pb,Zd (n:=_+4) (by omega) (by omega)];have:(beh s p:Int)+(((p.length - 2 - r.length - 2:Nat):Int)+4)=((beh s r:Nat):Int):=by unfold beh;omega
    rw[this,Zd (by grind) (by grind)]
   ·show s.length - beh s r<s.length - beh s p;unfold beh;omega
def qB(l:Str):List ze:=
 match h:cmtS l with
 |[]=>[]
 |c::r=>(Zy (c::r)).1::qB (Zy (c::r)).2
termination_by l.length
decreasing_by
 have b:=(Ni c r).length_le;have a:=(mi l).length_le
 grind
theorem Q6{l:Str}(h:cmtS l=[]):qB l=[]:=by
 rw[qB]
 grind
theorem QV{l:Str}{c:UInt8}{r:Str}(h:cmtS l=c::r):qB l=(Zy (c::r)).1::qB (Zy (c::r)).2:=by
 rw[qB]
 grind
theorem Sw(l:Str):qB (cmtS l)=qB l:=by
 cases h:cmtS l with
 |nil=>rw[Q6 h];exact Q6 (qg rfl)
 |cons c r=> rw[QV h];exact QV (by rw[<-h,il])
theorem jL: ∀l:Str,(Proofs.Cl.cleanS l).length<=3*l.length:=by
 have: ∀(n:Nat) (l:Str),l.length<=n->(Proofs.Cl.cleanS l).length<=3*l.length:=by
  intro n
  induction n with
  |zero=>
   intro l h;cases l with
   |nil=>rw[Proofs.Cl.cleanS];grind
   |cons c r=>grind
  |succ n ih=>
   intro l h;rw[Proofs.Cl.cleanS.eq_def]
   grind
 exact fun l=>this l.length l (Ua _)
def Qf(w:Str):List ze×Int:=if 4000<w.length then([],28)else if 1500<(qB (Proofs.Cl.cleanS w)).length then([],4)else(qB (Proofs.Cl.cleanS w),0)
theorem iT{n:Nat}(h:n<=100000):zD n 1 56=true:=by unfold zD;grind
theorem wL(w:Str):qX w=some (Qf w):=by
 unfold qX Qf;by_cases b:4000<w.length
 ·have e:Ki w=some ([],28):=by unfold Ki;rw[Ia b]
  unfold QT
  grind
 ·have e:Ki w=some (Proofs.Cl.cleanS w,0):=by unfold Ki;rw[Fa b]
  rw[Fa b];have x:=jL w;generalize Proofs.Cl.cleanS w=s at e x;have o:s.length<=40000:=by omega
  unfold QT;rw[e];simp only[zg,Aa];rw[show((0:Int) != 0)=false from rfl,Da,sr_0,gL o (Oe s)];simp only[Aa];have f: ∃z:Int×List ze,ZR (fun(d:Int×List ze×za)=>
    bif decide (d.2.2.at_<(s.length:Int))then
     bif decide (w64 (d.1+1)>1500)then
      some (LO.ret (4,d.2.1))
     else
      (ZC d.2.2).bind fun t=>
      (qO ((t.1,d.2.2.at_,t.2.at_),d.2.1)).bind fun y=>
      (Zb t.2).bind fun A=>
      some (LO.again (w64 (d.1+1),y,A))
    else
     some (LO.out (d.2.1,d.2.2)):Int×List ze×za->Option (LO (Int×List ze×za) (List ze×za) (Int×List ze))) (0,[],sr s (cmtS s)) (fun C=>some (0,C.1))=some z/\
    z=(if 1500<(qB s).length then(4,(qB s).take 1500)else(0,qB s)):=by
   refine⟨_,Sk (fun z=> ∃(a:List ze) (q:Str),z=((a.length:Int),a,sr s q)/\q<:+s/\cmtS q=q/\a.length<=1500/\a++qB q=qB s) (fun z=>s.length - z.2.2.at_.toNat) (if 1500<(qB s).length then(4,(qB s).take 1500)else(0,qB s)) ?_ ⟨[],cmtS s,rfl,mi s,il s,by simp,by rw[Xb,Sw]⟩,rfl⟩;rintro _ ⟨a,q,rfl,m,n,G,i⟩;simp only;have l:=m.length_le;cases q with
   |nil=>
    have B:((beh s []:Nat):Int)=(s.length:Int):=by unfold beh;rw[Jb];rfl
    have k:decide (((beh s []:Nat):Int)<(s.length:Int))=false:=aa (by omega);simp only[k,Da];rw[Q6 (qg rfl),Cb]at i
    grind
   |cons c r=>
    rw[Ka]at l;have B:beh s (c::r)<s.length:=by unfold beh;rw[Ka];omega
    have k:decide (((beh s (c::r):Nat):Int)<(s.length:Int))=true:=Ga (by omega);have v:w64 ((a.length:Int)+1)=(a.length:Int)+1:=Zd (by omega) (by omega);simp only[k,Ea,v];rw[QV n]at i;have g:=congrArg List.length i;rw[Ha,Ka]at g;by_cases j:a.length=1500
    ·grind
    ·have p:decide ((a.length:Int)+1>1500)=false:=aa (by omega);simp only[p,Da,UQ o m rfl,Aa];unfold qO;rw[zA (iT (by simp only;omega))];have h:(Zy (c::r)).2<:+s:=(Ni c r).trans (ah m);simp only[Aa,gL o h];refine .inl ⟨_,rfl,⟨a++[(Zy (c::r)).1],cmtS (Zy (c::r)).2,?_,(mi _).trans h,il _,by grind,?_⟩,?_⟩
     ·grind
     ·rw[Sw,Oa];exact i
     ·have E:=(Ni c r).length_le;have F:=(mi (Zy (c::r)).2).length_le;show s.length - beh s (cmtS (Zy (c::r)).2)<s.length - beh s (c::r);unfold beh at*
      grind
  obtain⟨z,D,u⟩:=f
  grind
end Go.Lv.VT
