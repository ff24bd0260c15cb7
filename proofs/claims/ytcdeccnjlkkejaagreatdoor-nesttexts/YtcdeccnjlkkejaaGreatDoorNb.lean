/- The writing of names. -/
import Derived.Test.YtcdeccnjlkkejaaGreatDoorNam
set_option linter.unusedSimpArgs false
set_option linter.unusedVariables false
namespace Go.Lv.VT
set_option maxRecDepth 100000
def escC(c:UInt8):Str:=bif decide (32<c.toNat)&&decide (c.toNat<127)&& !digB c&& !alB c then [92,c]else 92::(hexS c.toNat++[32])
def pcW(dash:Bool)(k:Nat)(c:UInt8):Str:=bif letB c&&(k==0|| !digB c)&& !dash then [c]else escC c
def encW(dash:Bool):Nat->Str->Str
 |_,[]=>[]
 |k,c::r=>pcW dash k c++encW dash (k - 1) r
theorem VW(c:UInt8):namN c.toNat=letB c:=by
 have: ∀n:Nat,n<256->namN (UInt8.ofNat n).toNat=letB (UInt8.ofNat n):=by decide+kernel
 have h:=this c.toNat (Fb c);simp_all
theorem zBG(c:UInt8):Wm (c.toNat:Int)=some (letB c):=by rw[xS,VW]
theorem NL(c:UInt8):qw (c.toNat:Int)=some (digB c):=yS c
theorem oW(c:UInt8):Mt (c.toNat:Int)=some (alB c):=of_n (by decide+kernel) c
theorem bX(c:UInt8):wu64 (c.toNat:Int)=(c.toNat:Int):=by
 have:=Fb c;show IntKind.u64.wrap _=_;have h: ∀n:Int,IntKind.u64.wrap n=n%18446744073709551616:=fun n=>by simp[IntKind.wrap,IntKind.bits,IntKind.signed]
 rw[h];omega
theorem bA(c:UInt8):Zq ((c.toNat:Nat):Int)=some c:=by simp_all
theorem YM(n:Nat):(hexS n).length<=2:=by unfold hexS;split<;>simp
theorem Ms(c:UInt8){acc:Str}(j:acc.length<=1000000000):ZU ((c.toNat:Int),acc)=some (acc++escC c):=by
 have i:=Fb c;unfold ZU escC;simp only[ze,NL,oW];have g:decide ((c.toNat:Int)>32)=decide (32<c.toNat):=by rw[Af];omega
 have f:decide ((c.toNat:Int)<127)=decide (c.toNat<127):=by rw[Af];omega
 rw[g,f];have b:short (acc++[(92:UInt8)])=true:=Ma (by grind);have e:Ho ((wu64 (c.toNat:Int),16),acc++[(92:UInt8)])=some (acc++[(92:UInt8)]++hexS c.toNat):=by unfold Ho;simp only[bX,b];rw[zy (by simp;omega)];rfl
 have h:=YM c.toNat;have a:need (zX acc.length 1 1) (ze (Ho ((wu64 (c.toNat:Int),16),acc++[(92:UInt8)])) fun d=>need (zX d.length 1 1) (some (d++[(32:UInt8)])))=some (acc++92::(hexS c.toNat++[32])):=by rw[zy (kg (by omega)),e];simp only[ze,Aa];rw[zy (kg (by grind))];simp
 simp only[ze]at a;rw[a];cases decide (32<c.toNat)with
 |false=>rfl
 |true=>
  cases decide (c.toNat<127)with
  |false=>rfl
  |true=>
   cases digB c with
   |true=>rfl
   |false=>
    cases alB c with
    |true=>rfl
    |false=> simp only[zu,Ea,Cc,Bool.and_self,Aa,bA];rw[zy (kg (by omega))]
theorem Jw(c:UInt8):(escC c).length<=4:=by
 have:=YM c.toNat;unfold escC
 grind
theorem oK(dash:Bool)(k:Nat)(c:UInt8):(pcW dash k c).length<=4:=by
 have:=Jw c;unfold pcW
 grind
theorem Mw(dash:Bool): ∀(k:Nat) (l:Str),(encW dash k l).length<=4*l.length
 |_,[]=>by unfold encW;simp
 |k,c::r=>by
  have:=oK dash k c;have:=Mw dash (k - 1) r;unfold encW
  grind
theorem zBu{dash:Bool}{k i:Nat}{l:Str}(h:i<l.length):encW dash (k - i) (l.drop i)=pcW dash (k - i) l[i]++encW dash (k - (i+1)) (l.drop (i+1)):=by rw[Jb h,encW,show k - i - 1=k - (i+1) by omega]
theorem zCI {R:Type} {step:Int×List UInt8->Option (LO (Int×List UInt8) (List UInt8) R)} {l acc:Str} {k:Nat} {dash:Bool} (hl:l.length<=100000) (ha:acc.length<=100000000)
  (h1: ∀(i:Nat) (a:Str) (hi:i<l.length),a.length<=500000000->step ((i:Int),a)=some (.again (w64 ((i:Int)+1),a++pcW dash (k - i) l[i])))
  (h2: ∀a,step ((l.length:Int),a)=some (.out a)):Tg step (0,acc)=some (.out (acc++encW dash k l)):=by
 refine Qf (fun z=> ∃(i:Nat) (a:Str),z=((i:Int),a)/\i<=l.length/\a.length<=acc.length+4*i/\a++encW dash (k - i) (l.drop i)=acc++encW dash k l) (fun z=>l.length - z.1.toNat) _ ?_ ⟨0,acc,rfl,by omega,by omega,rfl⟩;rintro _ ⟨i,a,rfl,hi,hal,he⟩;rcases Lc i l.length with h|h
 ·refine .inl ⟨_,h1 i a h (by omega),⟨i+1,_,by rw[zW (by omega) (by omega)];rfl,by omega,?_,?_⟩,by simp only;rw[zW (by omega) (by omega)];omega⟩
  ·have:=oK dash (k - i) l[i]
   grind
  ·rw[<-he,zBu h,Ra]
 ·have:i=l.length:=by omega
  subst this;refine .inr (.inl ⟨_,h2 a,?_⟩);rw[<-he,Ue (Ya _)];rw[show encW dash (k - l.length) []=[] by rw[encW],Bb]
def Bn(k:Nat)(l:Str):Bool:= !(k==0)&&l==[45]
def QU(l:Str):Nat:=if [45].isPrefixOf l then 2 else 1
theorem Uw(l:Str):Gl l=some ((QU l:Nat):Int):=by
 unfold Gl QU;simp only[ze,Xt,Aa]
 grind
def qg(l:Str):Str:=encW (l==[45]) (QU l) l
theorem Ew{n:Nat}(h:n<16):Qd (hexD n)=true/\hexN (hexD n)=n/\(hexD n==10)=false/\letB (hexD n)=true:=by
 have: ∀n:Nat,n<16->Qd (hexD n)=true/\hexN (hexD n)=n/\(hexD n==10)=false/\letB (hexD n)=true:=by decide+kernel
 exact this n h
theorem tH{k n:Nat}{c:UInt8}{r:Str}(h:Qd c=true):hexes (k+1) n (c::r)=hexes k (16*n+hexN c) r:=by rw[hexes,La h]
theorem lL{n:Nat}(h:n<256)(R:Str):hexes 6 0 (hexS n++32::R)=(n,32::R):=by
 unfold hexS;by_cases c:n<16
 ·obtain⟨a,b,_⟩:=Ew c;rw[La c,Yc,tH a,b,dF _ _ (32::R) (show Qd 32=false by decide)];simp
 ·obtain⟨a,b,_⟩:=Ew (show n / 16<16 by omega);obtain⟨e,d,_⟩:=Ew (show n%16<16 by omega);rw[Ga c,ma,Yc,tH a,tH e,b,d,dF _ _ (32::R) (show Qd 32=false by decide)]
  grind
theorem mH{n:Nat}(h:n<256)(R:Str): ∃d t,hexS n++R=d::t/\Qd d=true/\(d==10)=false:=by
 unfold hexS;by_cases c:n<16
 ·obtain⟨a,_,b,_⟩:=Ew c;simp_all
 ·obtain⟨a,_,b,_⟩:=Ew (show n / 16<16 by omega);exact⟨_,_,by rw[Ga c];rfl,a,b⟩
theorem PO{c:UInt8}(a:c≠0)(h:c.toNat<128):ag c.toNat=[c]:=by
 have b:c.toNat≠0:=by intro e;exact a (Re.1 e)
 unfold ag;rw[Ga (by omega),La h,Ud]
theorem yO{r:Str}(h:escS (92::r)=true):zm (92::r)=((zq r).1++(zm (zq r).2).1,(zm (zq r).2).2):=by rw[zF,Ga (by decide),La h]
theorem yM{c:UInt8}(h0:c≠0)(h:c.toNat<128)(R:Str):zm (escC c++R)=(c::(zm R).1,(zm R).2):=by
 unfold escC;cases hg:decide (32<c.toNat)&&decide (c.toNat<127)&& !digB c&& !alB c with
 |true=>
  rw[Ea];have hx:Qd c=false/\(c==10)=false:=by
   have: ∀n:Nat,n<256->(decide (32<(UInt8.ofNat n).toNat)&&decide ((UInt8.ofNat n).toNat<127)&& !digB (UInt8.ofNat n)&& !alB (UInt8.ofNat n))=true->Qd (UInt8.ofNat n)=false/\(UInt8.ofNat n==10)=false:=by decide+kernel
   have:=this c.toNat (Fb c);rw[Ud]at this;exact this hg
  have he:zq (c::R)=([c],R):=by show(if Qd c then _ else _)=_;rw[Ga (by rw[hx.1];decide)]
  rw[show [92,c]++R=92::c::R from rfl,yO (by unfold escS;rw[show atS (92::c::R) 0=92 from rfl,show atS (92::c::R) 1=c from rfl,hx.2];rfl),he];rfl
 |false=>
  rw[Ha,ma,Ra];obtain⟨d,t,e,hd,h10⟩:=mH (n:=c.toNat) (Fb c) ([32]++R);have he:zq (hexS c.toNat++([32]++R))=([c],R):=by have hh:=lL (n:=c.toNat) (Fb c) R;rw[show(32::R:Str)=[32]++R from rfl,e]at hh;rw[e];show(if Qd d then(ag (hexes 6 0 (d::t)).1,unsp (hexes 6 0 (d::t)).2)else _)=_;rw[La hd,hh,PO h0 h];rfl
  rw[yO (by rw[e];unfold escS;rw[show atS (92::d::t) 0=92 from rfl,show atS (92::d::t) 1=d from rfl,h10];rfl),he];rfl
theorem WF{c:UInt8}(h: ¬c.toNat<128):letB c=true/\digB c=false:=by
 have: ∀n:Nat,n<256-> ¬(UInt8.ofNat n).toNat<128->letB (UInt8.ofNat n)=true/\digB (UInt8.ofNat n)=false:=by decide+kernel
 have:=this c.toNat (Fb c);simp_all
theorem DL{dash:Bool}{k:Nat}{c:UInt8}(e:c≠0)(f:dash=true->c.toNat<128)(R:Str):zm (pcW dash k c++R)=(c::(zm R).1,(zm R).2):=by
 unfold pcW;cases d:letB c&&(k==0|| !digB c)&& !dash with
 |true=> rw[Ca,Ca]at d;rw[Ea,Yc,zF,La d.1.1]
 |false=>
  rw[Ha];refine yM e ?_ R;by_cases h:c.toNat<128
  ·exact h
  ·obtain⟨a,b⟩:=WF h
   grind
theorem BN{dash:Bool}: ∀(k:Nat) (l:Str),Zm l=true->(dash=true-> ∀c∈l,c.toNat<128)->zm (encW dash k l)=(l,[])
 |_,[],_,_=>by rw[encW,qJ]
 |k,c::r,h,a=>by unfold Zm at h;rw[Jd,Ca]at h;rw[encW,DL (by grind) (fun e=>a e c (Nb ..)),BN (k - 1) r h.2 (fun e x b=>a e x (Eb _ b))]
theorem yY{l:Str}(h:Zm l=true):zm (qg l)=(l,[]):=by refine BN _ _ h (fun e c a=> ?_);simp_all
theorem uB{dash:Bool}{k:Nat}(hk:0<k)(c:UInt8)(R:Str): ∃d t,pcW dash k c++R=d::t/\(d=92/\escS (d::t)=true\/(d=c/\dash=false/\letB d=true/\digB d=false/\t=R)):=by
 have hk0:(k==0)=false:=by rw[Fa];omega
 unfold pcW;rw[hk0,Ld];cases hg:letB c&& !digB c&& !dash with
 |true=> rw[Ca,Ca,He,He]at hg;exact⟨c,R,rfl, .inr ⟨rfl,hg.2,hg.1.1,hg.1.2,rfl⟩⟩
 |false=>
  rw[Ha];unfold escC;cases hg2:decide (32<c.toNat)&&decide (c.toNat<127)&& !digB c&& !alB c with
  |true=>
   refine⟨92,c::R,rfl, .inl ⟨rfl,?_⟩⟩;have:c≠10:=by rintro rfl;revert hg2;decide
   unfold escS;rw[show atS (92::c::R) 1=c from rfl,Fa.2 this];rfl
  |false=> obtain⟨d,t,e,hd,h10⟩:=mH (n:=c.toNat) (Fb c) ([32]++R);refine⟨92,_,by rw[Ha,ma,Ra], .inl ⟨rfl,?_⟩⟩;rw[e];unfold escS;rw[show atS (92::d::t) 1=d from rfl,h10];rfl
theorem dO{d:UInt8}(h:letB d=true)(h2:digB d=false):fstB d=true\/d=45:=by
 unfold letB at h
 grind
theorem pV{d:UInt8}{t:Str}(a:d=92)(h:escS (d::t)=true):nmS (d::t)=true:=by subst a;unfold nmS;rw[show atS (92::t) 0=92 from rfl,Ga (by decide),h,Bool.or_true]
theorem Yk{l:Str}(h:l≠[]):nmS (qg l)=true:=by
 cases l with
 |nil=>grind
 |cons c r=>
  unfold qg encW;obtain⟨d,t,e,u⟩:=uB (dash:=(c::r:Str)==[45]) (k:=QU (c::r)) (by unfold QU;split<;>omega) c (encW ((c::r:Str)==[45]) (QU (c::r) - 1) r);rw[e];rcases u with⟨q,j⟩|⟨rfl,j,x,v,o⟩
  ·exact pV q j
  ·rcases dO x v with p|rfl
   ·by_cases m:d=45
    ·subst m;exact absurd p (by decide)
    ·unfold nmS;rw[show atS (d::t) 0=d from rfl,Ga (by grind),p,Oe]
   ·have C:r≠[]:=by rintro rfl;exact absurd j (by decide)
    cases r with
    |nil=>grind
    |cons f g=>
     have A:QU (45::f::g)=2:=rfl;rw[A]at o;obtain⟨a,b,y,n⟩:=uB (dash:=(45::f::g:Str)==[45]) (k:=2 - 1) (by omega) f (encW ((45::f::g:Str)==[45]) (2 - 1 - 1) g);have z:t=a::b:=by rw[o,encW,y]
     rw[z];unfold nmS;rw[show atS (45::a::b) 0=45 from rfl,La (show((45:UInt8)==45)=true from rfl),show atS (45::a::b) 1=a from rfl,show(45::a::b:Str).drop 1=a::b from rfl];rcases n with⟨_,B⟩|⟨_,_,s,w,_⟩
     ·grind
     ·rcases dO s w with i|rfl
      ·rw[i];rfl
      ·simp
theorem jo(m:UInt8):zV m []=(some [],[]):=by rw[zV]
theorem qO(m c:UInt8)(r:Str):zV m (c::r)=if c==m then(some [],r)
  else if c==10 then(none,c::r)
  else if c==92 then
   (if r.isEmpty then(some [],[])
   else if atS r 0==10 then zV m (r.drop 1)
   else((zV m (zq r).2).1.map ((zq r).1++ ·),(zV m (zq r).2).2))
  else((zV m r).1.map (c:: ·),(zV m r).2):=by rw[zV]
theorem kC(m:UInt8)(l:Str):(zV m l).2<:+l:=by
 match l with
 |[]=>rw[jo];grind
 |c::r=>
  rw[qO];have a:=Be c r;split
  ·exact a
  ·split
   ·grind
   ·split
    ·split
     ·grind
     ·split
      ·exact(kC m (r.drop 1)).trans ((Me 1 r).trans a)
      ·have:=Za r;exact(kC m (zq r).2).trans ((ZM r).trans a)
    ·exact(kC m r).trans a
termination_by l.length
decreasing_by
 all_goals grind
theorem VF(a b:Str)(x:Option Str):(x.map (b++ ·)).map (a++ ·)=x.map ((a++b)++ ·):=by
 cases x with
 |none=>rfl
 |some t=>grind
theorem LM(a:Str)(b:UInt8)(x:Option Str):(x.map (b:: ·)).map (a++ ·)=x.map ((a++[b])++ ·):=VF a [b] x
def Vi:Option Str->zb
 |some t=>⟨5,t,0,[],false⟩
 |none=>⟨6,[],0,[],false⟩
theorem zCm{s q:Str}{m:UInt8}(k:s.length<=big)(w:m::q<:+s):qd (sr s (m::q))=some (Vi (zV m q).1,sr s (zV m q).2):=by
 have J:big=4194304:=rfl;have D:=di w;unfold qd;simp only[ze,bg k w,Aa,Xn,Ph k w]
 let g:LX (za×zb×List UInt8) (zb×za):=match(zV m q).1 with
  |some t=> .out (sr s (zV m q).2,⟨0,[],0,[],false⟩,t)
  |none=> .ret (⟨6,[],0,[],false⟩,sr s (zV m q).2)
 rw[Ao (r:=g)]
 ·show LX.go g _=_;cases h:(zV m q).1 with
  |some t=>simp only[g,h];rfl
  |none=>simp only[g,h];rfl
 refine Qf (fun z=> ∃(p e:Str),z=(sr s p,⟨0,[],0,[],false⟩,e)/\p<:+s/\e.length+4*p.length<=4*s.length/\(zV m q).1=(zV m p).1.map (e++ ·)/\(zV m q).2=(zV m p).2) (fun z=>s.length - z.1.at_.toNat) _ ?_
  ⟨q,[],rfl,D,by grind,by simp,rfl⟩
 rintro _ ⟨p,e,rfl,j,C,b,a⟩;simp only[bg k j,Aa,Nn,wJ,IV];cases p with
 |nil=>
  refine .inr (.inl ⟨_,rfl,?_⟩);rw[jo]at b a
  grind
 |cons c t=>
  have i:=j.length_le;rw[Sa]at i C;have n:=di j;rw[qO]at b a;rw[show(c::t).isEmpty=false from rfl,Ha,Xn,show((c.toNat:Int)==(m.toNat:Int))=(c==m)from aA c m,show atS (c::t) 0=c from rfl,Ph k j];have f: ∀u:Str,u.length<=t.length->u<:+s->s.length - beh s u<s.length - beh s (c::t):=by intro u A F;unfold beh;rw[Sa];omega
  cases v:c==m with
  |true=>
   grind
  |false=>
   rw[v,Ga (by decide)]at b a;rw[Ha];cases y:c==10 with
   |true=>
    grind
   |false=>
    rw[y,Ga (by decide)]at b a;rw[Ha];cases l:c==92 with
    |false=> rw[l,Ga (by decide)]at b a;simp only[zu,Ha,Aa,Df,Sw];rw[zy (kg (by omega))];exact .inl ⟨_,rfl,⟨t,e++[c],rfl,n,by grind,by rw[b,LM],a⟩,f t (by omega) n⟩
    |true=>
     rw[l,La rfl]at b a;simp only[zu,Ea,pu k j,Aa,Jc];have x:pk (c::t) 1=pk t 0:=rfl;rw[x,Nn];cases t with
     |nil=>
      rw[show([]:Str).isEmpty=true from rfl,La rfl]at b a;have o:beh s [c]=s.length - 1:=rfl;have G:(if((s.length:Int)<w64 ((beh s [c]:Int)+2))then(s.length:Int)else w64 ((beh s [c]:Int)+2))=((beh s []:Nat):Int):=by rw[zW (by omega) (by omega),La (by omega)];unfold beh;rw[lc];omega
      refine .inl ⟨(sr s [],⟨0,[],0,[],false⟩,e),?_,⟨[],e,rfl,List.nil_suffix,by grind,by rw[b,jo],by rw[a,jo]⟩,f [] (by simp) List.nil_suffix⟩
      grind
     |cons d u=>
      rw[show(d::u).isEmpty=false from rfl,Ga (by decide)]at b a;simp only[show(d::u).isEmpty=false from rfl,Cc,Ea,Ha,Aa,wJ];cases B:atS (d::u) 0==10 with
      |true=>
       rw[B,La rfl]at b a;have A:=di n;rw[Sa]at i C;have o:beh s (c::d::u)=s.length - (u.length+1+1):=by unfold beh;rw[Sa,Sa]
       have G:(if((s.length:Int)<w64 ((beh s (c::d::u):Int)+2))then(s.length:Int)else w64 ((beh s (c::d::u):Int)+2))=((beh s u:Nat):Int):=by rw[zW (by omega) (by omega),Ga (by omega)];unfold beh;rw[Sa,Sa];omega
       refine .inl ⟨(sr s u,⟨0,[],0,[],false⟩,e),?_,⟨u,e,rfl,A,by omega,b,a⟩,f u (by grind) A⟩
       grind
      |false=> rw[B,Ga (by decide)]at b a;have H:=Ls (d::u);have E:=Za (d::u);refine .inl ⟨(sr s (zq (d::u)).2,⟨0,[],0,[],false⟩,e++(zq (d::u)).1),?_,⟨_,_,rfl,(ZM _).trans n,by grind,by rw[b,VF],a⟩,f _ E ((ZM _).trans n)⟩;simp only[Ha,rH k j (show e.length<=1000000000 by omega),Aa]
theorem GV{n:Nat}(l:n≠0)(h:n<16777216):ZQ (w32 (n:Int))=some (ag n):=by
 have j:zX 0 1 1=true:=kg (by omega);have f:zX 0 2 1=true:=kg (by omega);have d:zX 0 3 1=true:=kg (by omega);have g:zX 0 4 1=true:=kg (by omega);have c:(128+n%64)<256:=by omega
 have a:(128+n / 64%64)<256:=by omega
 have b:(128+n / 4096%64)<256:=by omega
 unfold ZQ ZW ag;simp only[Dm (show n<2147483648 by omega),IM (show n<2147483648 by omega),ze,shr6,BV,AV,OM,Zw c,Zw a,Zw b,Aa];by_cases e:n<128
 ·rw[Ma (by omega),Ea,Ev,Zw (by omega),Aa,zy j,Ga (by omega),La e,jf (by omega)]
 ·rw[Dc (by omega),Ha];by_cases i:n<2048
  ·rw[Ma (by omega),Ea,pU (by omega),Zw (by omega)];simp only[Aa];rw[zy f,Ga (by omega),Ga (by omega),La i];rfl
  ·rw[Dc (by omega),Ha];by_cases m:n<55296
   ·rw[Ma (by omega),Ea,zh];simp only[Ea];rw[Az (by omega),Zw (by omega)];simp only[Aa];rw[zy d,Ga (by omega),Ga (by omega),Ga (by omega),La (by omega)];rfl
   ·rw[Dc (by omega),Ha,zh];simp only[XV];by_cases k:57343<n/\n<65536
    ·rw[Ma (by omega),Ma (by omega),Jc,Ea,Az (by omega),Zw (by omega)];simp only[Aa];rw[zy d,Ga (by omega),Ga (by omega),Ga (by omega),La (by omega)];rfl
    ·rw[show(decide ((57343:Int)<(n:Int))&&decide ((n:Int)<=65535))=false by grind,Ha];by_cases o:65535<n/\n<=1114111
     ·rw[Ma (by omega),Ma (by omega),Jc,Ea,oU (by omega),Zw (by omega)];simp only[Aa];rw[zy g,Ga (by omega),Ga (by omega),Ga (by omega),Ga (by omega)];rfl
     ·rw[show(decide ((n:Int)>65535)&&decide ((n:Int)<=1114111))=false by grind,Ha,zy d,La (by omega)];rfl
theorem wP:ZQ 65533=some Ml:=by have h:=GV (n:=65533) (by omega) (by omega);rw[Dm (by omega)]at h;exact h
theorem JZ{s l:Str}{c:UInt8}(hs:s.length<=big)(hr:c::l<:+s):
  ZF (sr s (c::l))=some (sr s (zq l).2,(zq l).1):=by
 have hl:=di hr;unfold ZF;simp only[Ph hs hr,ze,bg hs hl,Aa,Nn];cases l with
 |nil=> rw[show([]:Str).isEmpty=true from rfl,Ea,wP];rfl
 |cons d r=>
  rw[show(d::r).isEmpty=false from rfl,Ha,JE];simp only[Aa,VB];cases hx:Qd (atS (d::r) 0)with
  |false=>
   rw[Cc,Ea,Xn,Sw];simp only[Aa,Ph hs hl];rw[zy (kg (n:=0) (by omega))];have:zq (d::r)=([d],r):=by show(if Qd d then _ else _)=_;rw[Ga (by rw[show Qd d=false from hx];decide)]
   rw[this]
  |true=>
   rw[Ec,Ha];have he:zq (d::r)=(ag (hexes 6 0 (d::r)).1,unsp (hexes 6 0 (d::r)).2):=by show(if Qd d then _ else _)=_;rw[La (show Qd d=true from hx)]
   rw[he];rw[Qg (iM (l:=d::r) hl (fun n i q hq hn hi=> ?_))]
   ·have hq:(hexes 6 0 (d::r)).2<:+s:=(SC 6 0 _).trans hl;have hlt:=UG 6 0 (d::r);rw[show 16 ^ 6*(0+1)=16777216 from rfl]at hlt;simp only[bg hs hq,Aa,bv];have hj:(bif spB (atS (hexes 6 0 (d::r)).2 0)then some (LX.out (((hexes 6 0 (d::r)).1:Int),(⟨s,w64 ((beh s (hexes 6 0 (d::r)).2:Int)+1)⟩:za)))else some (LX.out (((hexes 6 0 (d::r)).1:Int),sr s (hexes 6 0 (d::r)).2)):Option (LX (Int×za) (za×List UInt8)))
      =some (LX.out (((hexes 6 0 (d::r)).1:Int),sr s (unsp (hexes 6 0 (d::r)).2))):=by
     cases hh:(hexes 6 0 (d::r)).2 with
     |nil=>rfl
     |cons e t=>
      rw[hh]at hq;rw[show atS (e::t) 0=e from rfl,Ph hs hq];show _=some (LX.out (_,sr s (if spB e then t else e::t)))
      grind
    rw[hj,zh];simp only;by_cases h0:(hexes 6 0 (d::r)).1=0
    ·rw[h0,show((((0:Nat):Int))==0)=true from rfl,Ea,zh];simp only[Dm (show 65533<2147483648 by omega),show w32 (65533:Int)=65533 from Dm (n:=65533) (by omega),wP,Aa];rfl
    ·rw[show(((hexes 6 0 (d::r)).1:Int)==0)=false by grind,Ha,zh];simp only[GV h0 hlt,Aa]
   ·simp only[bg hs hq,Aa,JE,VB];have hb6:decide ((i:Int)<6)=decide (i<6):=by rw[Af];omega
    rw[hb6];cases decide (i<6)with
    |false=>rfl
    |true=>
     rw[Ea,Sb];cases hx2:Qd (atS q 0)with
     |false=>rfl
     |true=>
      cases q with
      |nil=>exact absurd hx2 (by decide)
      |cons e t=>
       have hI:hexI (atS (e::t) 0)=(hexN (atS (e::t) 0):Int):=by unfold hexI;rw[La hx2]
       rw[hI,iV hn (NA hx2),Ph hs hq,zW (by omega) (by omega)];rfl
theorem Yw:badS []=[]:=by rw[badS]
theorem Dx(c:UInt8)(r:Str):badS (c::r)=if c==41 then r else if escS (c::r)then badS (zq r).2 else badS r:=by rw[badS]
theorem fA(l:Str):badS l<:+l:=by
 match l with
 |[]=>rw[Yw];grind
 |c::r=>
  rw[Dx];have a:=Be c r;split
  ·exact a
  ·split
   ·have:=Za r;exact(fA (zq r).2).trans ((ZM r).trans a)
   ·exact(fA r).trans a
termination_by l.length
decreasing_by
 all_goals grind
theorem zDa{s t:Str}{c:UInt8}(e:s.length<=big)(h:c::t<:+s):geti s (w64 ((beh s t:Int) - 1))=some c:=by
 have f:big=4194304:=rfl;have b:=h.length_le;rw[Sa]at b;have d:=Vr h;have g:beh s t=beh s (c::t)+1:=by unfold beh;rw[Sa];omega
 have a:beh s (c::t)<s.length:=by unfold beh;rw[Sa];omega
 rw[zW (by omega) (by omega),show(beh s t:Int) - 1=((beh s (c::t):Nat):Int) by omega,QV a];rw[Jb a]at d
 grind
theorem badR{s q:Str}(e:s.length<=big)(j:q<:+s):ZO (sr s q)=some (⟨8,[],0,[],false⟩,sr s (badS q)):=by
 unfold ZO;refine NH ?_;refine Qf (fun z=> ∃(p:Str),z=(sr s p,(⟨0,[],0,[],false⟩:zb))/\p<:+s/\badS q=badS p) (fun z=>s.length - z.1.at_.toNat) _ ?_ ⟨q,rfl,j,rfl⟩;rintro _ ⟨p,rfl,b,g⟩;simp only[ze,bg e b,Aa,Nn];cases p with
 |nil=>exact .inr (.inr ⟨_,rfl,by rw[g,Yw]⟩)
 |cons c t=>
  have d:=b.length_le;rw[Sa]at d;have i:=di b;have f: ∀u:Str,u.length<=t.length->u<:+s->s.length - beh s u<s.length - beh s (c::t):=by intro u l k;unfold beh;rw[Sa];omega
  rw[show(c::t).isEmpty=false from rfl,Ha,aG e b];rw[Dx]at g;simp only[Aa];cases a:escS (c::t)with
  |true=>
   have h:(c==41)=false:=by unfold escS at a;rw[Ca,Rb]at a;rw[show c=92 from a.1];decide
   rw[a,h,Ga (by decide),La rfl]at g;rw[Ea,JZ e b];exact .inl ⟨_,rfl,⟨_,rfl,(ZM t).trans i,g⟩,f _ (Za t) ((ZM t).trans i)⟩
  |false=>
   rw[Ha,Ph e b,zDa e b];simp only[Aa];rw[show((c.toNat:Int)==41)=(c==41)from aA c 41]
   grind
theorem Jo:urlS []=(some [],[]):=by rw[urlS]
theorem Bl(c:UInt8)(r:Str):urlS (c::r)=if c==41 then(some [],r)
  else if spB c then(match past spB r with
   |[]=>(some [],[])
   |d::a=>if d==41 then(some [],a)else(none,badS (d::a)))
  else if c==34||c==39||c==40||unB c||c==92&& !escS (c::r)then(none,badS (c::r))
  else if c==92 then((urlS (zq r).2).1.map ((zq r).1++ ·),(urlS (zq r).2).2)
  else((urlS r).1.map (c:: ·),(urlS r).2):=by rw[urlS];grind
theorem fF(l:Str):(urlS l).2<:+l:=by
 match l with
 |[]=>rw[Jo];grind
 |c::r=>
  rw[Bl];have a:=Be c r;split
  ·exact a
  ·split
   ·have b:=(Mm spB r).trans a;cases e:past spB r with
    |nil=>grind
    |cons d f=>
     rw[e]at b;simp only;split
     ·exact(Be d f).trans b
     ·exact(fA _).trans b
   ·split
    ·exact fA _
    ·split
     ·have:=Za r;exact(fF (zq r).2).trans ((ZM r).trans a)
     ·exact(fF r).trans a
termination_by l.length
decreasing_by
 all_goals grind
def Ti:Option Str->zb
 |some t=>⟨7,t,0,[],false⟩
 |none=>⟨8,[],0,[],false⟩
theorem zCB(c:UInt8): ∃y,zu (!(bif bif bif bif (c.toNat:Int)==34 then true else(c.toNat:Int)==39 then true else(c.toNat:Int)==40 then true else decide ((c.toNat:Int)<=8)then true else(c.toNat:Int)==11)) (ZI ((c.toNat:Int),14,31)) (default:Bool)=some y/\
  (bif bif bif bif bif bif (c.toNat:Int)==34 then true else(c.toNat:Int)==39 then true else(c.toNat:Int)==40 then true else decide ((c.toNat:Int)<=8)then true else(c.toNat:Int)==11 then true else y then true else(c.toNat:Int)==127)=(c==34||c==39||c==40||unB c):=by
 have a: ∀n:Nat,n<256->((zu (!(bif bif bif bif (n:Int)==34 then true else(n:Int)==39 then true else(n:Int)==40 then true else decide ((n:Int)<=8)then true else(n:Int)==11)) (ZI ((n:Int),14,31)) (default:Bool)).elim false fun y=>
  (bif bif bif bif bif bif (n:Int)==34 then true else(n:Int)==39 then true else(n:Int)==40 then true else decide ((n:Int)<=8)then true else(n:Int)==11 then true else y then true else(n:Int)==127)==(UInt8.ofNat n==34||UInt8.ofNat n==39||UInt8.ofNat n==40||unB (UInt8.ofNat n)))=true:=by decide+kernel
 have h:=a c.toNat (Fb c);rw[Ud]at h;cases b:zu (!(bif bif bif bif (c.toNat:Int)==34 then true else(c.toNat:Int)==39 then true else(c.toNat:Int)==40 then true else decide ((c.toNat:Int)<=8)then true else(c.toNat:Int)==11)) (ZI ((c.toNat:Int),14,31)) (default:Bool)with
 |none=>grind
 |some y=>
  grind
theorem sJ(c:UInt8)(t:Str):(pk (c::t) 0== -1)=false:=by rw[Nn];rfl
theorem urlR{s w:Str}(f:s.length<=big)(v:w<:+s):Qm (sr s w)=some (Ti (urlS (past spB w)).1,sr s (urlS (past spB w)).2):=by
 have L:big=4194304:=rfl;unfold Qm;rw[Oz f v];simp only[ze,Aa];have E:=Ko spB v;generalize past spB w=q at E ⊢;refine NH ?_;refine Qf (fun z=> ∃(p e:Str),z=(sr s p,(⟨0,[],0,[],false⟩:zb),e)/\p<:+s/\e.length+4*p.length<=4*s.length/\(urlS q).1=(urlS p).1.map (e++ ·)/\(urlS q).2=(urlS p).2) (fun z=>s.length - z.1.at_.toNat) _ ?_
  ⟨q,[],rfl,E,by grind,by simp,rfl⟩
 rintro _ ⟨p,e,rfl,h,G,b,a⟩;simp only[bg f h,Aa,bv];cases p with
 |nil=> refine .inr (.inr ⟨_,rfl,?_⟩);rw[Jo]at b a;rw[b,a];simp only[Pb,Bb,Ti]
 |cons c t=>
  have m:=h.length_le;rw[Sa]at m G;have r:=di h;have k: ∀u:Str,u.length<=t.length->u<:+s->s.length - beh s u<s.length - beh s (c::t):=by intro u M J;unfold beh;rw[Sa];omega
  rw[Bl]at b a;rw[show atS (c::t) 0=c from rfl];cases j:spB c with
  |true=>
   have i:(c==41)=false:=by rw[Fa];rintro rfl;exact absurd j (by decide)
   rw[i,j,Ga (by decide),La rfl]at b a;have D:past spB (c::t)=past spB t:=by rw[past,La j]
   have g:past spB t<:+s:=Ko spB r;rw[Ea,Oz f h,D];simp only[Aa,bg f g];cases o:past spB t with
   |nil=> rw[o]at b a;refine .inr (.inr ⟨_,rfl,?_⟩);simp only at b a;rw[b,a];simp only[Pb,Bb,Ti]
   |cons d F=>
    rw[o]at b a g;simp only at b a;unfold bne;rw[vJ,sJ,show atS (d::F) 0=d from rfl];cases C:d==41 with
    |true=> rw[C,La rfl]at b a;refine .inr (.inr ⟨_,?_,rfl⟩);simp only[Ec,Ha,zh,sJ,vJ,show atS (d::F) 0=d from rfl,C,Ea,Ph f g];rw[b,a];simp only[Pb,Bb,Ti]
    |false=> rw[C,Ga (by decide)]at b a;refine .inr (.inr ⟨_,?_,rfl⟩);simp only[Cc,Ea,badR f g,Aa,zwJ];rw[b,a];rfl
  |false=>
   rw[Ha,zh];simp only[sJ,vJ,show atS (c::t) 0=c from rfl,Ha,Ph f h];cases i:c==41 with
   |true=> rw[i,La rfl]at b a;refine .inr (.inr ⟨_,by rw[Ea],?_⟩);rw[b,a];simp only[Pb,Bb,Ti]
   |false=>
    rw[i,Ga (by decide),j,Ga (by decide)]at b a;rw[Ha];obtain⟨y,B,A⟩:=zCB c;rw[Xn,B];simp only[Aa];rw[A];cases x:(c==34||c==39||c==40||unB c)with
    |true=> rw[x,Oe,La rfl]at b a;refine .inr (.inr ⟨_,?_,rfl⟩);rw[Ea,badR f h];simp only[Aa];rw[b,a];rfl
    |false=>
     rw[x,Ld]at b a;rw[Ha];unfold bne;rw[show((c.toNat:Int)==92)=(c==92)from aA c 92];cases n:c==92 with
     |false=> rw[n,Rc,Ga (by decide),Ga (by decide)]at b a;rw[Cc,Ea,Sw];simp only[Aa];rw[zy (kg (by omega))];exact .inl ⟨_,rfl,⟨t,e++[c],rfl,r,by grind,by rw[b,LM],a⟩,k t (Ya _) r⟩
     |true=>
      rw[n,Sb]at b a;rw[Ec,Ha,aG f h];simp only[Aa];cases l:escS (c::t)with
      |true=> rw[l,Ec,Ga (by decide),La rfl]at b a;have K:=Ls t;have H:=Za t;refine .inl ⟨(sr s (zq t).2,⟨0,[],0,[],false⟩,e++(zq t).1),?_,⟨_,_,rfl,(ZM _).trans r,by grind,by rw[b,VF],a⟩,k _ H ((ZM _).trans r)⟩;simp only[Ea,rH f h (show e.length<=1000000000 by omega),Aa]
      |false=> rw[l,Cc,La rfl]at b a;refine .inr (.inr ⟨_,?_,rfl⟩);rw[Ha,badR f h];simp only[Aa];rw[b,a];rfl
def hdB(b:UInt8):Bool:=b==45||fstB b||b==92
theorem Tp{q:Str}(h:nmS q=true):hdB (atS q 0)=true:=by
 unfold nmS at h;unfold hdB;cases a:atS q 0==45 with
 |true=>rfl
 |false=>
  rw[a,Ga (by decide),Tc]at h;rcases h with h|h
  ·rw[h];rfl
  ·unfold escS at h
   grind
theorem ou{b:UInt8}(h:hdB b=true):spB b=false/\(b==34)=false/\(b==39)=false/\(b==35)=false/\(b==64)=false/\(b==47)=false/\(b==60)=false/\(b==43)=false/\(b==46)=false/\digB b=false/\b≠0:=by
 have: ∀n:Nat,n<256->hdB (UInt8.ofNat n)=true->spB (UInt8.ofNat n)=false/\(UInt8.ofNat n==34)=false/\(UInt8.ofNat n==39)=false/\(UInt8.ofNat n==35)=false/\(UInt8.ofNat n==64)=false/\(UInt8.ofNat n==47)=false/\(UInt8.ofNat n==60)=false/\(UInt8.ofNat n==43)=false/\(UInt8.ofNat n==46)=false/\digB (UInt8.ofNat n)=false/\UInt8.ofNat n≠0:=by decide+kernel
 have:=this b.toNat (Fb b);simp_all
theorem rU{q:Str}(h:nmS q=true):nbS q=false:=by
 obtain⟨_,_,_,_,_,_,_,a,j,f,_⟩:=ou (Tp h);unfold nbS unsign Xf;rw[a,Ld];cases b:atS q 0==45 with
 |false=>
  rw[Ga (by decide)];unfold undot
  grind
 |true=>
  rw[La rfl];unfold nmS at h;rw[b,La rfl]at h;have i:hdB (atS q 1)=true:=by
   unfold hdB;cases e:fstB (atS q 1)with
   |true=>simp
   |false=>
    cases g:atS q 1==45 with
    |true=>rfl
    |false=> rw[e,g,Ld,Ld]at h;unfold escS at h;rw[Ca,Qu]at h;rw[h.1];rfl
  obtain⟨_,_,_,_,_,_,_,_,d,c,_⟩:=ou i;unfold undot;rw[Qu,d,Ga (by decide),Qu,c]
theorem MV{s r:Str}:(decide ((0:Int)<=(beh s r:Int))&&decide ((beh s r:Int)<=(s.length:Int)))=true:=by
 have:=Uk s r
 grind
theorem xE{s r:Str}(a:r<:+s):List.drop ((beh s r:Int)).toNat s=r:=by rw[Ic,Vr a]
theorem iE{a b:UInt8}{m t:Str}(h:(b==a)=false):(a::m).isPrefixOf (b::t)=false:=by
 grind
theorem zCk{a:UInt8}{m q:Str}(c:a≠0)(h:(atS q 0==a)=false):(a::m).isPrefixOf q=false:=by
 cases q with
 |nil=>rfl
 |cons b t=>exact iE h
def capF(cap:Nat):Nat->Str->Nat
 |n,[]=>n
 |n,c::r=>capF cap (min cap (decN n c)) r
theorem XP(cap:Nat): ∀(l:Str) (n:Nat) (c:UInt8),capF cap n (l++[c])=min cap (decN (capF cap n l) c)
 |[],_,_=>rfl
 |d::l,n,c=>by show capF cap (min cap (decN n d)) (l++[c])=_;rw[XP cap l];rfl
theorem uA(cap:Nat): ∀(l:Str) (n:Nat),n<=cap->capF cap n l<=cap
 |[],_,h=>h
 |c::l,n,_=>uA cap l _ (Nat.min_le_left ..)
theorem iN {R:Type} {step:Int×Int->Option (LO (Int×Int) Int R)} {l:Str} {cap:Nat} (b:l.all digB=true) (j:l.length<=100000) (f:cap<=1000000000000)
  (a: ∀(v:Int) (i:Nat) (hi:i<l.length),step (v,(i:Int))=some (.again (if(cap:Int)<w64 (w64 (10*v)+w64 (wu8 ((l[i].toNat:Int) - 48)))then(cap:Int)else w64 (w64 (10*v)+w64 (wu8 ((l[i].toNat:Int) - 48))),w64 ((i:Int)+1))))
  (h2: ∀v:Int,step (v,(l.length:Int))=some (.out v)):Tg step (0,0)=some (.out ((capF cap 0 l:Nat):Int)):=by
 refine Qf (fun s=> ∃i:Nat,i<=l.length/\s=(((capF cap 0 (l.take i):Nat):Int),(i:Int))) (fun s=>l.length - s.2.toNat) _ ?_ ⟨0,by omega,rfl⟩;rintro _ ⟨i,hi,rfl⟩;rcases Lc i l.length with h|h
 ·refine .inl ⟨_,a _ i h,⟨i+1,by omega,?_⟩,by simp only;rw[zW (by omega) (by omega)];omega⟩;have e:=Ns (Ta.1 b _ (Sd h));have d:capF cap 0 (l.take (i+1))=min cap (decN (capF cap 0 (l.take i)) l[i]):=by rw[ve h,XP]
  have g:=uA cap (l.take i) 0 (Bc _);have c:wu8 ((l[i].toNat:Int) - 48)=((l[i].toNat - 48:Nat):Int):=by show IntKind.u8.wrap _=_;rw[IntKind.wrap_u8];omega
  unfold decN at d;rw[c,zW (n:=10*_) (by omega) (by omega),zW (n:=((l[i].toNat - 48:Nat):Int)) (by omega) (by omega),zW (n:=(i:Int)+1) (by omega) (by omega),zW (by omega) (by omega)];refine Prod.ext ?_ ?_
  ·grind
  ·grind
 grind
theorem vN: ∀(k n:Nat),n<=Kh->Gi k n<=Kh
 |0,_,h=>h
 |k+1,n,h=>by
  unfold Gi;split
  ·exact h
  ·exact vN k _ (Nat.min_le_left ..)
theorem P7 {R:Type} {step:Int×Int->Option (LO (Int×Int) Int R)} {v:Nat} {p:Int} (n:p<=4000000) (d: -4000000<=p) (i:v<=1000000000000)
  (h: ∀(a b:Int),step (a,b)=bif bif bif decide (a>0)then decide (b>0)else false then decide (b<1000000000000)else false then some (.again (w64 (a - 1),if 1000000000000<w64 (10*b)then 1000000000000 else w64 (10*b)))else some (.out b)):
  Tg step (p,(v:Int))=some (.out ((Gi p.toNat v:Nat):Int)):=by
 have o:Kh=1000000000000:=rfl;refine Qf (fun s=> ∃(a:Int) (b:Nat),s=(a,(b:Int))/\a<=4000000/\ -4000000<=a/\b<=1000000000000/\Gi a.toNat b=Gi p.toNat v) (fun s=>s.1.toNat) _ ?_ ⟨p,v,rfl,n,d,i,rfl⟩;rintro _ ⟨a,b,rfl,r,f,q,c⟩;rw[h];by_cases e:a>0
 ·obtain⟨k,l⟩: ∃k,a.toNat=k+1:=⟨a.toNat - 1,by omega⟩;rw[l,Gi]at c;rw[Ma e,Ea];by_cases g:b=0\/Kh<=b
  ·grind
  ·rw[Ga g]at c;have m:decide (((b:Nat):Int)>0)=true:=Ma (by omega);have j:decide (((b:Nat):Int)<1000000000000)=true:=Ma (by omega);rw[m,Ea,j,Ea];refine .inl ⟨_,rfl,⟨a - 1,min Kh (10*b),?_,by omega,by omega,by omega,?_⟩,by simp only;rw[zW (by omega) (by omega)];omega⟩
   ·rw[zW (by omega) (by omega),zW (by omega) (by omega)]
    grind
   grind
 ·rw[Dc e,Ha];refine .inr (.inl ⟨_,rfl,?_⟩);rw[<-c,show a.toNat=0 by omega];rfl
structure NumP where
 sg:Str
 D:Str
 F:Option Str
 X:Option (UInt8×Str×Str)
def dotS:Option Str->Str
 |none=>[]
 |some f=>46::f
def expT:Option (UInt8×Str×Str)->Str
 |none=>[]
 |some (e,s,x)=>e::(s++x)
def NumP.txt(n:NumP):Str:=n.sg++(n.D++(dotS n.F++expT n.X))
def sgB(s:Str):Bool:=s==[]||s==[43]||s==[45]
def NumP.ok(n:NumP):Bool:=sgB n.sg&&n.D.all digB&&(match n.F with|none=> !n.D.isEmpty|some f=> !f.isEmpty&&f.all digB)&&
 (match n.X with|none=>true|some (e,s,x)=>(e==101||e==69)&&sgB s&& !x.isEmpty&&x.all digB)
def expV:Option (UInt8×Str×Str)->Int
 |none=>0
 |some (_,s,x)=>if s==[45]then -((capF 1048576 0 x:Nat):Int)else((capF 1048576 0 x:Nat):Int)
def thoV(A:Str)(p:Int):Nat:=Gi p.toNat (capF Kh 0 (if p<0 then A.take ((A.length:Int)+p).toNat else A))
def NumP.val(n:NumP):Int:=
 let v:=thoV (n.D++n.F.getD []) (3+expV n.X - ((n.F.getD []).length:Int))
 if n.sg==[45]then -(v:Int)else(v:Int)
theorem JB{s:Str}(h:sgB s=true):s=[]\/s=[43]\/s=[45]:=by
 unfold sgB at h
 grind
theorem kK{s q:Str}(h:sgB s=true)(b: ∀c r,q=c::r->List.contains [43,45] c=false):Lib.trimLeftS (s++q) [43,45]=q:=by
 have a:Lib.trimLeftS q [43,45]=q:=by
  unfold Lib.trimLeftS;cases q with
  |nil=>rfl
  |cons c r=>simp_all
 rcases JB h with rfl|rfl|rfl
 ·exact a
 ·show List.dropWhile _ (43::q)=_;rw[List.dropWhile_cons];exact a
 ·show List.dropWhile _ (45::q)=_;rw[List.dropWhile_cons];exact a
theorem FM{e:UInt8}(he:e=101\/e=69)(t:Str): ∀(l:Str),(l.all fun b=>digB b||b==46)=true->Lib.indexAny (l++e::t) [101,69]=(l.length:Int)
 |[],_=>by
  rw[Mc,Lib.indexAny]
  grind
 |c::l,h=>by
  rw[Jd,Ca]at h;have hc:List.contains [101,69] c=false:=by
   have: ∀n:Nat,n<256->(digB (UInt8.ofNat n)||UInt8.ofNat n==46)=true->List.contains [101,69] (UInt8.ofNat n)=false:=by decide+kernel
   have:=this c.toNat (Fb c);rw[Ud]at this;exact this h.1
  rw[ma,Lib.indexAny,hc,FM he t l h.2]
  grind
theorem CW{l:Str}(h:l.all digB=true):(l.all fun b=>digB b||b==46)=true:=by
 grind
theorem dw{l:Str}(h: ∀b∈l,b.toNat<128):mg l=true:=by
 unfold mg
 grind
theorem KY{l:Str}(h:mg l=true): ∀b∈l,b.toNat<128:=by
 unfold mg at h
 grind
theorem zBl{D:Str}(a:D.all digB=true)(F:Option Str): ∃f,Lib.cut (D++dotS F) [46]=(D,F.getD [],f):=by
 unfold Lib.cut;rw[rC];cases F with
 |none=> rw[show dotS none=[]from rfl,Bb,aF _ a,Ga (by decide)];simp_all
 |some g=> rw[show dotS (some g)=46::g from rfl,bF _ _ a,La (by omega)];simp_all
theorem nM {D:Str} {F:Option Str} {E:Int} (w:D.all digB=true) (y:(F.getD []).all digB=true) (R:D.length+(F.getD []).length<=50000) (Q:E<=2000000) (C: -2000000<=E) (s:UInt8) (r:Str)
  (M:((s.toNat:Int)==45)=(r==[45])) (u:short (D++dotS F)=true):
  (ze (cutF (D++dotS F,[46])) fun c=>
 need (Fg c.1.length c.2.1.length)<|
 zS (X:=Str×Int) (
   bif decide (w64 ((3+E) - (c.2.1.length:Int))<0)then
    need (decide (0<=(if w64 (((c.1++c.2.1).length:Int)+w64 ((3+E) - (c.2.1.length:Int)))>0 then w64 (((c.1++c.2.1).length:Int)+w64 ((3+E) - (c.2.1.length:Int)))else 0))&&decide ((if w64 (((c.1++c.2.1).length:Int)+w64 ((3+E) - (c.2.1.length:Int)))>0 then w64 (((c.1++c.2.1).length:Int)+w64 ((3+E) - (c.2.1.length:Int)))else 0)<=((c.1++c.2.1).length:Int)))<|
    some (LX.out (List.take (if w64 (((c.1++c.2.1).length:Int)+w64 ((3+E) - (c.2.1.length:Int)))>0 then w64 (((c.1++c.2.1).length:Int)+w64 ((3+E) - (c.2.1.length:Int)))else 0).toNat (c.1++c.2.1),w64 ((3+E) - (c.2.1.length:Int))))
   else
    some (LX.out (c.1++c.2.1,w64 ((3+E) - (c.2.1.length:Int))))) fun j=>
 need (decide (j.1.length<=maxLen))<|
 Zy (fun(d:Int×Int)=>
   bif decide (d.2<(j.1.length:Int))then
    need (decide (0<=d.2)&&decide (d.2<(j.1.length:Int)))<|
    ze j.1[d.2.toNat]? fun g=>
    some (LO.again (if 1000000000000<w64 (w64 (10*d.1)+w64 (wu8 ((g.toNat:Int) - 48)))then 1000000000000 else w64 (w64 (10*d.1)+w64 (wu8 ((g.toNat:Int) - 48))),w64 (d.2+1)))
   else
    some (LO.out d.1):Int×Int->Option (LO (Int×Int) (Int) _)) (0,0) fun l=>
 Zy (fun(e:Int×Int)=>
   bif bif bif decide (e.1>0)then decide (e.2>0)else false then decide (e.2<1000000000000)else false then
    some (LO.again (w64 (e.1 - 1),if 1000000000000<w64 (10*e.2)then 1000000000000 else w64 (10*e.2)))
   else
    some (LO.out e.2):Int×Int->Option (LO (Int×Int) (Int) _)) (j.2,l) fun h=>
 zS (X:=Int) (
   bif (s.toNat:Int)==45 then
    some (LX.out (w64 (0 - h)))
   else
    some (LX.out h)) fun k=>
 some k)=some (if r==[45]then -((thoV (D++F.getD []) (3+E - ((F.getD []).length:Int)):Nat):Int)else((thoV (D++F.getD []) (3+E - ((F.getD []).length:Int)):Nat):Int)):=by
 obtain⟨f,m⟩:=zBl w F;have O:cutF (D++dotS F,[46])=some (D,F.getD [],f):=by unfold cutF;rw[zy (by exact u)];exact congrArg some m
 have x:maxLen=9223372036854775807:=rfl;have t:Kh=1000000000000:=rfl;simp only[ze,O,Aa];generalize F.getD []=G at*;rw[zy (yw.2 (by omega))];obtain⟨p,L⟩: ∃p:Int,p=3+E - (G.length:Int):=⟨_,rfl⟩;rw[<-L,zW (n:=p) (by omega) (by omega)];have S:(D++G).all digB=true:=by rw[List.all_append,w,y];rfl
 have K:(D++G).length<=50000:=by rw[Ia];omega
 generalize D++G=A at*;have H: ∀B:Str,B.all digB=true->B.length<=50000->(need (decide (B.length<=maxLen))<|
 Zy (fun(d:Int×Int)=>
   bif decide (d.2<(B.length:Int))then
    need (decide (0<=d.2)&&decide (d.2<(B.length:Int)))<|
    (B[d.2.toNat]?).bind fun g=>
    some (LO.again (if 1000000000000<w64 (w64 (10*d.1)+w64 (wu8 ((g.toNat:Int) - 48)))then 1000000000000 else w64 (w64 (10*d.1)+w64 (wu8 ((g.toNat:Int) - 48))),w64 (d.2+1)))
   else
    some (LO.out d.1):Int×Int->Option (LO (Int×Int) (Int) _)) (0,0) fun l=>
 Zy (fun(e:Int×Int)=>
   bif bif bif decide (e.1>0)then decide (e.2>0)else false then decide (e.2<1000000000000)else false then
    some (LO.again (w64 (e.1 - 1),if 1000000000000<w64 (10*e.2)then 1000000000000 else w64 (10*e.2)))
   else
    some (LO.out e.2):Int×Int->Option (LO (Int×Int) (Int) _)) (p,l) fun h=>
 zS (X:=Int) (
   bif (s.toNat:Int)==45 then
    some (LX.out (w64 (0 - h)))
   else
    some (LX.out h)) fun k=>
 some k)=some (if r==[45]then -((Gi p.toNat (capF Kh 0 B):Nat):Int)else((Gi p.toNat (capF Kh 0 B):Nat):Int)):=by
  intro B J z;have o:=uA Kh B 0 (Bc _);rw[zy (Ma (by omega))];rw[Qg (iN (cap:=Kh) J (by omega) (by omega) (fun v i U=> ?_) (fun v=> ?_))]
  ·have N:=vN p.toNat _ o;rw[Qg (P7 (by omega) (by omega) (by omega) (fun a b=> ?_)),M]
   ·cases T:r==[45]with
    |true=> rw[Ea,zh,zW (by omega) (by omega),La rfl];congr 1;omega
    |false=>simp_all
   ·simp only
  ·simp_all
  ·grind
 unfold thoV;by_cases q:p<0
 ·rw[Ma q,Ea,La q];have P:(if w64 ((A.length:Int)+p)>0 then w64 ((A.length:Int)+p)else 0)=((((A.length:Int)+p).toNat:Nat):Int):=by rw[zW (by omega) (by omega)];split<;>omega
  rw[P,zy (by grind),zh,Ic]
  grind
 ·rw[Dc q,Ha,Ga q,zh]
  grind
theorem AU{n:NumP}(h:n.ok=true)(hl:n.txt.length<=40000):ZP n.txt=some n.val:=by
 obtain⟨sg,D,F,X⟩:=n;unfold NumP.ok at h;simp only[Ca]at h;obtain⟨⟨⟨hsg,hD⟩,hFo⟩,hX⟩:=h;have hF:(F.getD []).all digB=true:=by
  cases F with
  |none=>rfl
  |some f=>grind
 have hne:D++dotS F≠[]:=by
  cases F with
  |none=>simp_all
  |some f=>simp[dotS]
 have hpar:((D++dotS F).all fun b=>digB b||b==46)=true:=by
  rw[List.all_append,CW hD];cases F with
  |none=>rfl
  |some f=>rw[show dotS (some f)=46::f from rfl,Jd,CW (show f.all digB=true from hF)];rfl
 have hlen:sg.length+(D.length+((dotS F).length+(expT X).length))<=40000:=by
  have:(NumP.txt ⟨sg,D,F,X⟩).length=sg.length+(D.length+((dotS F).length+(expT X).length)):=by unfold NumP.txt;simp only[Ia]
  omega
 have hFl:(F.getD []).length<=(dotS F).length:=by
  cases F with
  |none=>grind
  |some f=>show f.length<=(46::f).length;grind
 have hhead: ∀c r,D++(dotS F++expT X)=c::r->List.contains [43,45] c=false:=by
  rw[<-Ra];intro c r e;cases hq:D++dotS F with
  |nil=>grind
  |cons d q=>
   rw[hq,ma]at e;injection e with e1 _;subst e1;rw[hq,Jd,Ca,Tc]at hpar;rcases hpar.1 with hd|hd
   ·exact(QT hd).2.2.2.2
   grind
 have hy1: ∃b,geti (NumP.txt ⟨sg,D,F,X⟩) 0=some b/\(((b.toNat:Int)==45)=(sg==[45])):=by
  unfold NumP.txt;show∃b,geti (sg++(D++(dotS F++expT X))) 0=some b/\_;rcases JB hsg with rfl|rfl|rfl
  ·cases hq:D++(dotS F++expT X)with
   |nil=>simp_all
   |cons c r=>
    refine⟨c,rfl,?_⟩;have:=hhead c r hq;refine Fa.2 (fun e=> ?_);have:c=45:=Re.1 (by grind)
    grind
  ·exact⟨43,rfl,rfl⟩
  ·exact⟨45,rfl,rfl⟩
 obtain⟨y1,hg,hyy⟩:=hy1;have t1:Gj (NumP.txt ⟨sg,D,F,X⟩,[43,45])=some (D++(dotS F++expT X)):=by unfold Gj;rw[zy (show(short ([43,45]:Str)&&mg [43,45])=true by decide)];exact congrArg some (kK hsg hhead)
 unfold ZP;simp only[ze,hg,t1,Aa];have hsh:short (D++dotS F)=true:=Ma (by grind);have hasc:mg (D++dotS F)=true:=EM hpar;cases X with
 |none=>
  have t2:QX (D++(dotS F++expT none),[101,69])=some (-1):=by show QX (D++(dotS F++[]),[101,69])=_;rw[Bb];unfold QX;rw[zy (by simp only[hsh,hasc,Jc,Sb];decide)];exact congrArg some (vF _ hpar)
  simp only[t2,Aa,show decide ((-1:Int)>=0)=false from rfl,Ha,zh];rw[show D++(dotS F++expT none)=D++dotS F by show D++(dotS F++[])=_;grind];have:=nM (E:=0) hD hF (by omega) (by omega) (by omega) y1 sg hyy hsh;exact this
 |some ex=>
  obtain⟨e,s,x⟩:=ex;simp only[Ca]at hX;obtain⟨⟨⟨he,hs⟩,hxne⟩,hx⟩:=hX;have he':e=101\/e=69:=by rw[Tc,Rb,Rb]at he;exact he
  have hexl:(expT (some (e,s,x))).length=1+(s.length+x.length):=by show(e::(s++x)).length=_;rw[Sa,Ia];omega
  have hass:D++(dotS F++expT (some (e,s,x)))=(D++dotS F)++e::(s++x):=by rw[<-Ra];rfl
  have hasx:mg ((D++dotS F)++e::(s++x))=true:=by
   refine dw (fun b hb=> ?_);rcases Vb.1 hb with hb|hb
   ·exact KY hasc b hb
   ·rcases Ab.1 hb with hb|hb
    ·subst hb;rcases he' with rfl|rfl<;>decide
    ·rcases Vb.1 hb with hb|hb
     ·rcases JB hs with rfl|rfl|rfl
      ·cases hb
      ·simp_all
      simp_all
     ·have:=Ns (Ta.1 hx b hb);omega
  have hlt:((D++dotS F)++e::(s++x)).length<=40000:=by rw[Ia,Sa,Ia,Ia];omega
  have t2:QX (D++(dotS F++expT (some (e,s,x))),[101,69])=some ((D++dotS F).length:Int):=by rw[hass];unfold QX;show need (short ((D++dotS F)++e::(s++x))&&short [101,69]&&mg ((D++dotS F)++e::(s++x))&&mg [101,69]) _=_;rw[show short ((D++dotS F)++e::(s++x))=true from Ma (by omega),hasx];exact congrArg some (FM he' (s++x) _ hpar)
  have hdrop:List.drop (D++dotS F).length ((D++dotS F)++e::(s++x))=e::(s++x):=List.drop_left;have hdrop1:List.drop ((D++dotS F).length+1) ((D++dotS F)++e::(s++x))=s++x:=by rw[<-We,hdrop];rfl
  have hd0:(D++dotS F).length<=40000:=by rw[Ia];omega
  have hw1:w64 (((D++dotS F).length:Int)+1)=(((D++dotS F).length+1:Nat):Int):=by rw[zW (by omega) (by omega)];omega
  simp only[t2,Aa];rw[Ma (show(((D++dotS F).length:Nat):Int)>=0 by omega),Ea,hw1,hass];have hlt2:(D++dotS F).length+1<=((D++dotS F)++e::(s++x)).length:=by rw[Ia (bs:=e::(s++x)),Sa];omega
  rw[zy (by grind),Ic,hdrop1];have hxh: ∀c r,x=c::r->List.contains [43,45] c=false:=by intro c r e;subst e;rw[Jd,Ca]at hx;exact(QT hx.1).2.2.2.2
  have t4:Gj (s++x,[43,45])=some x:=by unfold Gj;rw[zy (show(short ([43,45]:Str)&&mg [43,45])=true by decide)];exact congrArg some (kK hs hxh)
  have hxl:x.length<=40000:=by omega
  have hml:maxLen=9223372036854775807:=rfl;simp only[t4,Aa];rw[zy (Ma (by omega))];have hcap:=uA 1048576 x 0 (Bc _);rw[Qg (iN (cap:=1048576) hx (by omega) (by omega) (fun v i hi=> ?_) (fun v=> ?_))]
  ·have hg8: ∃y8,geti ((D++dotS F)++e::(s++x)) (((D++dotS F).length+1:Nat):Int)=some y8/\(((y8.toNat:Int)==45)=(s==[45])):=by
    have hgg: ∀(b:UInt8) (r:Str),s++x=b::r->geti ((D++dotS F)++e::(s++x)) (((D++dotS F).length+1:Nat):Int)=some b:=by
     intro b r e1;unfold geti;have:((D++dotS F)++e::(s++x))[(D++dotS F).length+1]? =some b:=by rw[List.getElem?_append_right (by omega),show(D++dotS F).length+1 - (D++dotS F).length=1 by omega,List.getElem?_cons_succ,e1];rfl
     rw[Ic,this,Ma (by omega)];rfl
    rcases JB hs with rfl|rfl|rfl
    ·cases hxx:x with
     |nil=>grind
     |cons c r=>
      refine⟨c,by grind,?_⟩;have:=hxh c r hxx;refine Fa.2 (fun e=> ?_);have h45:c=45:=Re.1 (by grind)
      grind
    ·grind
    ·grind
   obtain⟨y8,h8,h8'⟩:=hg8;simp only[h8,Aa];rw[h8'];have hj:(bif s==[45]then(some (LX.out ((D++dotS F)++e::(s++x),3,w64 (0 - ((capF 1048576 0 x:Nat):Int)))):Option (LX (Str×Int×Int) (LX (Str×Int) Int)))else some (LX.out ((D++dotS F)++e::(s++x),3,((capF 1048576 0 x:Nat):Int))))
     =some (LX.out ((D++dotS F)++e::(s++x),3,expV (some (e,s,x)))):=by
    unfold expV;simp only;cases s==[45]with
    |true=>rw[Ea,La rfl,zW (by omega) (by omega)];simp
    |false=>grind
   have hEb:expV (some (e,s,x))<=1048576/\ -1048576<=expV (some (e,s,x)):=by unfold expV;simp only;split<;>omega
   refine(congrArg (fun o=>zS (zS o _) _) hj).trans ?_;simp only[zh];rw[show decide ((((D++dotS F).length:Nat):Int)<=((((D++dotS F)++e::(s++x)).length:Nat):Int))=true from Ma (by omega),zy (by rfl)];simp only[zh,Ic,List.take_left];rw[zW (by omega) (by omega)];exact nM (E:=expV (some (e,s,x))) hD hF (by omega) (by omega) (by omega) y1 sg hyy hsh
  ·simp_all
  ·grind
theorem MC {S X R:Type} {step:S->Option (LO S X R)} {k:X->Option R} (Inv:S->Prop) (b:S->Nat) (y:R)
  (h: ∀s,Inv s->(∃s',step s=some (.again s')/\Inv s'/\b s'<b s)\/(∃x,step s=some (.out x)/\k x=some y)\/step s=some (.ret y)) {s:S} (d:Inv s):Zy step s k=some y:=by
 have c: ∀(m:Nat) (s:S),b s<m->Inv s-> ∃r:LX X R,Qn step m s=some r/\r.go k=some y:=by
  intro m
  induction m with
  |zero=>intro s h;omega
  |succ m i=>
   intro s f d;simp only[Qn];rcases h s d with⟨s',a,e,g⟩|⟨x,a,e⟩|a
   ·grind
   ·simp_all
   simp_all
 obtain⟨r,a,e⟩:=c (b s+1) s (by omega) d;rw[Ao (Om a)];exact e
theorem oO(p:UInt8->Bool): ∀l:Str,past p l=l.dropWhile p
 |[]=>rfl
 |c::r=>by
  rw[past,List.dropWhile_cons];cases h:p c with
  |true=>exact oO p r
  |false=>rfl
theorem Ww(p:UInt8->Bool)(l:Str):l.takeWhile p++past p l=l:=by rw[oO,List.takeWhile_append_dropWhile]
theorem YA(p:UInt8->Bool): ∀l:Str,(l.takeWhile p).all p=true
 |[]=>rfl
 |c::r=>by simp_all
def sgOf(l:Str):Str:=if Xf (atS l 0)then [atS l 0]else []
theorem Iz(l:Str):sgOf l++unsign l=l:=by
 unfold sgOf unsign;cases h:Xf (atS l 0)with
 |false=>rfl
 |true=>
  rw[La rfl,La rfl];cases l with
  |nil=>exact absurd h (by decide)
  |cons c r=>rfl
theorem DV(l:Str):sgB (sgOf l)=true:=by
 unfold sgOf;cases h:Xf (atS l 0)with
 |false=>rfl
 |true=> rw[La rfl];unfold Xf at h;rw[Tc,Rb,Rb]at h;rcases h with h|h<;>rw[h]<;>rfl
def dotP(q:Str):Option Str:=if atS q 0==46&&digB (atS q 1)then some ((q.drop 1).takeWhile digB)else none
def expP(q:Str):Option (UInt8×Str×Str):=
 if(atS q 0==101||atS q 0==69)&&digB (atS (unsign (q.drop 1)) 0)then some (atS q 0,sgOf (q.drop 1),(unsign (q.drop 1)).takeWhile digB)else none
def numP(l:Str):NumP:=⟨sgOf l,(unsign l).takeWhile digB,dotP (past digB (unsign l)),expP (zP (past digB (unsign l))).1⟩
theorem KZ(q:Str):dotS (dotP q)++(zP q).1=q/\(zP q).2=(dotP q).isNone:=by
 unfold dotP zP;cases h:atS q 0==46&&digB (atS q 1)with
 |false=>exact⟨rfl,rfl⟩
 |true=>
  rw[La rfl,La rfl];cases q with
  |nil=>exact absurd h (by decide)
  |cons c r=> rw[Ca,Rb]at h;refine⟨?_,rfl⟩;show(46::List.takeWhile digB r)++past digB r=c::r;rw[ma,Ww,show c=46 from h.1]
theorem TY(q:Str):expT (expP q)++(match expS q with|some r=>r|none=>q)=q:=by
 unfold expP expS;cases a:atS q 0==101||atS q 0==69 with
 |false=>rfl
 |true=>
  cases b:digB (atS (unsign (q.drop 1)) 0)with
  |false=>rfl
  |true=>
   simp only[Bool.and_self,yc];cases q with
   |nil=>exact absurd a (by decide)
   |cons c r=> show(c::(sgOf r++List.takeWhile digB (unsign r)))++past digB (unsign r)=c::r;rw[ma,Ra,Ww,Iz]
theorem FH(l:Str):(numP l).txt++(zB l).1=l:=by
 have c:=(KZ (past digB (unsign l))).1;have b:=TY (zP (past digB (unsign l))).1;have a:(zB l).1=(match expS (zP (past digB (unsign l))).1 with|some r=>r|none=>(zP (past digB (unsign l))).1):=by unfold zB;simp only;cases expS (zP (past digB (unsign l))).1<;>rfl
 rw[a];show(sgOf l++(List.takeWhile digB (unsign l)++(dotS (dotP (past digB (unsign l)))++expT (expP (zP (past digB (unsign l))).1))))++_=l;rw[Ra,Ra,Ra,b,c,Ww,Iz]
theorem XE{p:UInt8->Bool}{q:Str}(h:p (atS q 0)=true)(a:p 0=false):(q.takeWhile p).isEmpty=false:=by
 cases q with
 |nil=>rw[show atS [] 0=0 from rfl,a]at h;cases h
 |cons c r=>rw[List.takeWhile_cons,La (show p c=true from h)];rfl
theorem DF{l:Str}(h:nbS l=true):(numP l).ok=true:=by
 unfold NumP.ok numP;simp only[DV,YA,Sb,Ca];refine⟨?_,?_⟩
 ·unfold dotP;cases a:atS (past digB (unsign l)) 0==46&&digB (atS (past digB (unsign l)) 1)with
  |true=> rw[La rfl];simp only[YA,Jc];rw[Ca]at a;rw[XE (p:=digB) (by rw[Qu];exact a.2) (by decide)];rfl
  |false=>
   rw[Ga (by decide)];simp only;cases b:digB (atS (unsign l) 0)with
   |true=>rw[XE b (by decide)];rfl
   |false=>
    exfalso;have f:past digB (unsign l)=unsign l:=by
     cases e:unsign l with
     |nil=>rfl
     |cons c r=>rw[e]at b;rw[past,Ga (by rw[show digB c=false from b];decide)]
    rw[f]at a;unfold nbS undot at h;cases d:atS (unsign l) 0==46 with
    |false=>grind
    |true=>
     rw[d,La rfl,Qu]at h
     grind
 ·unfold expP;cases a:(atS (zP (past digB (unsign l))).1 0==101||atS (zP (past digB (unsign l))).1 0==69)&&digB (atS (unsign ((zP (past digB (unsign l))).1.drop 1)) 0)with
  |false=>rfl
  |true=> rw[La rfl];rw[Ca]at a;simp only[a.1,DV,YA,Jc,Sb];rw[XE a.2 (by decide)];rfl
theorem zDV{n:NumP}(h:n.ok=true):n.txt≠[]:=by
 obtain⟨c,D,F,X⟩:=n;unfold NumP.ok at h;simp only[Ca]at h;intro e;unfold NumP.txt at e;simp only[List.append_eq_nil_iff]at e;obtain⟨g,b,a,d⟩:=e;subst b;cases F with
 |none=>grind
 |some f=>cases a
theorem I7{c:UInt8}{r:Str}(h:nbS (c::r)=true):(zB (c::r)).1<:+r:=by
 have e:=FH (c::r);have b:=zDV (DF h);cases a:(numP (c::r)).txt with
 |nil=>grind
 |cons d t=>
  grind
def zA(l:Str):zb×Str:=
 if nmS (zB l).1 then(⟨12,[],(numP l).val,(zm (zB l).1).1,(zB l).2⟩,(zm (zB l).1).2)
 else if atS (zB l).1 0==37 then(⟨11,[],(numP l).val,[],false⟩,(zB l).1.drop 1)
 else(⟨10,[],(numP l).val,[],(zB l).2⟩,(zB l).1)
theorem zBm{s l t e:Str}(a:l<:+s)(h:t++e=l):List.drop (beh s l) (List.take (beh s e) s)=t:=by
 obtain⟨p,rfl⟩:=a;subst h;have c:beh (p++(t++e)) (t++e)=p.length:=by unfold beh;simp only[Ia];omega
 have b:beh (p++(t++e)) e=(p++t).length:=by unfold beh;simp only[Ia];omega
 grind
theorem EX{s l:Str}(hs:s.length<=40000)(hl:l<:+s)(h:nbS l=true):ZA (sr s l)=some ((zA l).1,sr s (zA l).2):=by
 have hsb:s.length<=big:=by unfold big;omega
 have he:=P5 hl;have hle:=hl.length_le;have hsp:=FH l;have hel:(zB l).1.length<=l.length:=by have:=congrArg List.length hsp;rw[Ia]at this;omega
 have htl:(numP l).txt.length<=40000:=by have:=congrArg List.length hsp;rw[Ia]at this;omega
 unfold ZA;rw[SY hsb hl];simp only[ze,Aa];have h1:(beh s l:Int)<=(beh s (zB l).1:Int):=by unfold beh;omega
 have h2:=Uk s (zB l).1;rw[zy (by simp_all),Ic,Ic,zBm hl hsp,AU (DF h) htl];simp only[Aa];rw[show zC (0,sr s (zB l).1)=some (nmS (zB l).1)from MK (k:=0) hsb he (by omega)];simp only[Aa];unfold zA;cases hn:nmS (zB l).1 with
 |true=> rw[Ea,IE hsb he,La rfl];rfl
 |false=>
  rw[Ha,bg hsb he,Ga (by decide)];simp only[Aa,zEf];cases h37:atS (zB l).1 0==37 with
  |true=> rw[Ea,zh,Ou hsb he (by grind),La rfl]
  |false=>simp_all
theorem Ir(l:Str):(zm l).1.length<=4*l.length:=by
 match l with
 |[]=>rw[qJ];grind
 |c::r=>
  rw[zF];split
  ·have:=Ir r
   grind
  ·split
   ·have b:=Za r;have a:=Ls r;have:=Ir (zq r).2
    grind
   grind
termination_by l.length
decreasing_by
 all_goals grind
def qz(l:Str):zb×Str:=
 if atS (zm l).2 0==40 then
  (if(lowS (zm l).1==[117,114,108])&& !(atS (past spB ((zm l).2.drop 1)) 0==34||atS (past spB ((zm l).2.drop 1)) 0==39)
  then(Ti (urlS (past spB ((zm l).2.drop 1))).1,(urlS (past spB ((zm l).2.drop 1))).2)
  else(⟨2,(zm l).1,0,[],false⟩,(zm l).2.drop 1))
 else(⟨1,(zm l).1,0,[],false⟩,(zm l).2)
theorem zBK{s q:Str}(m:s.length<=40000)(g:q<:+s):Zv (sr s q)=some ((qz q).1,sr s (qz q).2):=by
 have a:s.length<=big:=by unfold big;omega
 have e:(zm q).2<:+s:=(Dk q).trans g;have l:=Ir q;have i:=g.length_le;have f:(zm q).1.length<=big:=by unfold big;omega
 unfold Zv;rw[IE a g];simp only[ze,Aa,bg a e];unfold bne qz;rw[zEg];cases d:atS (zm q).2 0==40 with
 |false=>rfl
 |true=>
  have c:atS (zm q).2 0≠0:=by rw[Rb.1 d];decide
  rw[Ec,Ha,La rfl,Ou a e c,FI f (by decide),Pv];simp only[Aa];have b:=ik e 1;cases n:lowS (zm q).1==[117,114,108]with
  |false=>rfl
  |true=>
   rw[Ea,Oz a b,Sb];have k:=Ko spB b;simp only[Aa,bg a k];rw[mU,lU];cases j:atS (past spB ((zm q).2.drop 1)) 0==34 with
   |true=>rfl
   |false=>
    cases h:atS (past spB ((zm q).2.drop 1)) 0==39 with
    |true=>rfl
    |false=> rw[urlR a b];rfl
theorem PX{c:UInt8}{r:Str}(h:letB c=true\/escS (c::r)=true):(zm (c::r)).2<:+r:=by
 rw[zF];split
 ·exact Dk r
 ·rename_i a;rw[La (h.resolve_left a)];exact(Dk _).trans (ZM r)
theorem GN{c:UInt8}{r:Str}(h:nmS (c::r)=true):letB c=true\/escS (c::r)=true:=by
 unfold nmS at h;cases a:atS (c::r) 0==45 with
 |true=> left;rw[show c=45 from Rb.1 a];decide
 |false=>
  rw[a,Ga (by decide),Tc]at h;rcases h with h|h
  ·left;unfold letB;rw[show fstB c=true from h];rfl
  ·exact .inr h
theorem bZ{c:UInt8}{r:Str}(h:nmS (c::r)=true):(qz (c::r)).2<:+r:=by
 have b:=PX (GN h);have a:(zm (c::r)).2.drop 1<:+r:=(Me 1 _).trans b;unfold qz;split
 ·split
  ·exact(fF _).trans ((Mm spB _).trans a)
  ·exact a
 ·exact b
def nxU(c:UInt8)(r:Str):zb×Str:=
  if nmS (c::r)then qz (c::r)
  else if Ng c==0 then(⟨9,[c],0,[],false⟩,r)
  else(yg (Ng c),r)
def nxT(c:UInt8)(r:Str):zb×Str:=
  if nbS (c::r)then zA (c::r)
  else if [45,45,62].isPrefixOf (c::r)then(yg 15,(c::r).drop 3)
  else if [60,33,45,45].isPrefixOf (c::r)then(yg 14,(c::r).drop 4)
  else if c==64&&nmS r then(⟨3,(zm r).1,0,[],false⟩,(zm r).2)
  else nxU c r
def Zl:Str->zb×Str
 |[]=>(⟨0,[],0,[],false⟩,[])
 |c::r=>
  if spB c then(yg 13,past spB (c::r))
  else if c==34||c==39 then(Vi (zV c r).1,(zV c r).2)
  else if c==35&&(letB (atS r 0)||escS r)then(⟨4,(zm r).1,0,[],nmS r⟩,(zm r).2)
  else nxT c r
theorem Gt(c:UInt8)(r:Str):Zl (c::r)=
  if spB c then(yg 13,past spB (c::r))
  else if c==34||c==39 then(Vi (zV c r).1,(zV c r).2)
  else if c==35&&(letB (atS r 0)||escS r)then(⟨4,(zm r).1,0,[],nmS r⟩,(zm r).2)
  else if nbS (c::r)then zA (c::r)
  else if [45,45,62].isPrefixOf (c::r)then(yg 15,(c::r).drop 3)
  else if [60,33,45,45].isPrefixOf (c::r)then(yg 14,(c::r).drop 4)
  else if c==64&&nmS r then(⟨3,(zm r).1,0,[],false⟩,(zm r).2)
  else if nmS (c::r)then qz (c::r)
  else if Ng c==0 then(⟨9,[c],0,[],false⟩,r)
  else(yg (Ng c),r):=rfl
theorem G7{c:UInt8}{r:Str}(h:nbS (c::r)=true):(zA (c::r)).2<:+r:=by
 have a:=I7 h;unfold zA;split
 ·exact(Dk _).trans a
 ·split
  ·exact(Me 1 _).trans a
  ·exact a
theorem aj(c:UInt8)(r:Str):(Zl (c::r)).2<:+r:=by
 rw[Gt];split
 ·rename_i h;show past spB (c::r)<:+r;rw[past,La h];exact Mm spB r
 ·split
  ·exact kC c r
  ·split
   ·exact Dk r
   ·split
    ·rename_i h;exact G7 h
    ·split
     ·exact Me 2 r
     ·split
      ·exact Me 3 r
      ·split
       ·exact Dk r
       ·split
        ·rename_i h;exact bZ h
        grind
theorem OW(c:UInt8):decide (Lib.indexByte [58,59,44,91,93,40,41,123,125] c>=0)= !(Ng c==0)/\(Ng c≠0->wu8 (16+wu8 (Lib.indexByte [58,59,44,91,93,40,41,123,125] c))=Ng c):=by
 have: ∀n:Nat,n<256->decide (Lib.indexByte [58,59,44,91,93,40,41,123,125] (UInt8.ofNat n)>=0)= !(Ng (UInt8.ofNat n)==0)/\(Ng (UInt8.ofNat n)≠0->wu8 (16+wu8 (Lib.indexByte [58,59,44,91,93,40,41,123,125] (UInt8.ofNat n)))=Ng (UInt8.ofNat n)):=by decide+kernel
 have:=this c.toNat (Fb c);simp_all
theorem Am{m q:Str}(h:m.isPrefixOf q=true):m.length<=q.length:=by
 grind
def yt(s:Str)(X:zb×Str):Option (zb×za):=some (X.1,sr s X.2)
theorem zD7{s q:Str}{c:UInt8}{r:Str}(y:s.length<=40000)(b:q<:+s)(D:q=c::r):Z7 (sr s q)=some ((Zl q).1,sr s (Zl q).2):=by
 subst D;have a:s.length<=big:=by unfold big;omega
 have A:=di b;have J:(c::r).drop 1=r:=rfl;rw[show Zl (c::r)=if spB c then(yg 13,past spB (c::r))else if c==34||c==39 then(Vi (zV c r).1,(zV c r).2)else if c==35&&(letB (atS r 0)||escS r)then(⟨4,(zm r).1,0,[],nmS r⟩,(zm r).2)else nxT c r from rfl];unfold Z7;simp only[ze,bg a b,Aa];rw[zy MV];simp only[bv,Aa,mU,lU,zEe,zEh,xE b,Xt,show atS (c::r) 0=c from rfl,SK];cases Q:spB c with
 |true=> rw[Ea,Oz a b,La rfl];rfl
 |false=>
  rw[Ha,Ga (by decide)];cases H:c==34||c==39 with
  |true=> rw[Ea,zCm a b,La rfl];rfl
  |false=>
   rw[Ha,Ga (by decide)];have p:zt (1,sr s (c::r))=some (escS r):=YB (k:=1) a b (by omega);have g:zC (1,sr s (c::r))=some (nmS r):=MK (k:=1) a b (by omega);have l:zC (0,sr s (c::r))=some (nmS (c::r)):=MK (k:=0) a b (by omega);have u:(⟨s,w64 ((beh s (c::r):Int)+1)⟩:za)=sr s r:=by rw[Ph a b]
   rw[u];have o:((Zo (sr s (c::r))).bind fun w=>
    bif w then
     (ZA (sr s (c::r))).bind fun j=>
     some (j.1,j.2)
    else
     (some ([45,45,62].isPrefixOf (c::r))).bind fun v=>
     bif v then
      some ((⟨15,[],0,[],false⟩:zb),(⟨s,w64 ((beh s (c::r):Int)+3)⟩:za))
     else
      (some ([60,33,45,45].isPrefixOf (c::r))).bind fun t=>
      bif t then
       some ((⟨14,[],0,[],false⟩:zb),(⟨s,w64 ((beh s (c::r):Int)+4)⟩:za))
      else
       (zu (c==64) (zC (1,sr s (c::r))) (default:Bool)).bind fun h=>
       bif bif c==64 then h else false then
        (zK (sr s r)).bind fun f=>
        some ((⟨3,f.1,0,[],false⟩:zb),f.2)
       else
        (zC (0,sr s (c::r))).bind fun i=>
        bif i then
         (Zv (sr s (c::r))).bind fun d=>
         some (d.1,d.2)
        else
         (strings_IndexByte ([58,59,44,91,93,40,41,123,125],wu8 (pk (c::r) 0))).bind fun e=>
         bif decide (e>=0)then
          some ((⟨wu8 (16+wu8 e),[],0,[],false⟩:zb),sr s r)
         else
          need (decide (1<=((c::r).length:Int)))<|
          some ((⟨9,List.take 1 (c::r),0,[],false⟩:zb),sr s r))=
    yt s (nxT c r):=by
    unfold nxT;simp only[zB0 a b,Aa];cases x:nbS (c::r)with
    |true=> rw[Ea,EX y b x,La rfl];rfl
    |false=>
     rw[Ha,Ga (by decide)];cases O:[45,45,62].isPrefixOf (c::r)with
     |true=> rw[Ea,La rfl,show(3:Int)=((3:Nat):Int)from rfl,Gz (n:=3) a b (Am O)];rfl
     |false=>
      rw[Ha,Ga (by decide)];cases L:[60,33,45,45].isPrefixOf (c::r)with
      |true=> rw[Ea,La rfl,show(4:Int)=((4:Nat):Int)from rfl,Gz (n:=4) a b (Am L)];rfl
      |false=>
       rw[Ha,Ga (by decide),g,l];have m: ∀z:Bool,((some z).bind fun h=>bif h then
        (zK (sr s r)).bind fun f=>
        some ((⟨3,f.1,0,[],false⟩:zb),f.2)
       else
        (some (nmS (c::r))).bind fun i=>
        bif i then
         (Zv (sr s (c::r))).bind fun d=>
         some (d.1,d.2)
        else
         (strings_IndexByte ([58,59,44,91,93,40,41,123,125],wu8 (pk (c::r) 0))).bind fun e=>
         bif decide (e>=0)then
          some ((⟨wu8 (16+wu8 e),[],0,[],false⟩:zb),sr s r)
         else
          need (decide (1<=((c::r).length:Int)))<|
          some ((⟨9,List.take 1 (c::r),0,[],false⟩:zb),sr s r))=yt s (if z then(⟨3,(zm r).1,0,[],false⟩,(zm r).2)else nxU c r):=by
        intro z;unfold nxU;simp only[Aa];cases z with
        |true=> rw[Ea,IE a A];rfl
        |false=>
         rw[Ha,Ga (by decide)];cases G:nmS (c::r)with
         |true=>rw[Ea,zBK y b];rfl
         |false=>
          rw[Ha,Ga (by decide),Xn,aD];have R:(wu8 (c.toNat:Int)).toNat.toUInt8=c:=by rw[Ev,jf (Fb c),Ic];exact Ud
          rw[R];obtain⟨K,S⟩:=OW c;simp only[Aa,K];cases M:Ng c==0 with
          |true=> rw[Ec,Ha,zy (Ma (by grind))];rfl
          |false=> rw[Cc,Ea,S (Fa.1 M)];rfl
       cases N:c==64 with
       |false=> simp_all
       |true=> have:=m (nmS r);simp_all
   cases C:c==35 with
   |false=> simp only[Qx,Aa,Ha,Df,Rc];exact o
   |true=>
    simp only[Zx,Aa,Ea,Jc,Sb,pu a b,pM];have E:atS (c::r) 1=atS r 0:=rfl;rw[E,p];have F:(bif letB (atS r 0)||escS r then(zC (1,sr s (c::r))).bind fun P=>(zK (sr s r)).bind fun B=>some ((⟨4,B.1,0,[],P⟩:zb),B.2)else yt s (nxT c r))=yt s (if(letB (atS r 0)||escS r)then(⟨4,(zm r).1,0,[],nmS r⟩,(zm r).2)else nxT c r):=by
     cases letB (atS r 0)||escS r with
     |false=>rfl
     |true=>rw[Ea,g,IE a A];rfl
    show _=yt s (if(letB (atS r 0)||escS r)then(⟨4,(zm r).1,0,[],nmS r⟩,(zm r).2)else nxT c r);rw[<-F];cases T:letB (atS r 0)with
    |true=>rfl
    |false=> simp_all
def clsS:Str->Option Str
 |[]=>none
 |c::r=>if c==42&&atS r 0==47 then some (r.drop 1)else clsS r
theorem ak: ∀(l:Str) {r:Str},clsS l=some r->r<:+l/\r.length+2<=l.length
 |[],r,h=>by cases h
 |c::t,r,h=>by
  unfold clsS at h;split at h
  ·rename_i a;rw[Ca,Rb,Rb]at a;injection h with h;subst h;have:=Vu (l:=t) (n:=0) (by rw[a.2];decide);exact⟨(Me 1 t).trans (Be c t),by grind⟩
  ·obtain⟨d,b⟩:=ak t h
   grind
theorem pre2(b:UInt8)(l:Str):([42,47]:Str).isPrefixOf (b::l)=(b==42&&atS l 0==47):=by
 have c:((42:UInt8)==b)=(b==42):=by rw[Bool.eq_iff_iff,Rb,Rb];exact eq_comm
 rw[List.isPrefixOf,c];cases l with
 |nil=>rfl
 |cons d t=>
  have a:((47:UInt8)==d)=(d==47):=by rw[Bool.eq_iff_iff,Rb,Rb];exact eq_comm
  rw[List.isPrefixOf,a,List.isPrefixOf];rw[Jc];rfl
theorem jO: ∀l:Str,Lib.index l [42,47]=match clsS l with|none=> -1|some r=>((l.length - r.length - 2:Nat):Int)
 |[]=>rfl
 |b::l=>by
  rw[Lib.index,pre2,clsS];cases h:b==42&&atS l 0==47 with
  |true=>
   grind
  |false=>
   simp only[Nc,Ce];rw[jO l];cases a:clsS l with
   |none=>rfl
   |some r=>
    have:=(ak l a).2
    grind
def cmtS(l:Str):Str:=
 if([47,42]:Str).isPrefixOf l then
  (match h:clsS (l.drop 2)with
  |some q=>cmtS q
  |none=>[])
 else l
termination_by l.length
decreasing_by
 have:=(ak _ h).2
 grind
theorem bi(l:Str):cmtS l=if([47,42]:Str).isPrefixOf l then(match clsS (l.drop 2)with|some q=>cmtS q|none=>[])else l:=by
 rw[cmtS]
 grind
theorem ZZ{l:Str}(h:([47,42]:Str).isPrefixOf l=false):cmtS l=l:=by rw[bi,h];rfl
theorem Vj(l:Str):cmtS l<:+l:=by
 rw[bi];split
 ·split
  ·rename_i q b;have a:=ak _ b;have c:=a.2;rw[Xc]at c;exact(Vj q).trans (a.1.trans (Me 2 l))
  grind
 grind
termination_by l.length
decreasing_by
 grind
theorem Eo(l:Str):cmtS (cmtS l)=cmtS l:=by
 rw[bi l];split
 ·split
  ·rename_i q a;have b:=(ak _ a).2;rw[Xc]at b;exact Eo q
  ·exact ZZ rfl
 ·rename_i h;exact ZZ (Bool.eq_false_iff.2 h)
termination_by l.length
decreasing_by
 grind
theorem Bw(l:Str):([47,42]:Str).isPrefixOf (cmtS l)=false:=by
 have h:=Eo l;cases b:([47,42]:Str).isPrefixOf (cmtS l)with
 |false=>rfl
 |true=>
  exfalso;rw[bi (cmtS l),b,La rfl]at h;have c:=Am b;rw[show([47,42]:Str).length=2 from rfl]at c;cases a:clsS ((cmtS l).drop 2)with
  |none=>grind
  |some q=>
   rw[a]at h;have d:=(ak _ a).2;have e:=(Vj q).length_le
   grind
theorem NP{s q:Str}(hs:s.length<=40000)(hq:q<:+s):Zd (sr s q)=some (sr s (cmtS q)):=by
 have hsb:s.length<=big:=by unfold big;omega
 unfold Zd;refine MC (fun z=> ∃p,z=sr s p/\p<:+s/\cmtS p=cmtS q) (fun z=>s.length - z.at_.toNat) _ ?_ ⟨q,rfl,hq,rfl⟩;rintro _ ⟨p,rfl,hp,he⟩;rw[zy MV];simp only[ze,xE hp,Xt,Aa];rw[bi p]at he;cases hpre:([47,42]:Str).isPrefixOf p with
 |false=>
  grind
 |true=>
  rw[hpre,La rfl]at he;have hl:=Am hpre;rw[show([47,42]:Str).length=2 from rfl]at hl;have hle:=hp.length_le;have hb:=BM hp hl;have hb2:=Uk s (p.drop 2);rw[Ea];have hw:w64 ((beh s p:Int)+2)=((beh s (p.drop 2):Nat):Int):=by rw[<-hb,zW (by omega) (by omega)];omega
  rw[hw,zy (by grind),xE (ik hp 2)];have hlen:(p.drop 2).length<=40000:=by rw[Xc];omega
  have hi:Xk (p.drop 2,[42,47])=some (Lib.index (p.drop 2) [42,47]):=by unfold Xk;rw[zy (by exact Ma (show(p.drop 2).length<4294967281 by omega))]
  rw[hi,jO];simp only[Aa];cases hc:clsS (p.drop 2)with
  |none=>
   rw[hc]at he;refine .inr (.inr ?_);rw[<-he];show _=some (LO.ret (⟨s,(beh s []:Int)⟩:za));unfold beh
   grind
  |some r=>
   rw[hc]at he;obtain⟨h1,h2⟩:=ak _ hc;have hrs:r<:+s:=h1.trans (ik hp 2);rw[Xc]at h2 hlen;simp only;rw[Dc (by omega),Ha];refine .inl ⟨sr s r,?_,⟨r,rfl,hrs,he⟩,?_⟩
   ·rw[Xc,zW (n:=_+4) (by omega) (by omega)];have:(beh s p:Int)+(((p.length - 2 - r.length - 2:Nat):Int)+4)=((beh s r:Nat):Int):=by unfold beh;omega
    rw[this,zW (by grind) (by grind)]
   ·show s.length - beh s r<s.length - beh s p;unfold beh;omega
def qj(l:Str):List zb:=
 match h:cmtS l with
 |[]=>[]
 |c::r=>(Zl (c::r)).1::qj (Zl (c::r)).2
termination_by l.length
decreasing_by
 have b:=(aj c r).length_le;have a:=(Vj l).length_le
 grind
theorem QB{l:Str}(h:cmtS l=[]):qj l=[]:=by
 rw[qj]
 grind
theorem QH{l:Str}{c:UInt8}{r:Str}(h:cmtS l=c::r):qj l=(Zl (c::r)).1::qj (Zl (c::r)).2:=by
 rw[qj]
 grind
theorem EB(l:Str):qj (cmtS l)=qj l:=by
 cases h:cmtS l with
 |nil=>rw[QB h];exact QB (ZZ rfl)
 |cons c r=> rw[QH h];exact QH (by rw[<-h,Eo])
theorem mM(l:Str):(qj l).length<=l.length:=by
 cases h:cmtS l with
 |nil=>rw[QB h];grind
 |cons c r=>
  have b:(Zl (c::r)).2.length<l.length:=by have d:=(aj c r).length_le;have a:=(Vj l).length_le;rw[h,Sa]at a;omega
  rw[QH h,Sa];have:=mM (Zl (c::r)).2;omega
termination_by l.length
decreasing_by
 all_goals omega
theorem OP: ∀l:Str,(Proofs.Cl.cleanS l).length<=3*l.length:=by
 have: ∀(n:Nat) (l:Str),l.length<=n->(Proofs.Cl.cleanS l).length<=3*l.length:=by
  intro n
  induction n with
  |zero=>
   intro l h;cases l with
   |nil=>rw[Proofs.Cl.cleanS];grind
   |cons c r=>grind
  |succ n ih=>
   intro l h;rw[Proofs.Cl.cleanS.eq_def]
   grind
 exact fun l=>this l.length l (Ya _)
def Ih(w:Str):List zb×Int:=if 4000<w.length then([],28)else if 1500<(qj (Proofs.Cl.cleanS w)).length then([],4)else(qj (Proofs.Cl.cleanS w),0)
theorem zA6{n:Nat}(h:n<=100000):zX n 1 56=true:=by unfold zX;grind
theorem XH(w:Str):ZH w=some (Ih w):=by
 unfold ZH Ih;by_cases b:4000<w.length
 ·have e:Tk w=some ([],28):=by unfold Tk;rw[La b]
  unfold Py
  grind
 ·have e:Tk w=some (Proofs.Cl.cleanS w,0):=by unfold Tk;rw[Ga b]
  rw[Ga b];have x:=OP w;generalize Proofs.Cl.cleanS w=s at e x;have o:s.length<=40000:=by omega
  unfold Py;rw[e];simp only[ze,Aa];rw[show((0:Int) != 0)=false from rfl,Ha,sr_0,NP o (Bf s)];simp only[Aa];have f: ∃z:Int×List zb,Zy (fun(d:Int×List zb×za)=>
    bif decide (d.2.2.at_<(s.length:Int))then
     bif decide (w64 (d.1+1)>1500)then
      some (LO.ret (4,d.2.1))
     else
      (Z7 d.2.2).bind fun t=>
      (QG ((t.1,d.2.2.at_,t.2.at_),d.2.1)).bind fun y=>
      (Zd t.2).bind fun A=>
      some (LO.again (w64 (d.1+1),y,A))
    else
     some (LO.out (d.2.1,d.2.2)):Int×List zb×za->Option (LO (Int×List zb×za) (List zb×za) (Int×List zb))) (0,[],sr s (cmtS s)) (fun C=>some (0,C.1))=some z/\
    z=(if 1500<(qj s).length then(4,(qj s).take 1500)else(0,qj s)):=by
   refine⟨_,MC (fun z=> ∃(a:List zb) (q:Str),z=((a.length:Int),a,sr s q)/\q<:+s/\cmtS q=q/\a.length<=1500/\a++qj q=qj s) (fun z=>s.length - z.2.2.at_.toNat) (if 1500<(qj s).length then(4,(qj s).take 1500)else(0,qj s)) ?_ ⟨[],cmtS s,rfl,Vj s,Eo s,by simp,by rw[Mc,EB]⟩,rfl⟩;rintro _ ⟨a,q,rfl,m,n,G,i⟩;simp only;have l:=m.length_le;cases q with
   |nil=>
    have B:((beh s []:Nat):Int)=(s.length:Int):=by unfold beh;rw[lc];rfl
    have k:decide (((beh s []:Nat):Int)<(s.length:Int))=false:=Dc (by omega);simp only[k,Ha];rw[QB (ZZ rfl),Bb]at i
    grind
   |cons c r=>
    rw[Sa]at l;have B:beh s (c::r)<s.length:=by unfold beh;rw[Sa];omega
    have k:decide (((beh s (c::r):Nat):Int)<(s.length:Int))=true:=Ma (by omega);have v:w64 ((a.length:Int)+1)=(a.length:Int)+1:=zW (by omega) (by omega);simp only[k,Ea,v];rw[QH n]at i;have g:=congrArg List.length i;rw[Ia,Sa]at g;by_cases j:a.length=1500
    ·grind
    ·have p:decide ((a.length:Int)+1>1500)=false:=Dc (by omega);simp only[p,Ha,zD7 o m rfl,Aa];unfold QG;rw[zy (zA6 (by simp only;omega))];have h:(Zl (c::r)).2<:+s:=(aj c r).trans (di m);simp only[Aa,NP o h];refine .inl ⟨_,rfl,⟨a++[(Zl (c::r)).1],cmtS (Zl (c::r)).2,?_,(Vj _).trans h,Eo _,by grind,?_⟩,?_⟩
     ·grind
     ·rw[EB,Ra];exact i
     ·have E:=(aj c r).length_le;have F:=(Vj (Zl (c::r)).2).length_le;show s.length - beh s (cmtS (Zl (c::r)).2)<s.length - beh s (c::r);unfold beh at*
      grind
  obtain⟨z,D,u⟩:=f
  grind
end Go.Lv.VT
