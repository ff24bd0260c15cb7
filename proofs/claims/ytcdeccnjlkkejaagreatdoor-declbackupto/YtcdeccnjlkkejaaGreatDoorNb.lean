/- The writing of names. -/
import Derived.Test.YtcdeccnjlkkejaaGreatDoorNam
set_option linter.unusedSimpArgs false
set_option linter.unusedVariables false
namespace Go.Lv.VT
set_option maxRecDepth 100000
def escC(c:UInt8):Str:=bif decide (32<c.toNat)&&decide (c.toNat<127)&& !digB c&& !alB c then [92,c]else 92::(hexS c.toNat++[32])
def pcW(dash:Bool)(k:Nat)(c:UInt8):Str:=bif letB c&&(k==0|| !digB c)&& !dash then [c]else escC c
def encW(dash:Bool):Nat->Str->Str
 |_,[]=>[]
 |k,c::r=>pcW dash k c++encW dash (k - 1) r
theorem zAH(c:UInt8):namN c.toNat=letB c:=by
 have: ∀n:Nat,n<256->namN (UInt8.ofNat n).toNat=letB (UInt8.ofNat n):=by decide+kernel
 have h:=this c.toNat (Eb c);simp_all
theorem yK(c:UInt8):Qj (c.toNat:Int)=some (letB c):=by rw[xS,zAH]
theorem YF(c:UInt8):ZX (c.toNat:Int)=some (digB c):=yS c
theorem zAs(c:UInt8):Bt (c.toNat:Int)=some (alB c):=of_n (by decide+kernel) c
theorem lX(c:UInt8):wu64 (c.toNat:Int)=(c.toNat:Int):=by
 have:=Eb c;show IntKind.u64.wrap _=_;have h: ∀n:Int,IntKind.u64.wrap n=n%18446744073709551616:=fun n=>by simp[IntKind.wrap,IntKind.bits,IntKind.signed]
 rw[h];omega
theorem Fv(c:UInt8):ZJ ((c.toNat:Nat):Int)=some c:=by simp_all
theorem XN(n:Nat):(hexS n).length<=2:=by unfold hexS;split<;>simp
theorem Om(c:UInt8){acc:Str}(j:acc.length<=1000000000):Zg ((c.toNat:Int),acc)=some (acc++escC c):=by
 have i:=Eb c;unfold Zg escC;simp only[zb,YF,zAs];have g:decide ((c.toNat:Int)>32)=decide (32<c.toNat):=by rw[decide_eq_decide];omega
 have f:decide ((c.toNat:Int)<127)=decide (c.toNat<127):=by rw[decide_eq_decide];omega
 rw[g,f];have b:short (acc++[(92:UInt8)])=true:=Ia (by grind);have e:Ko ((wu64 (c.toNat:Int),16),acc++[(92:UInt8)])=some (acc++[(92:UInt8)]++hexS c.toNat):=by unfold Ko;simp only[lX,b];rw[zB (by simp;omega)];rfl
 have h:=XN c.toNat;have a:need (zH acc.length 1 1) (zb (Ko ((wu64 (c.toNat:Int),16),acc++[(92:UInt8)])) fun d=>need (zH d.length 1 1) (some (d++[(32:UInt8)])))=some (acc++92::(hexS c.toNat++[32])):=by rw[zB (Pg (by omega)),e];simp only[zb,Aa];rw[zB (Pg (by grind))];simp
 simp only[zb]at a;rw[a];cases decide (32<c.toNat)with
 |false=>rfl
 |true=>
  cases decide (c.toNat<127)with
  |false=>rfl
  |true=>
   cases digB c with
   |true=>rfl
   |false=>
    cases alB c with
    |true=>rfl
    |false=> simp only[zo,Ca,Ua,Bool.and_self,Aa,Fv];rw[zB (Pg (by omega))]
theorem Dw(c:UInt8):(escC c).length<=4:=by
 have:=XN c.toNat;unfold escC
 grind
theorem oK(dash:Bool)(k:Nat)(c:UInt8):(pcW dash k c).length<=4:=by
 have:=Dw c;unfold pcW
 grind
theorem Io(dash:Bool): ∀(k:Nat) (l:Str),(encW dash k l).length<=4*l.length
 |_,[]=>by unfold encW;simp
 |k,c::r=>by
  have:=oK dash k c;have:=Io dash (k - 1) r;unfold encW
  grind
theorem zC9{dash:Bool}{k i:Nat}{l:Str}(h:i<l.length):encW dash (k - i) (l.drop i)=pcW dash (k - i) l[i]++encW dash (k - (i+1)) (l.drop (i+1)):=by rw[Bb h,encW,show k - i - 1=k - (i+1) by omega]
theorem WK {R:Type} {step:Int×List UInt8->Option (LO (Int×List UInt8) (List UInt8) R)} {l acc:Str} {k:Nat} {dash:Bool} (hl:l.length<=100000) (ha:acc.length<=100000000)
  (h1: ∀(i:Nat) (a:Str) (hi:i<l.length),a.length<=500000000->step ((i:Int),a)=some (.again (w64 ((i:Int)+1),a++pcW dash (k - i) l[i])))
  (h2: ∀a,step ((l.length:Int),a)=some (.out a)):Mg step (0,acc)=some (.out (acc++encW dash k l)):=by
 refine ZR (fun z=> ∃(i:Nat) (a:Str),z=((i:Int),a)/\i<=l.length/\a.length<=acc.length+4*i/\a++encW dash (k - i) (l.drop i)=acc++encW dash k l) (fun z=>l.length - z.1.toNat) _ ?_ ⟨0,acc,rfl,by omega,by omega,rfl⟩;rintro _ ⟨i,a,rfl,hi,hal,he⟩;rcases Xc i l.length with h|h
 ·refine .inl ⟨_,h1 i a h (by omega),⟨i+1,_,by rw[Zh (by omega) (by omega)];rfl,by omega,?_,?_⟩,by simp only;rw[Zh (by omega) (by omega)];omega⟩
  ·have:=oK dash (k - i) l[i]
   grind
  ·rw[<-he,zC9 h,La]
 ·have:i=l.length:=by omega
  subst this;refine .inr (.inl ⟨_,h2 a,?_⟩);rw[<-he,Pe (Xa _)];rw[show encW dash (k - l.length) []=[] by rw[encW],Va]
def ah(k:Nat)(l:Str):Bool:= !(k==0)&&l==[45]
def QT(l:Str):Nat:=if [45].isPrefixOf l then 2 else 1
theorem Sr(l:Str):ZY l=some ((QT l:Nat):Int):=by
 unfold ZY QT;simp only[zb,Qr,Aa]
 grind
def ZT(l:Str):Str:=encW (l==[45]) (QT l) l
theorem yu{n:Nat}(h:n<16):Qz (hexD n)=true/\hexN (hexD n)=n/\(hexD n==10)=false/\letB (hexD n)=true:=by
 have: ∀n:Nat,n<16->Qz (hexD n)=true/\hexN (hexD n)=n/\(hexD n==10)=false/\letB (hexD n)=true:=by decide+kernel
 exact this n h
theorem VH{k n:Nat}{c:UInt8}{r:Str}(h:Qz c=true):hexes (k+1) n (c::r)=hexes k (16*n+hexN c) r:=by rw[hexes,Ha h]
theorem PL{n:Nat}(h:n<256)(R:Str):hexes 6 0 (hexS n++32::R)=(n,32::R):=by
 unfold hexS;by_cases c:n<16
 ·obtain⟨a,b,_⟩:=yu c;rw[Ha c,Tc,VH a,b,XF _ _ (32::R) (show Qz 32=false by decide)];simp
 ·obtain⟨a,b,_⟩:=yu (show n / 16<16 by omega);obtain⟨e,d,_⟩:=yu (show n%16<16 by omega);rw[Ga c,Ra,Tc,VH a,VH e,b,d,XF _ _ (32::R) (show Qz 32=false by decide)]
  grind
theorem jG{n:Nat}(h:n<256)(R:Str): ∃d t,hexS n++R=d::t/\Qz d=true/\(d==10)=false:=by
 unfold hexS;by_cases c:n<16
 ·obtain⟨a,_,b,_⟩:=yu c;simp_all
 ·obtain⟨a,_,b,_⟩:=yu (show n / 16<16 by omega);exact⟨_,_,by rw[Ga c];rfl,a,b⟩
theorem bO{c:UInt8}(a:c≠0)(h:c.toNat<128):Og c.toNat=[c]:=by
 have b:c.toNat≠0:=by intro e;exact a (Me.1 e)
 unfold Og;rw[Ga (by omega),Ha h,Td]
theorem yO{r:Str}(h:escS (92::r)=true):zq (92::r)=((zt r).1++(zq (zt r).2).1,(zq (zt r).2).2):=by rw[zR,Ga (by decide),Ha h]
theorem gN{c:UInt8}(h0:c≠0)(h:c.toNat<128)(R:Str):zq (escC c++R)=(c::(zq R).1,(zq R).2):=by
 unfold escC;cases hg:decide (32<c.toNat)&&decide (c.toNat<127)&& !digB c&& !alB c with
 |true=>
  rw[Ca];have hx:Qz c=false/\(c==10)=false:=by
   have: ∀n:Nat,n<256->(decide (32<(UInt8.ofNat n).toNat)&&decide ((UInt8.ofNat n).toNat<127)&& !digB (UInt8.ofNat n)&& !alB (UInt8.ofNat n))=true->Qz (UInt8.ofNat n)=false/\(UInt8.ofNat n==10)=false:=by decide+kernel
   have:=this c.toNat (Eb c);rw[Td]at this;exact this hg
  have he:zt (c::R)=([c],R):=by show(if Qz c then _ else _)=_;rw[Ga (by rw[hx.1];decide)]
  rw[show [92,c]++R=92::c::R from rfl,yO (by unfold escS;rw[show atS (92::c::R) 0=92 from rfl,show atS (92::c::R) 1=c from rfl,hx.2];rfl),he];rfl
 |false=>
  rw[Ba,Ra,La];obtain⟨d,t,e,hd,h10⟩:=jG (n:=c.toNat) (Eb c) ([32]++R);have he:zt (hexS c.toNat++([32]++R))=([c],R):=by have hh:=PL (n:=c.toNat) (Eb c) R;rw[show(32::R:Str)=[32]++R from rfl,e]at hh;rw[e];show(if Qz d then(Og (hexes 6 0 (d::t)).1,unsp (hexes 6 0 (d::t)).2)else _)=_;rw[Ha hd,hh,bO h0 h];rfl
  rw[yO (by rw[e];unfold escS;rw[show atS (92::d::t) 0=92 from rfl,show atS (92::d::t) 1=d from rfl,h10];rfl),he];rfl
theorem VE{c:UInt8}(h: ¬c.toNat<128):letB c=true/\digB c=false:=by
 have: ∀n:Nat,n<256-> ¬(UInt8.ofNat n).toNat<128->letB (UInt8.ofNat n)=true/\digB (UInt8.ofNat n)=false:=by decide+kernel
 have:=this c.toNat (Eb c);simp_all
theorem jK{dash:Bool}{k:Nat}{c:UInt8}(e:c≠0)(f:dash=true->c.toNat<128)(R:Str):zq (pcW dash k c++R)=(c::(zq R).1,(zq R).2):=by
 unfold pcW;cases d:letB c&&(k==0|| !digB c)&& !dash with
 |true=> rw[Ea,Ea]at d;rw[Ca,Tc,zR,Ha d.1.1]
 |false=>
  rw[Ba];refine gN e ?_ R;by_cases h:c.toNat<128
  ·exact h
  ·obtain⟨a,b⟩:=VE h
   grind
theorem iN{dash:Bool}: ∀(k:Nat) (l:Str),Zp l=true->(dash=true-> ∀c∈l,c.toNat<128)->zq (encW dash k l)=(l,[])
 |_,[],_,_=>by rw[encW,qV]
 |k,c::r,h,a=>by unfold Zp at h;rw[xc,Ea]at h;rw[encW,jK (by grind) (fun e=>a e c (Ab ..)),iN (k - 1) r h.2 (fun e x b=>a e x (aa _ b))]
theorem WO{l:Str}(h:Zp l=true):zq (ZT l)=(l,[]):=by refine iN _ _ h (fun e c a=> ?_);simp_all
theorem EA{dash:Bool}{k:Nat}(hk:0<k)(c:UInt8)(R:Str): ∃d t,pcW dash k c++R=d::t/\(d=92/\escS (d::t)=true\/(d=c/\dash=false/\letB d=true/\digB d=false/\t=R)):=by
 have hk0:(k==0)=false:=by rw[Fa];omega
 unfold pcW;rw[hk0,Uc];cases hg:letB c&& !digB c&& !dash with
 |true=> rw[Ea,Ea,Od,Od]at hg;exact⟨c,R,rfl, .inr ⟨rfl,hg.2,hg.1.1,hg.1.2,rfl⟩⟩
 |false=>
  rw[Ba];unfold escC;cases hg2:decide (32<c.toNat)&&decide (c.toNat<127)&& !digB c&& !alB c with
  |true=>
   refine⟨92,c::R,rfl, .inl ⟨rfl,?_⟩⟩;have:c≠10:=by rintro rfl;revert hg2;decide
   unfold escS;rw[show atS (92::c::R) 1=c from rfl,Fa.2 this];rfl
  |false=> obtain⟨d,t,e,hd,h10⟩:=jG (n:=c.toNat) (Eb c) ([32]++R);refine⟨92,_,by rw[Ba,Ra,La], .inl ⟨rfl,?_⟩⟩;rw[e];unfold escS;rw[show atS (92::d::t) 1=d from rfl,h10];rfl
theorem mO{d:UInt8}(h:letB d=true)(h2:digB d=false):fstB d=true\/d=45:=by
 unfold letB at h
 grind
theorem dW{d:UInt8}{t:Str}(a:d=92)(h:escS (d::t)=true):nmS (d::t)=true:=by subst a;unfold nmS;rw[show atS (92::t) 0=92 from rfl,Ga (by decide),h,Hf]
theorem Oi{l:Str}(h:l≠[]):nmS (ZT l)=true:=by
 cases l with
 |nil=>grind
 |cons c r=>
  unfold ZT encW;obtain⟨d,t,e,u⟩:=EA (dash:=(c::r:Str)==[45]) (k:=QT (c::r)) (by unfold QT;split<;>omega) c (encW ((c::r:Str)==[45]) (QT (c::r) - 1) r);rw[e];rcases u with⟨q,j⟩|⟨rfl,j,x,v,o⟩
  ·exact dW q j
  ·rcases mO x v with p|rfl
   ·by_cases m:d=45
    ·subst m;exact absurd p (by decide)
    ·unfold nmS;rw[show atS (d::t) 0=d from rfl,Ga (by grind),p,Yd]
   ·have C:r≠[]:=by rintro rfl;exact absurd j (by decide)
    cases r with
    |nil=>grind
    |cons f g=>
     have A:QT (45::f::g)=2:=rfl;rw[A]at o;obtain⟨a,b,y,n⟩:=EA (dash:=(45::f::g:Str)==[45]) (k:=2 - 1) (by omega) f (encW ((45::f::g:Str)==[45]) (2 - 1 - 1) g);have z:t=a::b:=by rw[o,encW,y]
     rw[z];unfold nmS;rw[show atS (45::a::b) 0=45 from rfl,Ha (show((45:UInt8)==45)=true from rfl),show atS (45::a::b) 1=a from rfl,show(45::a::b:Str).drop 1=a::b from rfl];rcases n with⟨_,B⟩|⟨_,_,s,w,_⟩
     ·grind
     ·rcases mO s w with i|rfl
      ·rw[i];rfl
      ·simp
theorem Lp(m:UInt8):Za m []=(some [],[]):=by rw[Za]
theorem Qu(m c:UInt8)(r:Str):Za m (c::r)=if c==m then(some [],r)
  else if c==10 then(none,c::r)
  else if c==92 then
   (if r.isEmpty then(some [],[])
   else if atS r 0==10 then Za m (r.drop 1)
   else((Za m (zt r).2).1.map ((zt r).1++ ·),(Za m (zt r).2).2))
  else((Za m r).1.map (c:: ·),(Za m r).2):=by rw[Za]
theorem Ns(m:UInt8)(l:Str):(Za m l).2<:+l:=by
 match l with
 |[]=>rw[Lp];grind
 |c::r=>
  rw[Qu];have a:=Wd c r;split
  ·exact a
  ·split
   ·grind
   ·split
    ·split
     ·grind
     ·split
      ·exact(Ns m (r.drop 1)).trans ((Ke 1 r).trans a)
      ·have:=Zc r;exact(Ns m (zt r).2).trans ((qi r).trans a)
    ·exact(Ns m r).trans a
termination_by l.length
decreasing_by
 all_goals grind
theorem TE(a b:Str)(x:Option Str):(x.map (b++ ·)).map (a++ ·)=x.map ((a++b)++ ·):=by
 cases x with
 |none=>rfl
 |some t=>grind
theorem PN(a:Str)(b:UInt8)(x:Option Str):(x.map (b:: ·)).map (a++ ·)=x.map ((a++[b])++ ·):=TE a [b] x
def Jj:Option Str->ze
 |some t=>⟨5,t,0,[],false⟩
 |none=>⟨6,[],0,[],false⟩
theorem zD1{s q:Str}{m:UInt8}(k:s.length<=big)(w:m::q<:+s):ZM (sr s (m::q))=some (Jj (Za m q).1,sr s (Za m q).2):=by
 have J:big=4194304:=rfl;have D:=Ri w;unfold ZM;simp only[zb,Xg k w,Aa,Bo,Gh k w]
 let g:LX (za×ze×List UInt8) (ze×za):=match(Za m q).1 with
  |some t=> .out (sr s (Za m q).2,⟨0,[],0,[],false⟩,t)
  |none=> .ret (⟨6,[],0,[],false⟩,sr s (Za m q).2)
 rw[Qt (r:=g)]
 ·show LX.go g _=_;cases h:(Za m q).1 with
  |some t=>simp only[g,h];rfl
  |none=>simp only[g,h];rfl
 refine ZR (fun z=> ∃(p e:Str),z=(sr s p,⟨0,[],0,[],false⟩,e)/\p<:+s/\e.length+4*p.length<=4*s.length/\(Za m q).1=(Za m p).1.map (e++ ·)/\(Za m q).2=(Za m p).2) (fun z=>s.length - z.1.at_.toNat) _ ?_
  ⟨q,[],rfl,D,by grind,by simp,rfl⟩
 rintro _ ⟨p,e,rfl,j,C,b,a⟩;simp only[Xg k j,Aa,Un,kJ,bV];cases p with
 |nil=>
  refine .inr (.inl ⟨_,rfl,?_⟩);rw[Lp]at b a
  grind
 |cons c t=>
  have i:=j.length_le;rw[Ja]at i C;have n:=Ri j;rw[Qu]at b a;rw[show(c::t).isEmpty=false from rfl,Ba,Bo,show((c.toNat:Int)==(m.toNat:Int))=(c==m)from Xz c m,show atS (c::t) 0=c from rfl,Gh k j];have f: ∀u:Str,u.length<=t.length->u<:+s->s.length - beh s u<s.length - beh s (c::t):=by intro u A F;unfold beh;rw[Ja];omega
  cases v:c==m with
  |true=>
   grind
  |false=>
   rw[v,Ga (by decide)]at b a;rw[Ba];cases y:c==10 with
   |true=>
    grind
   |false=>
    rw[y,Ga (by decide)]at b a;rw[Ba];cases l:c==92 with
    |false=> rw[l,Ga (by decide)]at b a;simp only[zo,Ba,Aa,Rc,Yv];rw[zB (Pg (by omega))];exact .inl ⟨_,rfl,⟨t,e++[c],rfl,n,by grind,by rw[b,PN],a⟩,f t (by omega) n⟩
    |true=>
     rw[l,Ha rfl]at b a;simp only[zo,Ca,Uu k j,Aa,Pb];have x:pk (c::t) 1=pk t 0:=rfl;rw[x,Un];cases t with
     |nil=>
      rw[show([]:Str).isEmpty=true from rfl,Ha rfl]at b a;have o:beh s [c]=s.length - 1:=rfl;have G:(if((s.length:Int)<w64 ((beh s [c]:Int)+2))then(s.length:Int)else w64 ((beh s [c]:Int)+2))=((beh s []:Nat):Int):=by rw[Zh (by omega) (by omega),Ha (by omega)];unfold beh;rw[Sb];omega
      refine .inl ⟨(sr s [],⟨0,[],0,[],false⟩,e),?_,⟨[],e,rfl,List.nil_suffix,by grind,by rw[b,Lp],by rw[a,Lp]⟩,f [] (by simp) List.nil_suffix⟩
      grind
     |cons d u=>
      rw[show(d::u).isEmpty=false from rfl,Ga (by decide)]at b a;simp only[show(d::u).isEmpty=false from rfl,Ua,Ca,Ba,Aa,kJ];cases B:atS (d::u) 0==10 with
      |true=>
       rw[B,Ha rfl]at b a;have A:=Ri n;rw[Ja]at i C;have o:beh s (c::d::u)=s.length - (u.length+1+1):=by unfold beh;rw[Ja,Ja]
       have G:(if((s.length:Int)<w64 ((beh s (c::d::u):Int)+2))then(s.length:Int)else w64 ((beh s (c::d::u):Int)+2))=((beh s u:Nat):Int):=by rw[Zh (by omega) (by omega),Ga (by omega)];unfold beh;rw[Ja,Ja];omega
       refine .inl ⟨(sr s u,⟨0,[],0,[],false⟩,e),?_,⟨u,e,rfl,A,by omega,b,a⟩,f u (by grind) A⟩
       grind
      |false=> rw[B,Ga (by decide)]at b a;have H:=Jw (d::u);have E:=Zc (d::u);refine .inl ⟨(sr s (zt (d::u)).2,⟨0,[],0,[],false⟩,e++(zt (d::u)).1),?_,⟨_,_,rfl,(qi _).trans n,by grind,by rw[b,TE],a⟩,f _ E ((qi _).trans n)⟩;simp only[Ba,lG k j (show e.length<=1000000000 by omega),Aa]
theorem YV{n:Nat}(l:n≠0)(h:n<16777216):ZG (w32 (n:Int))=some (Og n):=by
 have j:zH 0 1 1=true:=Pg (by omega);have f:zH 0 2 1=true:=Pg (by omega);have d:zH 0 3 1=true:=Pg (by omega);have g:zH 0 4 1=true:=Pg (by omega);have c:(128+n%64)<256:=by omega
 have a:(128+n / 64%64)<256:=by omega
 have b:(128+n / 4096%64)<256:=by omega
 unfold ZG qz Og;simp only[Cm (show n<2147483648 by omega),XM (show n<2147483648 by omega),zb,shr6,UV,TV,TN,ZW c,ZW a,ZW b,Aa];by_cases e:n<128
 ·rw[Ia (by omega),Ca,ou,ZW (by omega),Aa,zB j,Ga (by omega),Ha e,Gf (by omega)]
 ·rw[Ya (by omega),Ba];by_cases i:n<2048
  ·rw[Ia (by omega),Ca,JV (by omega),ZW (by omega)];simp only[Aa];rw[zB f,Ga (by omega),Ga (by omega),Ha i];rfl
  ·rw[Ya (by omega),Ba];by_cases m:n<55296
   ·rw[Ia (by omega),Ca,zh];simp only[Ca];rw[GD (by omega),ZW (by omega)];simp only[Aa];rw[zB d,Ga (by omega),Ga (by omega),Ga (by omega),Ha (by omega)];rfl
   ·rw[Ya (by omega),Ba,zh];simp only[uW];by_cases k:57343<n/\n<65536
    ·rw[Ia (by omega),Ia (by omega),Pb,Ca,GD (by omega),ZW (by omega)];simp only[Aa];rw[zB d,Ga (by omega),Ga (by omega),Ga (by omega),Ha (by omega)];rfl
    ·rw[show(decide ((57343:Int)<(n:Int))&&decide ((n:Int)<=65535))=false by grind,Ba];by_cases o:65535<n/\n<=1114111
     ·rw[Ia (by omega),Ia (by omega),Pb,Ca,IV (by omega),ZW (by omega)];simp only[Aa];rw[zB g,Ga (by omega),Ga (by omega),Ga (by omega),Ga (by omega)];rfl
     ·rw[show(decide ((n:Int)>65535)&&decide ((n:Int)<=1114111))=false by grind,Ba,zB d,Ha (by omega)];rfl
theorem TQ:ZG 65533=some El:=by have h:=YV (n:=65533) (by omega) (by omega);rw[Cm (by omega)]at h;exact h
theorem tY{s l:Str}{c:UInt8}(hs:s.length<=big)(hr:c::l<:+s):
  Zm (sr s (c::l))=some (sr s (zt l).2,(zt l).1):=by
 have hl:=Ri hr;unfold Zm;simp only[Gh hs hr,zb,Xg hs hl,Aa,Un];cases l with
 |nil=> rw[show([]:Str).isEmpty=true from rfl,Ca,TQ];rfl
 |cons d r=>
  rw[show(d::r).isEmpty=false from rfl,Ba,kC];simp only[Aa,OA];cases hx:Qz (atS (d::r) 0)with
  |false=>
   rw[Ua,Ca,Bo,Yv];simp only[Aa,Gh hs hl];rw[zB (Pg (n:=0) (by omega))];have:zt (d::r)=([d],r):=by show(if Qz d then _ else _)=_;rw[Ga (by rw[show Qz d=false from hx];decide)]
   rw[this]
  |true=>
   rw[ja,Ba];have he:zt (d::r)=(Og (hexes 6 0 (d::r)).1,unsp (hexes 6 0 (d::r)).2):=by show(if Qz d then _ else _)=_;rw[Ha (show Qz d=true from hx)]
   rw[he];rw[qY (kM (l:=d::r) hl (fun n i q hq hn hi=> ?_))]
   ·have hq:(hexes 6 0 (d::r)).2<:+s:=(Fw 6 0 _).trans hl;have hlt:=yF 6 0 (d::r);rw[show 16 ^ 6*(0+1)=16777216 from rfl]at hlt;simp only[Xg hs hq,Aa,Dv];have hj:(bif spB (atS (hexes 6 0 (d::r)).2 0)then some (LX.out (((hexes 6 0 (d::r)).1:Int),(⟨s,w64 ((beh s (hexes 6 0 (d::r)).2:Int)+1)⟩:za)))else some (LX.out (((hexes 6 0 (d::r)).1:Int),sr s (hexes 6 0 (d::r)).2)):Option (LX (Int×za) (za×List UInt8)))
      =some (LX.out (((hexes 6 0 (d::r)).1:Int),sr s (unsp (hexes 6 0 (d::r)).2))):=by
     cases hh:(hexes 6 0 (d::r)).2 with
     |nil=>rfl
     |cons e t=>
      rw[hh]at hq;rw[show atS (e::t) 0=e from rfl,Gh hs hq];show _=some (LX.out (_,sr s (if spB e then t else e::t)))
      grind
    rw[hj,zh];simp only;by_cases h0:(hexes 6 0 (d::r)).1=0
    ·rw[h0,show((((0:Nat):Int))==0)=true from rfl,Ca,zh];simp only[Cm (show 65533<2147483648 by omega),show w32 (65533:Int)=65533 from Cm (n:=65533) (by omega),TQ,Aa];rfl
    ·rw[show(((hexes 6 0 (d::r)).1:Int)==0)=false by grind,Ba,zh];simp only[YV h0 hlt,Aa]
   ·simp only[Xg hs hq,Aa,kC,OA];have hb6:decide ((i:Int)<6)=decide (i<6):=by rw[decide_eq_decide];omega
    rw[hb6];cases decide (i<6)with
    |false=>rfl
    |true=>
     rw[Ca,ma];cases hx2:Qz (atS q 0)with
     |false=>rfl
     |true=>
      cases q with
      |nil=>exact absurd hx2 (by decide)
      |cons e t=>
       have hI:hexI (atS (e::t) 0)=(hexN (atS (e::t) 0):Int):=by unfold hexI;rw[Ha hx2]
       rw[hI,KW hn (xy hx2),Gh hs hq,Zh (by omega) (by omega)];rfl
theorem av:badS []=[]:=by rw[badS]
theorem Yw(c:UInt8)(r:Str):badS (c::r)=if c==41 then r else if escS (c::r)then badS (zt r).2 else badS r:=by rw[badS]
theorem Yz(l:Str):badS l<:+l:=by
 match l with
 |[]=>rw[av];grind
 |c::r=>
  rw[Yw];have a:=Wd c r;split
  ·exact a
  ·split
   ·have:=Zc r;exact(Yz (zt r).2).trans ((qi r).trans a)
   ·exact(Yz r).trans a
termination_by l.length
decreasing_by
 all_goals grind
theorem zEW{s t:Str}{c:UInt8}(e:s.length<=big)(h:c::t<:+s):geti s (w64 ((beh s t:Int) - 1))=some c:=by
 have f:big=4194304:=rfl;have b:=h.length_le;rw[Ja]at b;have d:=Ur h;have g:beh s t=beh s (c::t)+1:=by unfold beh;rw[Ja];omega
 have a:beh s (c::t)<s.length:=by unfold beh;rw[Ja];omega
 rw[Zh (by omega) (by omega),show(beh s t:Int) - 1=((beh s (c::t):Nat):Int) by omega,Zq a];rw[Bb a]at d
 grind
theorem badR{s q:Str}(e:s.length<=big)(j:q<:+s):ZE (sr s q)=some (⟨8,[],0,[],false⟩,sr s (badS q)):=by
 unfold ZE;refine fG ?_;refine ZR (fun z=> ∃(p:Str),z=(sr s p,(⟨0,[],0,[],false⟩:ze))/\p<:+s/\badS q=badS p) (fun z=>s.length - z.1.at_.toNat) _ ?_ ⟨q,rfl,j,rfl⟩;rintro _ ⟨p,rfl,b,g⟩;simp only[zb,Xg e b,Aa,Un];cases p with
 |nil=>exact .inr (.inr ⟨_,rfl,by rw[g,av]⟩)
 |cons c t=>
  have d:=b.length_le;rw[Ja]at d;have i:=Ri b;have f: ∀u:Str,u.length<=t.length->u<:+s->s.length - beh s u<s.length - beh s (c::t):=by intro u l k;unfold beh;rw[Ja];omega
  rw[show(c::t).isEmpty=false from rfl,Ba,UG e b];rw[Yw]at g;simp only[Aa];cases a:escS (c::t)with
  |true=>
   have h:(c==41)=false:=by unfold escS at a;rw[Ea,Jb]at a;rw[show c=92 from a.1];decide
   rw[a,h,Ga (by decide),Ha rfl]at g;rw[Ca,tY e b];exact .inl ⟨_,rfl,⟨_,rfl,(qi t).trans i,g⟩,f _ (Zc t) ((qi t).trans i)⟩
  |false=>
   rw[Ba,Gh e b,zEW e b];simp only[Aa];rw[show((c.toNat:Int)==41)=(c==41)from Xz c 41]
   grind
theorem Oo:urlS []=(some [],[]):=by rw[urlS]
theorem ak(c:UInt8)(r:Str):urlS (c::r)=if c==41 then(some [],r)
  else if spB c then(match past spB r with
   |[]=>(some [],[])
   |d::a=>if d==41 then(some [],a)else(none,badS (d::a)))
  else if c==34||c==39||c==40||unB c||c==92&& !escS (c::r)then(none,badS (c::r))
  else if c==92 then((urlS (zt r).2).1.map ((zt r).1++ ·),(urlS (zt r).2).2)
  else((urlS r).1.map (c:: ·),(urlS r).2):=by rw[urlS];grind
theorem lq(l:Str):(urlS l).2<:+l:=by
 match l with
 |[]=>rw[Oo];grind
 |c::r=>
  rw[ak];have a:=Wd c r;split
  ·exact a
  ·split
   ·have b:=(Im spB r).trans a;cases e:past spB r with
    |nil=>grind
    |cons d f=>
     rw[e]at b;simp only;split
     ·exact(Wd d f).trans b
     ·exact(Yz _).trans b
   ·split
    ·exact Yz _
    ·split
     ·have:=Zc r;exact(lq (zt r).2).trans ((qi r).trans a)
     ·exact(lq r).trans a
termination_by l.length
decreasing_by
 all_goals grind
def Ij:Option Str->ze
 |some t=>⟨7,t,0,[],false⟩
 |none=>⟨8,[],0,[],false⟩
theorem zEg(c:UInt8): ∃y,zo (!(bif bif bif bif (c.toNat:Int)==34 then true else(c.toNat:Int)==39 then true else(c.toNat:Int)==40 then true else decide ((c.toNat:Int)<=8)then true else(c.toNat:Int)==11)) (Z0 ((c.toNat:Int),14,31)) (default:Bool)=some y/\
  (bif bif bif bif bif bif (c.toNat:Int)==34 then true else(c.toNat:Int)==39 then true else(c.toNat:Int)==40 then true else decide ((c.toNat:Int)<=8)then true else(c.toNat:Int)==11 then true else y then true else(c.toNat:Int)==127)=(c==34||c==39||c==40||unB c):=by
 have a: ∀n:Nat,n<256->((zo (!(bif bif bif bif (n:Int)==34 then true else(n:Int)==39 then true else(n:Int)==40 then true else decide ((n:Int)<=8)then true else(n:Int)==11)) (Z0 ((n:Int),14,31)) (default:Bool)).elim false fun y=>
  (bif bif bif bif bif bif (n:Int)==34 then true else(n:Int)==39 then true else(n:Int)==40 then true else decide ((n:Int)<=8)then true else(n:Int)==11 then true else y then true else(n:Int)==127)==(UInt8.ofNat n==34||UInt8.ofNat n==39||UInt8.ofNat n==40||unB (UInt8.ofNat n)))=true:=by decide+kernel
 have h:=a c.toNat (Eb c);rw[Td]at h;cases b:zo (!(bif bif bif bif (c.toNat:Int)==34 then true else(c.toNat:Int)==39 then true else(c.toNat:Int)==40 then true else decide ((c.toNat:Int)<=8)then true else(c.toNat:Int)==11)) (Z0 ((c.toNat:Int),14,31)) (default:Bool)with
 |none=>grind
 |some y=>
  grind
theorem fJ(c:UInt8)(t:Str):(pk (c::t) 0== -1)=false:=by rw[Un];rfl
theorem urlR{s w:Str}(f:s.length<=big)(v:w<:+s):qo (sr s w)=some (Ij (urlS (past spB w)).1,sr s (urlS (past spB w)).2):=by
 have L:big=4194304:=rfl;unfold qo;rw[Ky f v];simp only[zb,Aa];have E:=Po spB v;generalize past spB w=q at E ⊢;refine fG ?_;refine ZR (fun z=> ∃(p e:Str),z=(sr s p,(⟨0,[],0,[],false⟩:ze),e)/\p<:+s/\e.length+4*p.length<=4*s.length/\(urlS q).1=(urlS p).1.map (e++ ·)/\(urlS q).2=(urlS p).2) (fun z=>s.length - z.1.at_.toNat) _ ?_
  ⟨q,[],rfl,E,by grind,by simp,rfl⟩
 rintro _ ⟨p,e,rfl,h,G,b,a⟩;simp only[Xg f h,Aa,Dv];cases p with
 |nil=> refine .inr (.inr ⟨_,rfl,?_⟩);rw[Oo]at b a;rw[b,a];simp only[jc,Va,Ij]
 |cons c t=>
  have m:=h.length_le;rw[Ja]at m G;have r:=Ri h;have k: ∀u:Str,u.length<=t.length->u<:+s->s.length - beh s u<s.length - beh s (c::t):=by intro u M J;unfold beh;rw[Ja];omega
  rw[ak]at b a;rw[show atS (c::t) 0=c from rfl];cases j:spB c with
  |true=>
   have i:(c==41)=false:=by rw[Fa];rintro rfl;exact absurd j (by decide)
   rw[i,j,Ga (by decide),Ha rfl]at b a;have D:past spB (c::t)=past spB t:=by rw[past,Ha j]
   have g:past spB t<:+s:=Po spB r;rw[Ca,Ky f h,D];simp only[Aa,Xg f g];cases o:past spB t with
   |nil=> rw[o]at b a;refine .inr (.inr ⟨_,rfl,?_⟩);simp only at b a;rw[b,a];simp only[jc,Va,Ij]
   |cons d F=>
    rw[o]at b a g;simp only at b a;unfold bne;rw[jJ,fJ,show atS (d::F) 0=d from rfl];cases C:d==41 with
    |true=> rw[C,Ha rfl]at b a;refine .inr (.inr ⟨_,?_,rfl⟩);simp only[ja,Ba,zh,fJ,jJ,show atS (d::F) 0=d from rfl,C,Ca,Gh f g];rw[b,a];simp only[jc,Va,Ij]
    |false=> rw[C,Ga (by decide)]at b a;refine .inr (.inr ⟨_,?_,rfl⟩);simp only[Ua,Ca,badR f g,Aa,zxL];rw[b,a];rfl
  |false=>
   rw[Ba,zh];simp only[fJ,jJ,show atS (c::t) 0=c from rfl,Ba,Gh f h];cases i:c==41 with
   |true=> rw[i,Ha rfl]at b a;refine .inr (.inr ⟨_,by rw[Ca],?_⟩);rw[b,a];simp only[jc,Va,Ij]
   |false=>
    rw[i,Ga (by decide),j,Ga (by decide)]at b a;rw[Ba];obtain⟨y,B,A⟩:=zEg c;rw[Bo,B];simp only[Aa];rw[A];cases x:(c==34||c==39||c==40||unB c)with
    |true=> rw[x,Yd,Ha rfl]at b a;refine .inr (.inr ⟨_,?_,rfl⟩);rw[Ca,badR f h];simp only[Aa];rw[b,a];rfl
    |false=>
     rw[x,Uc]at b a;rw[Ba];unfold bne;rw[show((c.toNat:Int)==92)=(c==92)from Xz c 92];cases n:c==92 with
     |false=> rw[n,Nb,Ga (by decide),Ga (by decide)]at b a;rw[Ua,Ca,Yv];simp only[Aa];rw[zB (Pg (by omega))];exact .inl ⟨_,rfl,⟨t,e++[c],rfl,r,by grind,by rw[b,PN],a⟩,k t (Xa _) r⟩
     |true=>
      rw[n,ma]at b a;rw[ja,Ba,UG f h];simp only[Aa];cases l:escS (c::t)with
      |true=> rw[l,ja,Ga (by decide),Ha rfl]at b a;have K:=Jw t;have H:=Zc t;refine .inl ⟨(sr s (zt t).2,⟨0,[],0,[],false⟩,e++(zt t).1),?_,⟨_,_,rfl,(qi _).trans r,by grind,by rw[b,TE],a⟩,k _ H ((qi _).trans r)⟩;simp only[Ca,lG f h (show e.length<=1000000000 by omega),Aa]
      |false=> rw[l,Ua,Ha rfl]at b a;refine .inr (.inr ⟨_,?_,rfl⟩);rw[Ba,badR f h];simp only[Aa];rw[b,a];rfl
def hdB(b:UInt8):Bool:=b==45||fstB b||b==92
theorem Ym{q:Str}(h:nmS q=true):hdB (atS q 0)=true:=by
 unfold nmS at h;unfold hdB;cases a:atS q 0==45 with
 |true=>rfl
 |false=>
  rw[a,Ga (by decide),Lc]at h;rcases h with h|h
  ·rw[h];rfl
  ·unfold escS at h
   grind
theorem Oq{b:UInt8}(h:hdB b=true):spB b=false/\(b==34)=false/\(b==39)=false/\(b==35)=false/\(b==64)=false/\(b==47)=false/\(b==60)=false/\(b==43)=false/\(b==46)=false/\digB b=false/\b≠0:=by
 have: ∀n:Nat,n<256->hdB (UInt8.ofNat n)=true->spB (UInt8.ofNat n)=false/\(UInt8.ofNat n==34)=false/\(UInt8.ofNat n==39)=false/\(UInt8.ofNat n==35)=false/\(UInt8.ofNat n==64)=false/\(UInt8.ofNat n==47)=false/\(UInt8.ofNat n==60)=false/\(UInt8.ofNat n==43)=false/\(UInt8.ofNat n==46)=false/\digB (UInt8.ofNat n)=false/\UInt8.ofNat n≠0:=by decide+kernel
 have:=this b.toNat (Eb b);simp_all
theorem NV{q:Str}(h:nmS q=true):nbS q=false:=by
 obtain⟨_,_,_,_,_,_,_,a,j,f,_⟩:=Oq (Ym h);unfold nbS unsign Xf;rw[a,Uc];cases b:atS q 0==45 with
 |false=>
  rw[Ga (by decide)];unfold undot
  grind
 |true=>
  rw[Ha rfl];unfold nmS at h;rw[b,Ha rfl]at h;have i:hdB (atS q 1)=true:=by
   unfold hdB;cases e:fstB (atS q 1)with
   |true=>simp
   |false=>
    cases g:atS q 1==45 with
    |true=>rfl
    |false=> rw[e,g,Uc,Uc]at h;unfold escS at h;rw[Ea,QW]at h;rw[h.1];rfl
  obtain⟨_,_,_,_,_,_,_,_,d,c,_⟩:=Oq i;unfold undot;rw[QW,d,Ga (by decide),QW,c]
theorem gV{s r:Str}:(decide ((0:Int)<=(beh s r:Int))&&decide ((beh s r:Int)<=(s.length:Int)))=true:=by
 have:=Dk s r
 grind
theorem oD{s r:Str}(a:r<:+s):List.drop ((beh s r:Int)).toNat s=r:=by rw[Db,Ur a]
theorem Jq{a b:UInt8}{m t:Str}(h:(b==a)=false):(a::m).isPrefixOf (b::t)=false:=by
 grind
theorem nK{a:UInt8}{m q:Str}(c:a≠0)(h:(atS q 0==a)=false):(a::m).isPrefixOf q=false:=by
 cases q with
 |nil=>rfl
 |cons b t=>exact Jq h
def capF(cap:Nat):Nat->Str->Nat
 |n,[]=>n
 |n,c::r=>capF cap (min cap (decN n c)) r
theorem iP(cap:Nat): ∀(l:Str) (n:Nat) (c:UInt8),capF cap n (l++[c])=min cap (decN (capF cap n l) c)
 |[],_,_=>rfl
 |d::l,n,c=>by show capF cap (min cap (decN n d)) (l++[c])=_;rw[iP cap l];rfl
theorem Wz(cap:Nat): ∀(l:Str) (n:Nat),n<=cap->capF cap n l<=cap
 |[],_,h=>h
 |c::l,n,_=>Wz cap l _ (Nat.min_le_left ..)
theorem uM {R:Type} {step:Int×Int->Option (LO (Int×Int) Int R)} {l:Str} {cap:Nat} (b:l.all digB=true) (j:l.length<=100000) (f:cap<=1000000000000)
  (a: ∀(v:Int) (i:Nat) (hi:i<l.length),step (v,(i:Int))=some (.again (if(cap:Int)<w64 (w64 (10*v)+w64 (wu8 ((l[i].toNat:Int) - 48)))then(cap:Int)else w64 (w64 (10*v)+w64 (wu8 ((l[i].toNat:Int) - 48))),w64 ((i:Int)+1))))
  (h2: ∀v:Int,step (v,(l.length:Int))=some (.out v)):Mg step (0,0)=some (.out ((capF cap 0 l:Nat):Int)):=by
 refine ZR (fun s=> ∃i:Nat,i<=l.length/\s=(((capF cap 0 (l.take i):Nat):Int),(i:Int))) (fun s=>l.length - s.2.toNat) _ ?_ ⟨0,by omega,rfl⟩;rintro _ ⟨i,hi,rfl⟩;rcases Xc i l.length with h|h
 ·refine .inl ⟨_,a _ i h,⟨i+1,by omega,?_⟩,by simp only;rw[Zh (by omega) (by omega)];omega⟩;have e:=mr (Vb.1 b _ (Ac h));have d:capF cap 0 (l.take (i+1))=min cap (decN (capF cap 0 (l.take i)) l[i]):=by rw[Bc h,iP]
  have g:=Wz cap (l.take i) 0 (Ub _);have c:wu8 ((l[i].toNat:Int) - 48)=((l[i].toNat - 48:Nat):Int):=by show IntKind.u8.wrap _=_;rw[IntKind.wrap_u8];omega
  unfold decN at d;rw[c,Zh (n:=10*_) (by omega) (by omega),Zh (n:=((l[i].toNat - 48:Nat):Int)) (by omega) (by omega),Zh (n:=(i:Int)+1) (by omega) (by omega),Zh (by omega) (by omega)];refine Prod.ext ?_ ?_
  ·grind
  ·grind
 grind
theorem JO: ∀(k n:Nat),n<=Jh->Bi k n<=Jh
 |0,_,h=>h
 |k+1,n,h=>by
  unfold Bi;split
  ·exact h
  ·exact JO k _ (Nat.min_le_left ..)
theorem M5 {R:Type} {step:Int×Int->Option (LO (Int×Int) Int R)} {v:Nat} {p:Int} (n:p<=4000000) (d: -4000000<=p) (i:v<=1000000000000)
  (h: ∀(a b:Int),step (a,b)=bif bif bif decide (a>0)then decide (b>0)else false then decide (b<1000000000000)else false then some (.again (w64 (a - 1),if 1000000000000<w64 (10*b)then 1000000000000 else w64 (10*b)))else some (.out b)):
  Mg step (p,(v:Int))=some (.out ((Bi p.toNat v:Nat):Int)):=by
 have o:Jh=1000000000000:=rfl;refine ZR (fun s=> ∃(a:Int) (b:Nat),s=(a,(b:Int))/\a<=4000000/\ -4000000<=a/\b<=1000000000000/\Bi a.toNat b=Bi p.toNat v) (fun s=>s.1.toNat) _ ?_ ⟨p,v,rfl,n,d,i,rfl⟩;rintro _ ⟨a,b,rfl,r,f,q,c⟩;rw[h];by_cases e:a>0
 ·obtain⟨k,l⟩: ∃k,a.toNat=k+1:=⟨a.toNat - 1,by omega⟩;rw[l,Bi]at c;rw[Ia e,Ca];by_cases g:b=0\/Jh<=b
  ·grind
  ·rw[Ga g]at c;have m:decide (((b:Nat):Int)>0)=true:=Ia (by omega);have j:decide (((b:Nat):Int)<1000000000000)=true:=Ia (by omega);rw[m,Ca,j,Ca];refine .inl ⟨_,rfl,⟨a - 1,min Jh (10*b),?_,by omega,by omega,by omega,?_⟩,by simp only;rw[Zh (by omega) (by omega)];omega⟩
   ·rw[Zh (by omega) (by omega),Zh (by omega) (by omega)]
    grind
   grind
 ·rw[Ya e,Ba];refine .inr (.inl ⟨_,rfl,?_⟩);rw[<-c,show a.toNat=0 by omega];rfl
structure NumP where
 sg:Str
 D:Str
 F:Option Str
 X:Option (UInt8×Str×Str)
def dotS:Option Str->Str
 |none=>[]
 |some f=>46::f
def expT:Option (UInt8×Str×Str)->Str
 |none=>[]
 |some (e,s,x)=>e::(s++x)
def NumP.txt(n:NumP):Str:=n.sg++(n.D++(dotS n.F++expT n.X))
def sgB(s:Str):Bool:=s==[]||s==[43]||s==[45]
def NumP.ok(n:NumP):Bool:=sgB n.sg&&n.D.all digB&&(match n.F with|none=> !n.D.isEmpty|some f=> !f.isEmpty&&f.all digB)&&
 (match n.X with|none=>true|some (e,s,x)=>(e==101||e==69)&&sgB s&& !x.isEmpty&&x.all digB)
def expV:Option (UInt8×Str×Str)->Int
 |none=>0
 |some (_,s,x)=>if s==[45]then -((capF 1048576 0 x:Nat):Int)else((capF 1048576 0 x:Nat):Int)
def thoV(A:Str)(p:Int):Nat:=Bi p.toNat (capF Jh 0 (if p<0 then A.take ((A.length:Int)+p).toNat else A))
def NumP.val(n:NumP):Int:=
 let v:=thoV (n.D++n.F.getD []) (3+expV n.X - ((n.F.getD []).length:Int))
 if n.sg==[45]then -(v:Int)else(v:Int)
theorem wz{s:Str}(h:sgB s=true):s=[]\/s=[43]\/s=[45]:=by
 unfold sgB at h
 grind
theorem EK{s q:Str}(h:sgB s=true)(b: ∀c r,q=c::r->List.contains [43,45] c=false):Lib.trimLeftS (s++q) [43,45]=q:=by
 have a:Lib.trimLeftS q [43,45]=q:=by
  unfold Lib.trimLeftS;cases q with
  |nil=>rfl
  |cons c r=>simp_all
 rcases wz h with rfl|rfl|rfl
 ·exact a
 ·show List.dropWhile _ (43::q)=_;rw[Nc];exact a
 ·show List.dropWhile _ (45::q)=_;rw[Nc];exact a
theorem bL{e:UInt8}(he:e=101\/e=69)(t:Str): ∀(l:Str),(l.all fun b=>digB b||b==46)=true->Lib.indexAny (l++e::t) [101,69]=(l.length:Int)
 |[],_=>by
  rw[Ob,Lib.indexAny]
  grind
 |c::l,h=>by
  rw[xc,Ea]at h;have hc:List.contains [101,69] c=false:=by
   have: ∀n:Nat,n<256->(digB (UInt8.ofNat n)||UInt8.ofNat n==46)=true->List.contains [101,69] (UInt8.ofNat n)=false:=by decide+kernel
   have:=this c.toNat (Eb c);rw[Td]at this;exact this h.1
  rw[Ra,Lib.indexAny,hc,bL he t l h.2]
  grind
theorem EX{l:Str}(h:l.all digB=true):(l.all fun b=>digB b||b==46)=true:=by
 grind
theorem bv{l:Str}(h: ∀b∈l,b.toNat<128):jg l=true:=by
 unfold jg
 grind
theorem dX{l:Str}(h:jg l=true): ∀b∈l,b.toNat<128:=by
 unfold jg at h
 grind
theorem zCX{D:Str}(a:D.all digB=true)(F:Option Str): ∃f,Lib.cut (D++dotS F) [46]=(D,F.getD [],f):=by
 unfold Lib.cut;rw[TB];cases F with
 |none=> rw[show dotS none=[]from rfl,Va,bE _ a,Ga (by decide)];simp_all
 |some g=> rw[show dotS (some g)=46::g from rfl,dE _ _ a,Ha (by omega)];simp_all
theorem FM {D:Str} {F:Option Str} {E:Int} (w:D.all digB=true) (y:(F.getD []).all digB=true) (R:D.length+(F.getD []).length<=50000) (Q:E<=2000000) (C: -2000000<=E) (s:UInt8) (r:Str)
  (M:((s.toNat:Int)==45)=(r==[45])) (u:short (D++dotS F)=true):
  (zb (cutF (D++dotS F,[46])) fun c=>
 need (Rf c.1.length c.2.1.length)<|
 zK (X:=Str×Int) (
   bif decide (w64 ((3+E) - (c.2.1.length:Int))<0)then
    need (decide (0<=(if w64 (((c.1++c.2.1).length:Int)+w64 ((3+E) - (c.2.1.length:Int)))>0 then w64 (((c.1++c.2.1).length:Int)+w64 ((3+E) - (c.2.1.length:Int)))else 0))&&decide ((if w64 (((c.1++c.2.1).length:Int)+w64 ((3+E) - (c.2.1.length:Int)))>0 then w64 (((c.1++c.2.1).length:Int)+w64 ((3+E) - (c.2.1.length:Int)))else 0)<=((c.1++c.2.1).length:Int)))<|
    some (LX.out (List.take (if w64 (((c.1++c.2.1).length:Int)+w64 ((3+E) - (c.2.1.length:Int)))>0 then w64 (((c.1++c.2.1).length:Int)+w64 ((3+E) - (c.2.1.length:Int)))else 0).toNat (c.1++c.2.1),w64 ((3+E) - (c.2.1.length:Int))))
   else
    some (LX.out (c.1++c.2.1,w64 ((3+E) - (c.2.1.length:Int))))) fun j=>
 need (decide (j.1.length<=maxLen))<|
 Ze (fun(d:Int×Int)=>
   bif decide (d.2<(j.1.length:Int))then
    need (decide (0<=d.2)&&decide (d.2<(j.1.length:Int)))<|
    zb j.1[d.2.toNat]? fun g=>
    some (LO.again (if 1000000000000<w64 (w64 (10*d.1)+w64 (wu8 ((g.toNat:Int) - 48)))then 1000000000000 else w64 (w64 (10*d.1)+w64 (wu8 ((g.toNat:Int) - 48))),w64 (d.2+1)))
   else
    some (LO.out d.1):Int×Int->Option (LO (Int×Int) (Int) _)) (0,0) fun l=>
 Ze (fun(e:Int×Int)=>
   bif bif bif decide (e.1>0)then decide (e.2>0)else false then decide (e.2<1000000000000)else false then
    some (LO.again (w64 (e.1 - 1),if 1000000000000<w64 (10*e.2)then 1000000000000 else w64 (10*e.2)))
   else
    some (LO.out e.2):Int×Int->Option (LO (Int×Int) (Int) _)) (j.2,l) fun h=>
 zK (X:=Int) (
   bif (s.toNat:Int)==45 then
    some (LX.out (w64 (0 - h)))
   else
    some (LX.out h)) fun k=>
 some k)=some (if r==[45]then -((thoV (D++F.getD []) (3+E - ((F.getD []).length:Int)):Nat):Int)else((thoV (D++F.getD []) (3+E - ((F.getD []).length:Int)):Nat):Int)):=by
 obtain⟨f,m⟩:=zCX w F;have O:cutF (D++dotS F,[46])=some (D,F.getD [],f):=by unfold cutF;rw[zB (by exact u)];exact congrArg some m
 have x:maxLen=9223372036854775807:=rfl;have t:Jh=1000000000000:=rfl;simp only[zb,O,Aa];generalize F.getD []=G at*;rw[zB (Jm.2 (by omega))];obtain⟨p,L⟩: ∃p:Int,p=3+E - (G.length:Int):=⟨_,rfl⟩;rw[<-L,Zh (n:=p) (by omega) (by omega)];have S:(D++G).all digB=true:=by rw[List.all_append,w,y];rfl
 have K:(D++G).length<=50000:=by rw[Ka];omega
 generalize D++G=A at*;have H: ∀B:Str,B.all digB=true->B.length<=50000->(need (decide (B.length<=maxLen))<|
 Ze (fun(d:Int×Int)=>
   bif decide (d.2<(B.length:Int))then
    need (decide (0<=d.2)&&decide (d.2<(B.length:Int)))<|
    (B[d.2.toNat]?).bind fun g=>
    some (LO.again (if 1000000000000<w64 (w64 (10*d.1)+w64 (wu8 ((g.toNat:Int) - 48)))then 1000000000000 else w64 (w64 (10*d.1)+w64 (wu8 ((g.toNat:Int) - 48))),w64 (d.2+1)))
   else
    some (LO.out d.1):Int×Int->Option (LO (Int×Int) (Int) _)) (0,0) fun l=>
 Ze (fun(e:Int×Int)=>
   bif bif bif decide (e.1>0)then decide (e.2>0)else false then decide (e.2<1000000000000)else false then
    some (LO.again (w64 (e.1 - 1),if 1000000000000<w64 (10*e.2)then 1000000000000 else w64 (10*e.2)))
   else
    some (LO.out e.2):Int×Int->Option (LO (Int×Int) (Int) _)) (p,l) fun h=>
 zK (X:=Int) (
   bif (s.toNat:Int)==45 then
    some (LX.out (w64 (0 - h)))
   else
    some (LX.out h)) fun k=>
 some k)=some (if r==[45]then -((Bi p.toNat (capF Jh 0 B):Nat):Int)else((Bi p.toNat (capF Jh 0 B):Nat):Int)):=by
  intro B J z;have o:=Wz Jh B 0 (Ub _);rw[zB (Ia (by omega))];rw[qY (uM (cap:=Jh) J (by omega) (by omega) (fun v i U=> ?_) (fun v=> ?_))]
  ·have N:=JO p.toNat _ o;rw[qY (M5 (by omega) (by omega) (by omega) (fun a b=> ?_)),M]
   ·cases T:r==[45]with
    |true=> rw[Ca,zh,Zh (by omega) (by omega),Ha rfl];congr 1;omega
    |false=>simp_all
   ·simp only
  ·simp_all
  ·grind
 unfold thoV;by_cases q:p<0
 ·rw[Ia q,Ca,Ha q];have P:(if w64 ((A.length:Int)+p)>0 then w64 ((A.length:Int)+p)else 0)=((((A.length:Int)+p).toNat:Nat):Int):=by rw[Zh (by omega) (by omega)];split<;>omega
  rw[P,zB (by grind),zh,Db]
  grind
 ·rw[Ya q,Ba,Ga q,zh]
  grind
theorem DU{n:NumP}(h:n.ok=true)(hl:n.txt.length<=40000):ZF n.txt=some n.val:=by
 obtain⟨sg,D,F,X⟩:=n;unfold NumP.ok at h;simp only[Ea]at h;obtain⟨⟨⟨hsg,hD⟩,hFo⟩,hX⟩:=h;have hF:(F.getD []).all digB=true:=by
  cases F with
  |none=>rfl
  |some f=>grind
 have hne:D++dotS F≠[]:=by
  cases F with
  |none=>simp_all
  |some f=>simp[dotS]
 have hpar:((D++dotS F).all fun b=>digB b||b==46)=true:=by
  rw[List.all_append,EX hD];cases F with
  |none=>rfl
  |some f=>rw[show dotS (some f)=46::f from rfl,xc,EX (show f.all digB=true from hF)];rfl
 have hlen:sg.length+(D.length+((dotS F).length+(expT X).length))<=40000:=by
  have:(NumP.txt ⟨sg,D,F,X⟩).length=sg.length+(D.length+((dotS F).length+(expT X).length)):=by unfold NumP.txt;simp only[Ka]
  omega
 have hFl:(F.getD []).length<=(dotS F).length:=by
  cases F with
  |none=>grind
  |some f=>show f.length<=(46::f).length;grind
 have hhead: ∀c r,D++(dotS F++expT X)=c::r->List.contains [43,45] c=false:=by
  rw[<-La];intro c r e;cases hq:D++dotS F with
  |nil=>grind
  |cons d q=>
   rw[hq,Ra]at e;injection e with e1 _;subst e1;rw[hq,xc,Ea,Lc]at hpar;rcases hpar.1 with hd|hd
   ·exact(pg hd).2.2.2.2
   grind
 have hy1: ∃b,geti (NumP.txt ⟨sg,D,F,X⟩) 0=some b/\(((b.toNat:Int)==45)=(sg==[45])):=by
  unfold NumP.txt;show∃b,geti (sg++(D++(dotS F++expT X))) 0=some b/\_;rcases wz hsg with rfl|rfl|rfl
  ·cases hq:D++(dotS F++expT X)with
   |nil=>simp_all
   |cons c r=>
    refine⟨c,rfl,?_⟩;have:=hhead c r hq;refine Fa.2 (fun e=> ?_);have:c=45:=Me.1 (by grind)
    grind
  ·exact⟨43,rfl,rfl⟩
  ·exact⟨45,rfl,rfl⟩
 obtain⟨y1,hg,hyy⟩:=hy1;have t1:Ai (NumP.txt ⟨sg,D,F,X⟩,[43,45])=some (D++(dotS F++expT X)):=by unfold Ai;rw[zB (show(short ([43,45]:Str)&&jg [43,45])=true by decide)];exact congrArg some (EK hsg hhead)
 unfold ZF;simp only[zb,hg,t1,Aa];have hsh:short (D++dotS F)=true:=Ia (by grind);have hasc:jg (D++dotS F)=true:=YL hpar;cases X with
 |none=>
  have t2:Q8 (D++(dotS F++expT none),[101,69])=some (-1):=by show Q8 (D++(dotS F++[]),[101,69])=_;rw[Va];unfold Q8;rw[zB (by simp only[hsh,hasc,Pb,ma];decide)];exact congrArg some (WF _ hpar)
  simp only[t2,Aa,show decide ((-1:Int)>=0)=false from rfl,Ba,zh];rw[show D++(dotS F++expT none)=D++dotS F by show D++(dotS F++[])=_;grind];have:=FM (E:=0) hD hF (by omega) (by omega) (by omega) y1 sg hyy hsh;exact this
 |some ex=>
  obtain⟨e,s,x⟩:=ex;simp only[Ea]at hX;obtain⟨⟨⟨he,hs⟩,hxne⟩,hx⟩:=hX;have he':e=101\/e=69:=by rw[Lc,Jb,Jb]at he;exact he
  have hexl:(expT (some (e,s,x))).length=1+(s.length+x.length):=by show(e::(s++x)).length=_;rw[Ja,Ka];omega
  have hass:D++(dotS F++expT (some (e,s,x)))=(D++dotS F)++e::(s++x):=by rw[<-La];rfl
  have hasx:jg ((D++dotS F)++e::(s++x))=true:=by
   refine bv (fun b hb=> ?_);rcases Kc.1 hb with hb|hb
   ·exact dX hasc b hb
   ·rcases Cb.1 hb with hb|hb
    ·subst hb;rcases he' with rfl|rfl<;>decide
    ·rcases Kc.1 hb with hb|hb
     ·rcases wz hs with rfl|rfl|rfl
      ·cases hb
      ·simp_all
      simp_all
     ·have:=mr (Vb.1 hx b hb);omega
  have hlt:((D++dotS F)++e::(s++x)).length<=40000:=by rw[Ka,Ja,Ka,Ka];omega
  have t2:Q8 (D++(dotS F++expT (some (e,s,x))),[101,69])=some ((D++dotS F).length:Int):=by rw[hass];unfold Q8;show need (short ((D++dotS F)++e::(s++x))&&short [101,69]&&jg ((D++dotS F)++e::(s++x))&&jg [101,69]) _=_;rw[show short ((D++dotS F)++e::(s++x))=true from Ia (by omega),hasx];exact congrArg some (bL he' (s++x) _ hpar)
  have hdrop:List.drop (D++dotS F).length ((D++dotS F)++e::(s++x))=e::(s++x):=List.drop_left;have hdrop1:List.drop ((D++dotS F).length+1) ((D++dotS F)++e::(s++x))=s++x:=by rw[<-Ve,hdrop];rfl
  have hd0:(D++dotS F).length<=40000:=by rw[Ka];omega
  have hw1:w64 (((D++dotS F).length:Int)+1)=(((D++dotS F).length+1:Nat):Int):=by rw[Zh (by omega) (by omega)];omega
  simp only[t2,Aa];rw[Ia (show(((D++dotS F).length:Nat):Int)>=0 by omega),Ca,hw1,hass];have hlt2:(D++dotS F).length+1<=((D++dotS F)++e::(s++x)).length:=by rw[Ka (bs:=e::(s++x)),Ja];omega
  rw[zB (by grind),Db,hdrop1];have hxh: ∀c r,x=c::r->List.contains [43,45] c=false:=by intro c r e;subst e;rw[xc,Ea]at hx;exact(pg hx.1).2.2.2.2
  have t4:Ai (s++x,[43,45])=some x:=by unfold Ai;rw[zB (show(short ([43,45]:Str)&&jg [43,45])=true by decide)];exact congrArg some (EK hs hxh)
  have hxl:x.length<=40000:=by omega
  have hml:maxLen=9223372036854775807:=rfl;simp only[t4,Aa];rw[zB (Ia (by omega))];have hcap:=Wz 1048576 x 0 (Ub _);rw[qY (uM (cap:=1048576) hx (by omega) (by omega) (fun v i hi=> ?_) (fun v=> ?_))]
  ·have hg8: ∃y8,geti ((D++dotS F)++e::(s++x)) (((D++dotS F).length+1:Nat):Int)=some y8/\(((y8.toNat:Int)==45)=(s==[45])):=by
    have hgg: ∀(b:UInt8) (r:Str),s++x=b::r->geti ((D++dotS F)++e::(s++x)) (((D++dotS F).length+1:Nat):Int)=some b:=by
     intro b r e1;unfold geti;have:((D++dotS F)++e::(s++x))[(D++dotS F).length+1]? =some b:=by rw[List.getElem?_append_right (by omega),show(D++dotS F).length+1 - (D++dotS F).length=1 by omega,ve,e1];rfl
     rw[Db,this,Ia (by omega)];rfl
    rcases wz hs with rfl|rfl|rfl
    ·cases hxx:x with
     |nil=>grind
     |cons c r=>
      refine⟨c,by grind,?_⟩;have:=hxh c r hxx;refine Fa.2 (fun e=> ?_);have h45:c=45:=Me.1 (by grind)
      grind
    ·grind
    ·grind
   obtain⟨y8,h8,h8'⟩:=hg8;simp only[h8,Aa];rw[h8'];have hj:(bif s==[45]then(some (LX.out ((D++dotS F)++e::(s++x),3,w64 (0 - ((capF 1048576 0 x:Nat):Int)))):Option (LX (Str×Int×Int) (LX (Str×Int) Int)))else some (LX.out ((D++dotS F)++e::(s++x),3,((capF 1048576 0 x:Nat):Int))))
     =some (LX.out ((D++dotS F)++e::(s++x),3,expV (some (e,s,x)))):=by
    unfold expV;simp only;cases s==[45]with
    |true=>rw[Ca,Ha rfl,Zh (by omega) (by omega)];simp
    |false=>grind
   have hEb:expV (some (e,s,x))<=1048576/\ -1048576<=expV (some (e,s,x)):=by unfold expV;simp only;split<;>omega
   refine(congrArg (fun o=>zK (zK o _) _) hj).trans ?_;simp only[zh];rw[show decide ((((D++dotS F).length:Nat):Int)<=((((D++dotS F)++e::(s++x)).length:Nat):Int))=true from Ia (by omega),zB (by rfl)];simp only[zh,Db,List.take_left];rw[Zh (by omega) (by omega)];exact FM (E:=expV (some (e,s,x))) hD hF (by omega) (by omega) (by omega) y1 sg hyy hsh
  ·simp_all
  ·grind
theorem Mm {S X R:Type} {step:S->Option (LO S X R)} {k:X->Option R} (Inv:S->Prop) (b:S->Nat) (y:R)
  (h: ∀s,Inv s->(∃s',step s=some (.again s')/\Inv s'/\b s'<b s)\/(∃x,step s=some (.out x)/\k x=some y)\/step s=some (.ret y)) {s:S} (d:Inv s):Ze step s k=some y:=by
 have c: ∀(m:Nat) (s:S),b s<m->Inv s-> ∃r:LX X R,qI step m s=some r/\r.go k=some y:=by
  intro m
  induction m with
  |zero=>intro s h;omega
  |succ m i=>
   intro s f d;simp only[qI];rcases h s d with⟨s',a,e,g⟩|⟨x,a,e⟩|a
   ·grind
   ·simp_all
   simp_all
 obtain⟨r,a,e⟩:=c (b s+1) s (by omega) d;rw[Qt (ni a)];exact e
theorem BP(p:UInt8->Bool): ∀l:Str,past p l=l.dropWhile p
 |[]=>rfl
 |c::r=>by
  rw[past,Nc];cases h:p c with
  |true=>exact BP p r
  |false=>rfl
theorem Rv(p:UInt8->Bool)(l:Str):l.takeWhile p++past p l=l:=by rw[BP,List.takeWhile_append_dropWhile]
theorem Kz(p:UInt8->Bool): ∀l:Str,(l.takeWhile p).all p=true
 |[]=>rfl
 |c::r=>by simp_all
def sgOf(l:Str):Str:=if Xf (atS l 0)then [atS l 0]else []
theorem sJ(l:Str):sgOf l++unsign l=l:=by
 unfold sgOf unsign;cases h:Xf (atS l 0)with
 |false=>rfl
 |true=>
  rw[Ha rfl,Ha rfl];cases l with
  |nil=>exact absurd h (by decide)
  |cons c r=>rfl
theorem VV(l:Str):sgB (sgOf l)=true:=by
 unfold sgOf;cases h:Xf (atS l 0)with
 |false=>rfl
 |true=> rw[Ha rfl];unfold Xf at h;rw[Lc,Jb,Jb]at h;rcases h with h|h<;>rw[h]<;>rfl
def dotP(q:Str):Option Str:=if atS q 0==46&&digB (atS q 1)then some ((q.drop 1).takeWhile digB)else none
def expP(q:Str):Option (UInt8×Str×Str):=
 if(atS q 0==101||atS q 0==69)&&digB (atS (unsign (q.drop 1)) 0)then some (atS q 0,sgOf (q.drop 1),(unsign (q.drop 1)).takeWhile digB)else none
def numP(l:Str):NumP:=⟨sgOf l,(unsign l).takeWhile digB,dotP (past digB (unsign l)),expP (z8 (past digB (unsign l))).1⟩
theorem vY(q:Str):dotS (dotP q)++(z8 q).1=q/\(z8 q).2=(dotP q).isNone:=by
 unfold dotP z8;cases h:atS q 0==46&&digB (atS q 1)with
 |false=>exact⟨rfl,rfl⟩
 |true=>
  rw[Ha rfl,Ha rfl];cases q with
  |nil=>exact absurd h (by decide)
  |cons c r=> rw[Ea,Jb]at h;refine⟨?_,rfl⟩;show(46::List.takeWhile digB r)++past digB r=c::r;rw[Ra,Rv,show c=46 from h.1]
theorem zAl(q:Str):expT (expP q)++(match expS q with|some r=>r|none=>q)=q:=by
 unfold expP expS;cases a:atS q 0==101||atS q 0==69 with
 |false=>rfl
 |true=>
  cases b:digB (atS (unsign (q.drop 1)) 0)with
  |false=>rfl
  |true=>
   simp only[Bool.and_self,Ce];cases q with
   |nil=>exact absurd a (by decide)
   |cons c r=> show(c::(sgOf r++List.takeWhile digB (unsign r)))++past digB (unsign r)=c::r;rw[Ra,La,Rv,sJ]
theorem sG(l:Str):(numP l).txt++(zP l).1=l:=by
 have c:=(vY (past digB (unsign l))).1;have b:=zAl (z8 (past digB (unsign l))).1;have a:(zP l).1=(match expS (z8 (past digB (unsign l))).1 with|some r=>r|none=>(z8 (past digB (unsign l))).1):=by unfold zP;simp only;cases expS (z8 (past digB (unsign l))).1<;>rfl
 rw[a];show(sgOf l++(List.takeWhile digB (unsign l)++(dotS (dotP (past digB (unsign l)))++expT (expP (z8 (past digB (unsign l))).1))))++_=l;rw[La,La,La,b,c,Rv,sJ]
theorem iD{p:UInt8->Bool}{q:Str}(h:p (atS q 0)=true)(a:p 0=false):(q.takeWhile p).isEmpty=false:=by
 cases q with
 |nil=>rw[show atS [] 0=0 from rfl,a]at h;cases h
 |cons c r=>rw[List.takeWhile_cons,Ha (show p c=true from h)];rfl
theorem XD{l:Str}(h:nbS l=true):(numP l).ok=true:=by
 unfold NumP.ok numP;simp only[VV,Kz,ma,Ea];refine⟨?_,?_⟩
 ·unfold dotP;cases a:atS (past digB (unsign l)) 0==46&&digB (atS (past digB (unsign l)) 1)with
  |true=> rw[Ha rfl];simp only[Kz,Pb];rw[Ea]at a;rw[iD (p:=digB) (by rw[QW];exact a.2) (by decide)];rfl
  |false=>
   rw[Ga (by decide)];simp only;cases b:digB (atS (unsign l) 0)with
   |true=>rw[iD b (by decide)];rfl
   |false=>
    exfalso;have f:past digB (unsign l)=unsign l:=by
     cases e:unsign l with
     |nil=>rfl
     |cons c r=>rw[e]at b;rw[past,Ga (by rw[show digB c=false from b];decide)]
    rw[f]at a;unfold nbS undot at h;cases d:atS (unsign l) 0==46 with
    |false=>grind
    |true=>
     rw[d,Ha rfl,QW]at h
     grind
 ·unfold expP;cases a:(atS (z8 (past digB (unsign l))).1 0==101||atS (z8 (past digB (unsign l))).1 0==69)&&digB (atS (unsign ((z8 (past digB (unsign l))).1.drop 1)) 0)with
  |false=>rfl
  |true=> rw[Ha rfl];rw[Ea]at a;simp only[a.1,VV,Kz,Pb,ma];rw[iD a.2 (by decide)];rfl
theorem zFZ{n:NumP}(h:n.ok=true):n.txt≠[]:=by
 obtain⟨c,D,F,X⟩:=n;unfold NumP.ok at h;simp only[Ea]at h;intro e;unfold NumP.txt at e;simp only[List.append_eq_nil_iff]at e;obtain⟨g,b,a,d⟩:=e;subst b;cases F with
 |none=>grind
 |some f=>cases a
theorem oQ{c:UInt8}{r:Str}(h:nbS (c::r)=true):(zP (c::r)).1<:+r:=by
 have e:=sG (c::r);have b:=zFZ (XD h);cases a:(numP (c::r)).txt with
 |nil=>grind
 |cons d t=>
  grind
def zI(l:Str):ze×Str:=
 if nmS (zP l).1 then(⟨12,[],(numP l).val,(zq (zP l).1).1,(zP l).2⟩,(zq (zP l).1).2)
 else if atS (zP l).1 0==37 then(⟨11,[],(numP l).val,[],false⟩,(zP l).1.drop 1)
 else(⟨10,[],(numP l).val,[],(zP l).2⟩,(zP l).1)
theorem zCY{s l t e:Str}(a:l<:+s)(h:t++e=l):List.drop (beh s l) (List.take (beh s e) s)=t:=by
 obtain⟨p,rfl⟩:=a;subst h;have c:beh (p++(t++e)) (t++e)=p.length:=by unfold beh;simp only[Ka];omega
 have b:beh (p++(t++e)) e=(p++t).length:=by unfold beh;simp only[Ka];omega
 grind
theorem zA3{s l:Str}(hs:s.length<=40000)(hl:l<:+s)(h:nbS l=true):Zj (sr s l)=some ((zI l).1,sr s (zI l).2):=by
 have hsb:s.length<=big:=by unfold big;omega
 have he:=M0 hl;have hle:=hl.length_le;have hsp:=sG l;have hel:(zP l).1.length<=l.length:=by have:=congrArg List.length hsp;rw[Ka]at this;omega
 have htl:(numP l).txt.length<=40000:=by have:=congrArg List.length hsp;rw[Ka]at this;omega
 unfold Zj;rw[zAm hsb hl];simp only[zb,Aa];have h1:(beh s l:Int)<=(beh s (zP l).1:Int):=by unfold beh;omega
 have h2:=Dk s (zP l).1;rw[zB (by simp_all),Db,Db,zCY hl hsp,DU (XD h) htl];simp only[Aa];rw[show zC (0,sr s (zP l).1)=some (nmS (zP l).1)from aJ (k:=0) hsb he (by omega)];simp only[Aa];unfold zI;cases hn:nmS (zP l).1 with
 |true=> rw[Ca,tC hsb he,Ha rfl];rfl
 |false=>
  rw[Ba,Xg hsb he,Ga (by decide)];simp only[Aa,zGi];cases h37:atS (zP l).1 0==37 with
  |true=> rw[Ca,zh,Ju hsb he (by grind),Ha rfl]
  |false=>simp_all
theorem PE(l:Str):(zq l).1.length<=4*l.length:=by
 match l with
 |[]=>rw[qV];grind
 |c::r=>
  rw[zR];split
  ·have:=PE r
   grind
  ·split
   ·have b:=Zc r;have a:=Jw r;have:=PE (zt r).2
    grind
   grind
termination_by l.length
decreasing_by
 all_goals grind
def qQ(l:Str):ze×Str:=
 if atS (zq l).2 0==40 then
  (if(lowS (zq l).1==[117,114,108])&& !(atS (past spB ((zq l).2.drop 1)) 0==34||atS (past spB ((zq l).2.drop 1)) 0==39)
  then(Ij (urlS (past spB ((zq l).2.drop 1))).1,(urlS (past spB ((zq l).2.drop 1))).2)
  else(⟨2,(zq l).1,0,[],false⟩,(zq l).2.drop 1))
 else(⟨1,(zq l).1,0,[],false⟩,(zq l).2)
theorem zDm{s q:Str}(m:s.length<=40000)(g:q<:+s):Zn (sr s q)=some ((qQ q).1,sr s (qQ q).2):=by
 have a:s.length<=big:=by unfold big;omega
 have e:(zq q).2<:+s:=(Vk q).trans g;have l:=PE q;have i:=g.length_le;have f:(zq q).1.length<=big:=by unfold big;omega
 unfold Zn;rw[tC a g];simp only[zb,Aa,Xg a e];unfold bne qQ;rw[zGj];cases d:atS (zq q).2 0==40 with
 |false=>rfl
 |true=>
  have c:atS (zq q).2 0≠0:=by rw[Jb.1 d];decide
  rw[ja,Ba,Ha rfl,Ju a e c,OB f (by decide),wu];simp only[Aa];have b:=Sk e 1;cases n:lowS (zq q).1==[117,114,108]with
  |false=>rfl
  |true=>
   rw[Ca,Ky a b,ma];have k:=Po spB b;simp only[Aa,Xg a k];rw[DV,dV];cases j:atS (past spB ((zq q).2.drop 1)) 0==34 with
   |true=>rfl
   |false=>
    cases h:atS (past spB ((zq q).2.drop 1)) 0==39 with
    |true=>rfl
    |false=> rw[urlR a b];rfl
theorem zAT{c:UInt8}{r:Str}(h:letB c=true\/escS (c::r)=true):(zq (c::r)).2<:+r:=by
 rw[zR];split
 ·exact Vk r
 ·rename_i a;rw[Ha (h.resolve_left a)];exact(Vk _).trans (qi r)
theorem MN{c:UInt8}{r:Str}(h:nmS (c::r)=true):letB c=true\/escS (c::r)=true:=by
 unfold nmS at h;cases a:atS (c::r) 0==45 with
 |true=> left;rw[show c=45 from Jb.1 a];decide
 |false=>
  rw[a,Ga (by decide),Lc]at h;rcases h with h|h
  ·left;unfold letB;rw[show fstB c=true from h];rfl
  ·exact .inr h
theorem EZ{c:UInt8}{r:Str}(h:nmS (c::r)=true):(qQ (c::r)).2<:+r:=by
 have b:=zAT (MN h);have a:(zq (c::r)).2.drop 1<:+r:=(Ke 1 _).trans b;unfold qQ;split
 ·split
  ·exact(lq _).trans ((Im spB _).trans a)
  ·exact a
 ·exact b
def nxU(c:UInt8)(r:Str):ze×Str:=
  if nmS (c::r)then qQ (c::r)
  else if Gg c==0 then(⟨9,[c],0,[],false⟩,r)
  else(Jg (Gg c),r)
def nxT(c:UInt8)(r:Str):ze×Str:=
  if nbS (c::r)then zI (c::r)
  else if [45,45,62].isPrefixOf (c::r)then(Jg 15,(c::r).drop 3)
  else if [60,33,45,45].isPrefixOf (c::r)then(Jg 14,(c::r).drop 4)
  else if c==64&&nmS r then(⟨3,(zq r).1,0,[],false⟩,(zq r).2)
  else nxU c r
def Zo:Str->ze×Str
 |[]=>(⟨0,[],0,[],false⟩,[])
 |c::r=>
  if spB c then(Jg 13,past spB (c::r))
  else if c==34||c==39 then(Jj (Za c r).1,(Za c r).2)
  else if c==35&&(letB (atS r 0)||escS r)then(⟨4,(zq r).1,0,[],nmS r⟩,(zq r).2)
  else nxT c r
theorem wo(c:UInt8)(r:Str):Zo (c::r)=
  if spB c then(Jg 13,past spB (c::r))
  else if c==34||c==39 then(Jj (Za c r).1,(Za c r).2)
  else if c==35&&(letB (atS r 0)||escS r)then(⟨4,(zq r).1,0,[],nmS r⟩,(zq r).2)
  else if nbS (c::r)then zI (c::r)
  else if [45,45,62].isPrefixOf (c::r)then(Jg 15,(c::r).drop 3)
  else if [60,33,45,45].isPrefixOf (c::r)then(Jg 14,(c::r).drop 4)
  else if c==64&&nmS r then(⟨3,(zq r).1,0,[],false⟩,(zq r).2)
  else if nmS (c::r)then qQ (c::r)
  else if Gg c==0 then(⟨9,[c],0,[],false⟩,r)
  else(Jg (Gg c),r):=rfl
theorem E5{c:UInt8}{r:Str}(h:nbS (c::r)=true):(zI (c::r)).2<:+r:=by
 have a:=oQ h;unfold zI;split
 ·exact(Vk _).trans a
 ·split
  ·exact(Ke 1 _).trans a
  ·exact a
theorem mi(c:UInt8)(r:Str):(Zo (c::r)).2<:+r:=by
 rw[wo];split
 ·rename_i h;show past spB (c::r)<:+r;rw[past,Ha h];exact Im spB r
 ·split
  ·exact Ns c r
  ·split
   ·exact Vk r
   ·split
    ·rename_i h;exact E5 h
    ·split
     ·exact Ke 2 r
     ·split
      ·exact Ke 3 r
      ·split
       ·exact Vk r
       ·split
        ·rename_i h;exact EZ h
        grind
theorem zAO(c:UInt8):decide (Lib.indexByte [58,59,44,91,93,40,41,123,125] c>=0)= !(Gg c==0)/\(Gg c≠0->wu8 (16+wu8 (Lib.indexByte [58,59,44,91,93,40,41,123,125] c))=Gg c):=by
 have: ∀n:Nat,n<256->decide (Lib.indexByte [58,59,44,91,93,40,41,123,125] (UInt8.ofNat n)>=0)= !(Gg (UInt8.ofNat n)==0)/\(Gg (UInt8.ofNat n)≠0->wu8 (16+wu8 (Lib.indexByte [58,59,44,91,93,40,41,123,125] (UInt8.ofNat n)))=Gg (UInt8.ofNat n)):=by decide+kernel
 have:=this c.toNat (Eb c);simp_all
theorem yl{m q:Str}(h:m.isPrefixOf q=true):m.length<=q.length:=by
 grind
def Au(s:Str)(X:ze×Str):Option (ze×za):=some (X.1,sr s X.2)
theorem zGc{s q:Str}{c:UInt8}{r:Str}(y:s.length<=40000)(b:q<:+s)(D:q=c::r):ZO (sr s q)=some ((Zo q).1,sr s (Zo q).2):=by
 subst D;have a:s.length<=big:=by unfold big;omega
 have A:=Ri b;have J:(c::r).drop 1=r:=rfl;rw[show Zo (c::r)=if spB c then(Jg 13,past spB (c::r))else if c==34||c==39 then(Jj (Za c r).1,(Za c r).2)else if c==35&&(letB (atS r 0)||escS r)then(⟨4,(zq r).1,0,[],nmS r⟩,(zq r).2)else nxT c r from rfl];unfold ZO;simp only[zb,Xg a b,Aa];rw[zB gV];simp only[Dv,Aa,DV,dV,zGh,zGk,oD b,Qr,show atS (c::r) 0=c from rfl,nJ];cases Q:spB c with
 |true=> rw[Ca,Ky a b,Ha rfl];rfl
 |false=>
  rw[Ba,Ga (by decide)];cases H:c==34||c==39 with
  |true=> rw[Ca,zD1 a b,Ha rfl];rfl
  |false=>
   rw[Ba,Ga (by decide)];have p:zu (1,sr s (c::r))=some (escS r):=TA (k:=1) a b (by omega);have g:zC (1,sr s (c::r))=some (nmS r):=aJ (k:=1) a b (by omega);have l:zC (0,sr s (c::r))=some (nmS (c::r)):=aJ (k:=0) a b (by omega);have u:(⟨s,w64 ((beh s (c::r):Int)+1)⟩:za)=sr s r:=by rw[Gh a b]
   rw[u];have o:((Zw (sr s (c::r))).bind fun w=>
    bif w then
     (Zj (sr s (c::r))).bind fun j=>
     some (j.1,j.2)
    else
     (some ([45,45,62].isPrefixOf (c::r))).bind fun v=>
     bif v then
      some ((⟨15,[],0,[],false⟩:ze),(⟨s,w64 ((beh s (c::r):Int)+3)⟩:za))
     else
      (some ([60,33,45,45].isPrefixOf (c::r))).bind fun t=>
      bif t then
       some ((⟨14,[],0,[],false⟩:ze),(⟨s,w64 ((beh s (c::r):Int)+4)⟩:za))
      else
       (zo (c==64) (zC (1,sr s (c::r))) (default:Bool)).bind fun h=>
       bif bif c==64 then h else false then
        (zT (sr s r)).bind fun f=>
        some ((⟨3,f.1,0,[],false⟩:ze),f.2)
       else
        (zC (0,sr s (c::r))).bind fun i=>
        bif i then
         (Zn (sr s (c::r))).bind fun d=>
         some (d.1,d.2)
        else
         (strings_IndexByte ([58,59,44,91,93,40,41,123,125],wu8 (pk (c::r) 0))).bind fun e=>
         bif decide (e>=0)then
          some ((⟨wu8 (16+wu8 e),[],0,[],false⟩:ze),sr s r)
         else
          need (decide (1<=((c::r).length:Int)))<|
          some ((⟨9,List.take 1 (c::r),0,[],false⟩:ze),sr s r))=
    Au s (nxT c r):=by
    unfold nxT;simp only[zDH a b,Aa];cases x:nbS (c::r)with
    |true=> rw[Ca,zA3 y b x,Ha rfl];rfl
    |false=>
     rw[Ba,Ga (by decide)];cases O:[45,45,62].isPrefixOf (c::r)with
     |true=> rw[Ca,Ha rfl,show(3:Int)=((3:Nat):Int)from rfl,DD (n:=3) a b (yl O)];rfl
     |false=>
      rw[Ba,Ga (by decide)];cases L:[60,33,45,45].isPrefixOf (c::r)with
      |true=> rw[Ca,Ha rfl,show(4:Int)=((4:Nat):Int)from rfl,DD (n:=4) a b (yl L)];rfl
      |false=>
       rw[Ba,Ga (by decide),g,l];have m: ∀z:Bool,((some z).bind fun h=>bif h then
        (zT (sr s r)).bind fun f=>
        some ((⟨3,f.1,0,[],false⟩:ze),f.2)
       else
        (some (nmS (c::r))).bind fun i=>
        bif i then
         (Zn (sr s (c::r))).bind fun d=>
         some (d.1,d.2)
        else
         (strings_IndexByte ([58,59,44,91,93,40,41,123,125],wu8 (pk (c::r) 0))).bind fun e=>
         bif decide (e>=0)then
          some ((⟨wu8 (16+wu8 e),[],0,[],false⟩:ze),sr s r)
         else
          need (decide (1<=((c::r).length:Int)))<|
          some ((⟨9,List.take 1 (c::r),0,[],false⟩:ze),sr s r))=Au s (if z then(⟨3,(zq r).1,0,[],false⟩,(zq r).2)else nxU c r):=by
        intro z;unfold nxU;simp only[Aa];cases z with
        |true=> rw[Ca,tC a A];rfl
        |false=>
         rw[Ba,Ga (by decide)];cases G:nmS (c::r)with
         |true=>rw[Ca,zDm y b];rfl
         |false=>
          rw[Ba,Ga (by decide),Bo,Lt];have R:(wu8 (c.toNat:Int)).toNat.toUInt8=c:=by rw[ou,Gf (Eb c),Db];exact Td
          rw[R];obtain⟨K,S⟩:=zAO c;simp only[Aa,K];cases M:Gg c==0 with
          |true=> rw[ja,Ba,zB (Ia (by grind))];rfl
          |false=> rw[Ua,Ca,S (Fa.1 M)];rfl
       cases N:c==64 with
       |false=> simp_all
       |true=> have:=m (nmS r);simp_all
   cases C:c==35 with
   |false=> simp only[Zb,Aa,Ba,Rc,Nb];exact o
   |true=>
    simp only[zx,Aa,Ca,Pb,ma,Uu a b,JM];have E:atS (c::r) 1=atS r 0:=rfl;rw[E,p];have F:(bif letB (atS r 0)||escS r then(zC (1,sr s (c::r))).bind fun P=>(zT (sr s r)).bind fun B=>some ((⟨4,B.1,0,[],P⟩:ze),B.2)else Au s (nxT c r))=Au s (if(letB (atS r 0)||escS r)then(⟨4,(zq r).1,0,[],nmS r⟩,(zq r).2)else nxT c r):=by
     cases letB (atS r 0)||escS r with
     |false=>rfl
     |true=>rw[Ca,g,tC a A];rfl
    show _=Au s (if(letB (atS r 0)||escS r)then(⟨4,(zq r).1,0,[],nmS r⟩,(zq r).2)else nxT c r);rw[<-F];cases T:letB (atS r 0)with
    |true=>rfl
    |false=> simp_all
def clsS:Str->Option Str
 |[]=>none
 |c::r=>if c==42&&atS r 0==47 then some (r.drop 1)else clsS r
theorem Jk: ∀(l:Str) {r:Str},clsS l=some r->r<:+l/\r.length+2<=l.length
 |[],r,h=>by cases h
 |c::t,r,h=>by
  unfold clsS at h;split at h
  ·rename_i a;rw[Ea,Jb,Jb]at a;injection h with h;subst h;have:=Ku (l:=t) (n:=0) (by rw[a.2];decide);exact⟨(Ke 1 t).trans (Wd c t),by grind⟩
  ·obtain⟨d,b⟩:=Jk t h
   grind
theorem pre2(b:UInt8)(l:Str):([42,47]:Str).isPrefixOf (b::l)=(b==42&&atS l 0==47):=by
 have c:((42:UInt8)==b)=(b==42):=by rw[Bool.eq_iff_iff,Jb,Jb];exact eq_comm
 rw[List.isPrefixOf,c];cases l with
 |nil=>rfl
 |cons d t=>
  have a:((47:UInt8)==d)=(d==47):=by rw[Bool.eq_iff_iff,Jb,Jb];exact eq_comm
  rw[List.isPrefixOf,a,List.isPrefixOf];rw[Pb];rfl
theorem pO: ∀l:Str,Lib.index l [42,47]=match clsS l with|none=> -1|some r=>((l.length - r.length - 2:Nat):Int)
 |[]=>rfl
 |b::l=>by
  rw[Lib.index,pre2,clsS];cases h:b==42&&atS l 0==47 with
  |true=>
   grind
  |false=>
   simp only[Rb,Pd];rw[pO l];cases a:clsS l with
   |none=>rfl
   |some r=>
    have:=(Jk l a).2
    grind
def cmtS(l:Str):Str:=
 if([47,42]:Str).isPrefixOf l then
  (match h:clsS (l.drop 2)with
  |some q=>cmtS q
  |none=>[])
 else l
termination_by l.length
decreasing_by
 have:=(Jk _ h).2
 grind
theorem Pi(l:Str):cmtS l=if([47,42]:Str).isPrefixOf l then(match clsS (l.drop 2)with|some q=>cmtS q|none=>[])else l:=by
 rw[cmtS]
 grind
theorem ZI{l:Str}(h:([47,42]:Str).isPrefixOf l=false):cmtS l=l:=by rw[Pi,h];rfl
theorem Mj(l:Str):cmtS l<:+l:=by
 rw[Pi];split
 ·split
  ·rename_i q b;have a:=Jk _ b;have c:=a.2;rw[Yb]at c;exact(Mj q).trans (a.1.trans (Ke 2 l))
  grind
 grind
termination_by l.length
decreasing_by
 grind
theorem Jo(l:Str):cmtS (cmtS l)=cmtS l:=by
 rw[Pi l];split
 ·split
  ·rename_i q a;have b:=(Jk _ a).2;rw[Yb]at b;exact Jo q
  ·exact ZI rfl
 ·rename_i h;exact ZI (Bool.eq_false_iff.2 h)
termination_by l.length
decreasing_by
 grind
theorem Dr(l:Str):([47,42]:Str).isPrefixOf (cmtS l)=false:=by
 have h:=Jo l;cases b:([47,42]:Str).isPrefixOf (cmtS l)with
 |false=>rfl
 |true=>
  exfalso;rw[Pi (cmtS l),b,Ha rfl]at h;have c:=yl b;rw[show([47,42]:Str).length=2 from rfl]at c;cases a:clsS ((cmtS l).drop 2)with
  |none=>grind
  |some q=>
   rw[a]at h;have d:=(Jk _ a).2;have e:=(Mj q).length_le
   grind
theorem dP{s q:Str}(hs:s.length<=40000)(hq:q<:+s):Zf (sr s q)=some (sr s (cmtS q)):=by
 have hsb:s.length<=big:=by unfold big;omega
 unfold Zf;refine Mm (fun z=> ∃p,z=sr s p/\p<:+s/\cmtS p=cmtS q) (fun z=>s.length - z.at_.toNat) _ ?_ ⟨q,rfl,hq,rfl⟩;rintro _ ⟨p,rfl,hp,he⟩;rw[zB gV];simp only[zb,oD hp,Qr,Aa];rw[Pi p]at he;cases hpre:([47,42]:Str).isPrefixOf p with
 |false=>
  grind
 |true=>
  rw[hpre,Ha rfl]at he;have hl:=yl hpre;rw[show([47,42]:Str).length=2 from rfl]at hl;have hle:=hp.length_le;have hb:=tL hp hl;have hb2:=Dk s (p.drop 2);rw[Ca];have hw:w64 ((beh s p:Int)+2)=((beh s (p.drop 2):Nat):Int):=by rw[<-hb,Zh (by omega) (by omega)];omega
  rw[hw,zB (by grind),oD (Sk hp 2)];have hlen:(p.drop 2).length<=40000:=by rw[Yb];omega
  have hi:Kj (p.drop 2,[42,47])=some (Lib.index (p.drop 2) [42,47]):=by unfold Kj;rw[zB (by exact Ia (show(p.drop 2).length<4294967281 by omega))]
  rw[hi,pO];simp only[Aa];cases hc:clsS (p.drop 2)with
  |none=>
   rw[hc]at he;refine .inr (.inr ?_);rw[<-he];show _=some (LO.ret (⟨s,(beh s []:Int)⟩:za));unfold beh
   grind
  |some r=>
   rw[hc]at he;obtain⟨h1,h2⟩:=Jk _ hc;have hrs:r<:+s:=h1.trans (Sk hp 2);rw[Yb]at h2 hlen;simp only;rw[Ya (by omega),Ba];refine .inl ⟨sr s r,?_,⟨r,rfl,hrs,he⟩,?_⟩
   ·rw[Yb,Zh (n:=_+4) (by omega) (by omega)];have:(beh s p:Int)+(((p.length - 2 - r.length - 2:Nat):Int)+4)=((beh s r:Nat):Int):=by unfold beh;omega
    rw[this,Zh (by grind) (by grind)]
   ·show s.length - beh s r<s.length - beh s p;unfold beh;omega
def Zy(l:Str):List ze:=
 match h:cmtS l with
 |[]=>[]
 |c::r=>(Zo (c::r)).1::Zy (Zo (c::r)).2
termination_by l.length
decreasing_by
 have b:=(mi c r).length_le;have a:=(Mj l).length_le
 grind
theorem Qy{l:Str}(h:cmtS l=[]):Zy l=[]:=by
 rw[Zy]
 grind
theorem qL{l:Str}{c:UInt8}{r:Str}(h:cmtS l=c::r):Zy l=(Zo (c::r)).1::Zy (Zo (c::r)).2:=by
 rw[Zy]
 grind
theorem rz(l:Str):Zy (cmtS l)=Zy l:=by
 cases h:cmtS l with
 |nil=>rw[Qy h];exact Qy (ZI rfl)
 |cons c r=> rw[qL h];exact qL (by rw[<-h,Jo])
theorem xG: ∀l:Str,(Proofs.Cl.cleanS l).length<=3*l.length:=by
 have: ∀(n:Nat) (l:Str),l.length<=n->(Proofs.Cl.cleanS l).length<=3*l.length:=by
  intro n
  induction n with
  |zero=>
   intro l h;cases l with
   |nil=>rw[Proofs.Cl.cleanS];grind
   |cons c r=>grind
  |succ n ih=>
   intro l h;rw[Proofs.Cl.cleanS.eq_def]
   grind
 exact fun l=>this l.length l (Xa _)
def qH(w:Str):List ze×Int:=if 4000<w.length then([],28)else if 1500<(Zy (Proofs.Cl.cleanS w)).length then([],4)else(Zy (Proofs.Cl.cleanS w),0)
theorem zCE{n:Nat}(h:n<=100000):zH n 1 56=true:=by unfold zH;grind
theorem MP(w:Str):Qx w=some (qH w):=by
 unfold Qx qH;by_cases b:4000<w.length
 ·have e:Lj w=some ([],28):=by unfold Lj;rw[Ha b]
  unfold Pp
  grind
 ·have e:Lj w=some (Proofs.Cl.cleanS w,0):=by unfold Lj;rw[Ga b]
  rw[Ga b];have x:=xG w;generalize Proofs.Cl.cleanS w=s at e x;have o:s.length<=40000:=by omega
  unfold Pp;rw[e];simp only[zb,Aa];rw[show((0:Int) != 0)=false from rfl,Ba,sr_0,dP o (Te s)];simp only[Aa];have f: ∃z:Int×List ze,Ze (fun(d:Int×List ze×za)=>
    bif decide (d.2.2.at_<(s.length:Int))then
     bif decide (w64 (d.1+1)>1500)then
      some (LO.ret (4,d.2.1))
     else
      (ZO d.2.2).bind fun t=>
      (Qm ((t.1,d.2.2.at_,t.2.at_),d.2.1)).bind fun y=>
      (Zf t.2).bind fun A=>
      some (LO.again (w64 (d.1+1),y,A))
    else
     some (LO.out (d.2.1,d.2.2)):Int×List ze×za->Option (LO (Int×List ze×za) (List ze×za) (Int×List ze))) (0,[],sr s (cmtS s)) (fun C=>some (0,C.1))=some z/\
    z=(if 1500<(Zy s).length then(4,(Zy s).take 1500)else(0,Zy s)):=by
   refine⟨_,Mm (fun z=> ∃(a:List ze) (q:Str),z=((a.length:Int),a,sr s q)/\q<:+s/\cmtS q=q/\a.length<=1500/\a++Zy q=Zy s) (fun z=>s.length - z.2.2.at_.toNat) (if 1500<(Zy s).length then(4,(Zy s).take 1500)else(0,Zy s)) ?_ ⟨[],cmtS s,rfl,Mj s,Jo s,by simp,by rw[Ob,rz]⟩,rfl⟩;rintro _ ⟨a,q,rfl,m,n,G,i⟩;simp only;have l:=m.length_le;cases q with
   |nil=>
    have B:((beh s []:Nat):Int)=(s.length:Int):=by unfold beh;rw[Sb];rfl
    have k:decide (((beh s []:Nat):Int)<(s.length:Int))=false:=Ya (by omega);simp only[k,Ba];rw[Qy (ZI rfl),Va]at i
    grind
   |cons c r=>
    rw[Ja]at l;have B:beh s (c::r)<s.length:=by unfold beh;rw[Ja];omega
    have k:decide (((beh s (c::r):Nat):Int)<(s.length:Int))=true:=Ia (by omega);have v:w64 ((a.length:Int)+1)=(a.length:Int)+1:=Zh (by omega) (by omega);simp only[k,Ca,v];rw[qL n]at i;have g:=congrArg List.length i;rw[Ka,Ja]at g;by_cases j:a.length=1500
    ·grind
    ·have p:decide ((a.length:Int)+1>1500)=false:=Ya (by omega);simp only[p,Ba,zGc o m rfl,Aa];unfold Qm;rw[zB (zCE (by simp only;omega))];have h:(Zo (c::r)).2<:+s:=(mi c r).trans (Ri m);simp only[Aa,dP o h];refine .inl ⟨_,rfl,⟨a++[(Zo (c::r)).1],cmtS (Zo (c::r)).2,?_,(Mj _).trans h,Jo _,by grind,?_⟩,?_⟩
     ·grind
     ·rw[rz,La];exact i
     ·have E:=(mi c r).length_le;have F:=(Mj (Zo (c::r)).2).length_le;show s.length - beh s (cmtS (Zo (c::r)).2)<s.length - beh s (c::r);unfold beh at*
      grind
  obtain⟨z,D,u⟩:=f
  grind
end Go.Lv.VT
