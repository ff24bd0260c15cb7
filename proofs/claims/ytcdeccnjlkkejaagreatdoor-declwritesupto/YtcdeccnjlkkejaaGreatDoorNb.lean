/- The writing of names. -/
import Derived.Test.YtcdeccnjlkkejaaGreatDoorNam
set_option linter.unusedSimpArgs false
set_option linter.unusedVariables false
namespace Go.Lv.VT
set_option maxRecDepth 100000
def escC(c:UInt8):Str:=bif decide (32<c.toNat)&&decide (c.toNat<127)&& !digB c&& !alB c then [92,c]else 92::(hexS c.toNat++[32])
def pcW(dash:Bool)(k:Nat)(c:UInt8):Str:=bif letB c&&(k==0|| !digB c)&& !dash then [c]else escC c
def encW(dash:Bool):Nat->Str->Str
 |_,[]=>[]
 |k,c::r=>pcW dash k c++encW dash (k - 1) r
theorem XW(c:UInt8):namN c.toNat=letB c:=by
 have: ∀n:Nat,n<256->namN (UInt8.ofNat n).toNat=letB (UInt8.ofNat n):=by decide+kernel
 have h:=this c.toNat (Bb c);simp_all
theorem gK(c:UInt8):QU (c.toNat:Int)=some (letB c):=by rw[lQ,XW]
theorem sD(c:UInt8):Z8 (c.toNat:Int)=some (digB c):=mQ c
theorem pW(c:UInt8):Hr (c.toNat:Int)=some (alB c):=of_n (by decide+kernel) c
theorem MX(c:UInt8):wu64 (c.toNat:Int)=(c.toNat:Int):=by
 have:=Bb c;show IntKind.u64.wrap _=_;have h: ∀n:Int,IntKind.u64.wrap n=n%18446744073709551616:=fun n=>by simp[IntKind.wrap,IntKind.bits,IntKind.signed]
 rw[h];omega
theorem Su(c:UInt8):ZP ((c.toNat:Nat):Int)=some c:=by simp_all
theorem KL(n:Nat):(hexS n).length<=2:=by unfold hexS;split<;>simp
theorem Ll(c:UInt8){acc:Str}(j:acc.length<=1000000000):ZH ((c.toNat:Int),acc)=some (acc++escC c):=by
 have i:=Bb c;unfold ZH escC;simp only[zb,sD,pW];have g:decide ((c.toNat:Int)>32)=decide (32<c.toNat):=by rw[bf];omega
 have f:decide ((c.toNat:Int)<127)=decide (c.toNat<127):=by rw[bf];omega
 rw[g,f];have b:short (acc++[(92:UInt8)])=true:=Ea (by grind);have e:ym ((wu64 (c.toNat:Int),16),acc++[(92:UInt8)])=some (acc++[(92:UInt8)]++hexS c.toNat):=by unfold ym;simp only[MX,b];rw[zm (by simp;omega)];rfl
 have h:=KL c.toNat;have a:need (Zc acc.length 1 1) (zb (ym ((wu64 (c.toNat:Int),16),acc++[(92:UInt8)])) fun d=>need (Zc d.length 1 1) (some (d++[(32:UInt8)])))=some (acc++92::(hexS c.toNat++[32])):=by rw[zm (Jg (by omega)),e];simp only[zb,Aa];rw[zm (Jg (by grind))];simp
 simp only[zb]at a;rw[a];cases decide (32<c.toNat)with
 |false=>rfl
 |true=>
  cases decide (c.toNat<127)with
  |false=>rfl
  |true=>
   cases digB c with
   |true=>rfl
   |false=>
    cases alB c with
    |true=>rfl
    |false=> simp only[zq,Ca,Va,Bool.and_self,Aa,Su];rw[zm (Jg (by omega))]
theorem oh(c:UInt8):(escC c).length<=4:=by
 have:=KL c.toNat;unfold escC
 grind
theorem UD(dash:Bool)(k:Nat)(c:UInt8):(pcW dash k c).length<=4:=by
 have:=oh c;unfold pcW
 grind
theorem uh(dash:Bool): ∀(k:Nat) (l:Str),(encW dash k l).length<=4*l.length
 |_,[]=>by unfold encW;simp
 |k,c::r=>by
  have:=UD dash k c;have:=uh dash (k - 1) r;unfold encW
  grind
theorem fU{dash:Bool}{k i:Nat}{l:Str}(h:i<l.length):encW dash (k - i) (l.drop i)=pcW dash (k - i) l[i]++encW dash (k - (i+1)) (l.drop (i+1)):=by rw[Ab h,encW,show k - i - 1=k - (i+1) by omega]
theorem nJ {R:Type} {step:Int×List UInt8->Option (LO (Int×List UInt8) (List UInt8) R)} {l acc:Str} {k:Nat} {dash:Bool} (hl:l.length<=100000) (ha:acc.length<=100000000)
  (h1: ∀(i:Nat) (a:Str) (hi:i<l.length),a.length<=500000000->step ((i:Int),a)=some (.again (w64 ((i:Int)+1),a++pcW dash (k - i) l[i])))
  (h2: ∀a,step ((l.length:Int),a)=some (.out a)):Nf step (0,acc)=some (.out (acc++encW dash k l)):=by
 refine Zv (fun z=> ∃(i:Nat) (a:Str),z=((i:Int),a)/\i<=l.length/\a.length<=acc.length+4*i/\a++encW dash (k - i) (l.drop i)=acc++encW dash k l) (fun z=>l.length - z.1.toNat) _ ?_ ⟨0,acc,rfl,by omega,by omega,rfl⟩;rintro _ ⟨i,a,rfl,hi,hal,he⟩;rcases Lc i l.length with h|h
 ·refine .inl ⟨_,h1 i a h (by omega),⟨i+1,_,by rw[zJ (by omega) (by omega)];rfl,by omega,?_,?_⟩,by simp only;rw[zJ (by omega) (by omega)];omega⟩
  ·have:=UD dash (k - i) l[i]
   grind
  ·rw[<-he,fU h,Oa]
 ·have:i=l.length:=by omega
  subst this;refine .inr (.inl ⟨_,h2 a,?_⟩);rw[<-he,De (aa _)];rw[show encW dash (k - l.length) []=[] by rw[encW],ja]
def Ih(k:Nat)(l:Str):Bool:= !(k==0)&&l==[45]
def ZN(l:Str):Nat:=if [45].isPrefixOf l then 2 else 1
theorem Rq(l:Str):Qu l=some ((ZN l:Nat):Int):=by
 unfold Qu ZN;simp only[zb,QA,Aa]
 grind
def Zx(l:Str):Str:=encW (l==[45]) (ZN l) l
theorem Ou{n:Nat}(h:n<16):qQ (hexD n)=true/\hexN (hexD n)=n/\(hexD n==10)=false/\letB (hexD n)=true:=by
 have: ∀n:Nat,n<16->qQ (hexD n)=true/\hexN (hexD n)=n/\(hexD n==10)=false/\letB (hexD n)=true:=by decide+kernel
 exact this n h
theorem YA{k n:Nat}{c:UInt8}{r:Str}(h:qQ c=true):hexes (k+1) n (c::r)=hexes k (16*n+hexN c) r:=by rw[hexes,Ka h]
theorem nK{n:Nat}(h:n<256)(R:Str):hexes 6 0 (hexS n++32::R)=(n,32::R):=by
 unfold hexS;by_cases c:n<16
 ·obtain⟨a,b,_⟩:=Ou c;rw[Ka c,ic,YA a,b,Lu _ _ (32::R) (show qQ 32=false by decide)];simp
 ·obtain⟨a,b,_⟩:=Ou (show n / 16<16 by omega);obtain⟨e,d,_⟩:=Ou (show n%16<16 by omega);rw[Ja c,Xa,ic,YA a,YA e,b,d,Lu _ _ (32::R) (show qQ 32=false by decide)]
  grind
theorem MG{n:Nat}(h:n<256)(R:Str): ∃d t,hexS n++R=d::t/\qQ d=true/\(d==10)=false:=by
 unfold hexS;by_cases c:n<16
 ·obtain⟨a,_,b,_⟩:=Ou c;simp_all
 ·obtain⟨a,_,b,_⟩:=Ou (show n / 16<16 by omega);exact⟨_,_,by rw[Ja c];rfl,a,b⟩
theorem wM{c:UInt8}(a:c≠0)(h:c.toNat<128):Ag c.toNat=[c]:=by
 have b:c.toNat≠0:=by intro e;exact a (Oe.1 e)
 unfold Ag;rw[Ja (by omega),Ka h,Nc]
theorem sN{r:Str}(h:escS (92::r)=true):zo (92::r)=((zt r).1++(zo (zt r).2).1,(zo (zt r).2).2):=by rw[zQ,Ja (by decide),Ka h]
theorem yL{c:UInt8}(h0:c≠0)(h:c.toNat<128)(R:Str):zo (escC c++R)=(c::(zo R).1,(zo R).2):=by
 unfold escC;cases hg:decide (32<c.toNat)&&decide (c.toNat<127)&& !digB c&& !alB c with
 |true=>
  rw[Ca];have hx:qQ c=false/\(c==10)=false:=by
   have: ∀n:Nat,n<256->(decide (32<(UInt8.ofNat n).toNat)&&decide ((UInt8.ofNat n).toNat<127)&& !digB (UInt8.ofNat n)&& !alB (UInt8.ofNat n))=true->qQ (UInt8.ofNat n)=false/\(UInt8.ofNat n==10)=false:=by decide+kernel
   have:=this c.toNat (Bb c);rw[Nc]at this;exact this hg
  have he:zt (c::R)=([c],R):=by show(if qQ c then _ else _)=_;rw[Ja (by rw[hx.1];decide)]
  rw[show [92,c]++R=92::c::R from rfl,sN (by unfold escS;rw[show atS (92::c::R) 0=92 from rfl,show atS (92::c::R) 1=c from rfl,hx.2];rfl),he];rfl
 |false=>
  rw[Ba,Xa,Oa];obtain⟨d,t,e,hd,h10⟩:=MG (n:=c.toNat) (Bb c) ([32]++R);have he:zt (hexS c.toNat++([32]++R))=([c],R):=by have hh:=nK (n:=c.toNat) (Bb c) R;rw[show(32::R:Str)=[32]++R from rfl,e]at hh;rw[e];show(if qQ d then(Ag (hexes 6 0 (d::t)).1,unsp (hexes 6 0 (d::t)).2)else _)=_;rw[Ka hd,hh,wM h0 h];rfl
  rw[sN (by rw[e];unfold escS;rw[show atS (92::d::t) 0=92 from rfl,show atS (92::d::t) 1=d from rfl,h10];rfl),he];rfl
theorem OE{c:UInt8}(h: ¬c.toNat<128):letB c=true/\digB c=false:=by
 have: ∀n:Nat,n<256-> ¬(UInt8.ofNat n).toNat<128->letB (UInt8.ofNat n)=true/\digB (UInt8.ofNat n)=false:=by decide+kernel
 have:=this c.toNat (Bb c);simp_all
theorem mJ{dash:Bool}{k:Nat}{c:UInt8}(e:c≠0)(f:dash=true->c.toNat<128)(R:Str):zo (pcW dash k c++R)=(c::(zo R).1,(zo R).2):=by
 unfold pcW;cases d:letB c&&(k==0|| !digB c)&& !dash with
 |true=> rw[Fa,Fa]at d;rw[Ca,ic,zQ,Ka d.1.1]
 |false=>
  rw[Ba];refine yL e ?_ R;by_cases h:c.toNat<128
  ·exact h
  ·obtain⟨a,b⟩:=OE h
   grind
theorem BM{dash:Bool}: ∀(k:Nat) (l:Str),Zm l=true->(dash=true-> ∀c∈l,c.toNat<128)->zo (encW dash k l)=(l,[])
 |_,[],_,_=>by rw[encW,qR]
 |k,c::r,h,a=>by unfold Zm at h;rw[Rc,Fa]at h;rw[encW,mJ (by grind) (fun e=>a e c (jb ..)),BM (k - 1) r h.2 (fun e x b=>a e x (Xb _ b))]
theorem IX{l:Str}(h:Zm l=true):zo (Zx l)=(l,[]):=by refine BM _ _ h (fun e c a=> ?_);simp_all
theorem Tz{dash:Bool}{k:Nat}(hk:0<k)(c:UInt8)(R:Str): ∃d t,pcW dash k c++R=d::t/\(d=92/\escS (d::t)=true\/(d=c/\dash=false/\letB d=true/\digB d=false/\t=R)):=by
 have hk0:(k==0)=false:=by rw[Ha];omega
 unfold pcW;rw[hk0,Gc];cases hg:letB c&& !digB c&& !dash with
 |true=> rw[Fa,Fa,Fe,Fe]at hg;exact⟨c,R,rfl, .inr ⟨rfl,hg.2,hg.1.1,hg.1.2,rfl⟩⟩
 |false=>
  rw[Ba];unfold escC;cases hg2:decide (32<c.toNat)&&decide (c.toNat<127)&& !digB c&& !alB c with
  |true=>
   refine⟨92,c::R,rfl, .inl ⟨rfl,?_⟩⟩;have:c≠10:=by rintro rfl;revert hg2;decide
   unfold escS;rw[show atS (92::c::R) 1=c from rfl,Ha.2 this];rfl
  |false=> obtain⟨d,t,e,hd,h10⟩:=MG (n:=c.toNat) (Bb c) ([32]++R);refine⟨92,_,by rw[Ba,Xa,Oa], .inl ⟨rfl,?_⟩⟩;rw[e];unfold escS;rw[show atS (92::d::t) 1=d from rfl,h10];rfl
theorem xN{d:UInt8}(h:letB d=true)(h2:digB d=false):fstB d=true\/d=45:=by
 unfold letB at h
 grind
theorem yI{d:UInt8}{t:Str}(a:d=92)(h:escS (d::t)=true):nmS (d::t)=true:=by subst a;unfold nmS;rw[show atS (92::t) 0=92 from rfl,Ja (by decide),h,Xe]
theorem sj{l:Str}(h:l≠[]):nmS (Zx l)=true:=by
 cases l with
 |nil=>grind
 |cons c r=>
  unfold Zx encW;obtain⟨d,t,e,u⟩:=Tz (dash:=(c::r:Str)==[45]) (k:=ZN (c::r)) (by unfold ZN;split<;>omega) c (encW ((c::r:Str)==[45]) (ZN (c::r) - 1) r);rw[e];rcases u with⟨q,j⟩|⟨rfl,j,x,v,o⟩
  ·exact yI q j
  ·rcases xN x v with p|rfl
   ·by_cases m:d=45
    ·subst m;exact absurd p (by decide)
    ·unfold nmS;rw[show atS (d::t) 0=d from rfl,Ja (by grind),p,Wd]
   ·have C:r≠[]:=by rintro rfl;exact absurd j (by decide)
    cases r with
    |nil=>grind
    |cons f g=>
     have A:ZN (45::f::g)=2:=rfl;rw[A]at o;obtain⟨a,b,y,n⟩:=Tz (dash:=(45::f::g:Str)==[45]) (k:=2 - 1) (by omega) f (encW ((45::f::g:Str)==[45]) (2 - 1 - 1) g);have z:t=a::b:=by rw[o,encW,y]
     rw[z];unfold nmS;rw[show atS (45::a::b) 0=45 from rfl,Ka (show((45:UInt8)==45)=true from rfl),show atS (45::a::b) 1=a from rfl,show(45::a::b:Str).drop 1=a::b from rfl];rcases n with⟨_,B⟩|⟨_,_,s,w,_⟩
     ·grind
     ·rcases xN s w with i|rfl
      ·rw[i];rfl
      ·simp
theorem QG(m:UInt8):z8 m []=(some [],[]):=by rw[z8]
theorem Ql(m c:UInt8)(r:Str):z8 m (c::r)=if c==m then(some [],r)
  else if c==10 then(none,c::r)
  else if c==92 then
   (if r.isEmpty then(some [],[])
   else if atS r 0==10 then z8 m (r.drop 1)
   else((z8 m (zt r).2).1.map ((zt r).1++ ·),(z8 m (zt r).2).2))
  else((z8 m r).1.map (c:: ·),(z8 m r).2):=by rw[z8]
theorem TA(m:UInt8)(l:Str):(z8 m l).2<:+l:=by
 match l with
 |[]=>rw[QG];grind
 |c::r=>
  rw[Ql];have a:=Ld c r;split
  ·exact a
  ·split
   ·grind
   ·split
    ·split
     ·grind
     ·split
      ·exact(TA m (r.drop 1)).trans ((Ke 1 r).trans a)
      ·have:=Zg r;exact(TA m (zt r).2).trans ((Zh r).trans a)
    ·exact(TA m r).trans a
termination_by l.length
decreasing_by
 all_goals grind
theorem Ju(a b:Str)(x:Option Str):(x.map (b++ ·)).map (a++ ·)=x.map ((a++b)++ ·):=by
 cases x with
 |none=>rfl
 |some t=>grind
theorem Wz(a:Str)(b:UInt8)(x:Option Str):(x.map (b:: ·)).map (a++ ·)=x.map ((a++[b])++ ·):=Ju a [b] x
def Ui:Option Str->ze
 |some t=>⟨5,t,0,[],false⟩
 |none=>⟨6,[],0,[],false⟩
theorem zA0{s q:Str}{m:UInt8}(k:s.length<=big)(w:m::q<:+s):qI (sr s (m::q))=some (Ui (z8 m q).1,sr s (z8 m q).2):=by
 have J:big=4194304:=rfl;have D:=Zd w;unfold qI;simp only[zb,Og k w,Aa,wm,lg k w]
 let g:LX (za×ze×List UInt8) (ze×za):=match(z8 m q).1 with
  |some t=> .out (sr s (z8 m q).2,⟨0,[],0,[],false⟩,t)
  |none=> .ret (⟨6,[],0,[],false⟩,sr s (z8 m q).2)
 rw[Ci (r:=g)]
 ·show LX.go g _=_;cases h:(z8 m q).1 with
  |some t=>simp only[g,h];rfl
  |none=>simp only[g,h];rfl
 refine Zv (fun z=> ∃(p e:Str),z=(sr s p,⟨0,[],0,[],false⟩,e)/\p<:+s/\e.length+4*p.length<=4*s.length/\(z8 m q).1=(z8 m p).1.map (e++ ·)/\(z8 m q).2=(z8 m p).2) (fun z=>s.length - z.1.at_.toNat) _ ?_
  ⟨q,[],rfl,D,by grind,by simp,rfl⟩
 rintro _ ⟨p,e,rfl,j,C,b,a⟩;simp only[Og k j,Aa,Im,OI,YT];cases p with
 |nil=>
  refine .inr (.inl ⟨_,rfl,?_⟩);rw[QG]at b a
  grind
 |cons c t=>
  have i:=j.length_le;rw[Ia]at i C;have n:=Zd j;rw[Ql]at b a;rw[show(c::t).isEmpty=false from rfl,Ba,wm,show((c.toNat:Int)==(m.toNat:Int))=(c==m)from Qs c m,show atS (c::t) 0=c from rfl,lg k j];have f: ∀u:Str,u.length<=t.length->u<:+s->s.length - beh s u<s.length - beh s (c::t):=by intro u A F;unfold beh;rw[Ia];omega
  cases v:c==m with
  |true=>
   grind
  |false=>
   rw[v,Ja (by decide)]at b a;rw[Ba];cases y:c==10 with
   |true=>
    grind
   |false=>
    rw[y,Ja (by decide)]at b a;rw[Ba];cases l:c==92 with
    |false=> rw[l,Ja (by decide)]at b a;simp only[zq,Ba,Aa,lc,eu];rw[zm (Jg (by omega))];exact .inl ⟨_,rfl,⟨t,e++[c],rfl,n,by grind,by rw[b,Wz],a⟩,f t (by omega) n⟩
    |true=>
     rw[l,Ka rfl]at b a;simp only[zq,Ca,Rt k j,Aa,Lb];have x:pk (c::t) 1=pk t 0:=rfl;rw[x,Im];cases t with
     |nil=>
      rw[show([]:Str).isEmpty=true from rfl,Ka rfl]at b a;have o:beh s [c]=s.length - 1:=rfl;have G:(if((s.length:Int)<w64 ((beh s [c]:Int)+2))then(s.length:Int)else w64 ((beh s [c]:Int)+2))=((beh s []:Nat):Int):=by rw[zJ (by omega) (by omega),Ka (by omega)];unfold beh;rw[Eb];omega
      refine .inl ⟨(sr s [],⟨0,[],0,[],false⟩,e),?_,⟨[],e,rfl,List.nil_suffix,by grind,by rw[b,QG],by rw[a,QG]⟩,f [] (by simp) List.nil_suffix⟩
      grind
     |cons d u=>
      rw[show(d::u).isEmpty=false from rfl,Ja (by decide)]at b a;simp only[show(d::u).isEmpty=false from rfl,Va,Ca,Ba,Aa,OI];cases B:atS (d::u) 0==10 with
      |true=>
       rw[B,Ka rfl]at b a;have A:=Zd n;rw[Ia]at i C;have o:beh s (c::d::u)=s.length - (u.length+1+1):=by unfold beh;rw[Ia,Ia]
       have G:(if((s.length:Int)<w64 ((beh s (c::d::u):Int)+2))then(s.length:Int)else w64 ((beh s (c::d::u):Int)+2))=((beh s u:Nat):Int):=by rw[zJ (by omega) (by omega),Ja (by omega)];unfold beh;rw[Ia,Ia];omega
       refine .inl ⟨(sr s u,⟨0,[],0,[],false⟩,e),?_,⟨u,e,rfl,A,by omega,b,a⟩,f u (by grind) A⟩
       grind
      |false=> rw[B,Ja (by decide)]at b a;have H:=Sn (d::u);have E:=Zg (d::u);refine .inl ⟨(sr s (zt (d::u)).2,⟨0,[],0,[],false⟩,e++(zt (d::u)).1),?_,⟨_,_,rfl,(Zh _).trans n,by grind,by rw[b,Ju],a⟩,f _ E ((Zh _).trans n)⟩;simp only[Ba,PG k j (show e.length<=1000000000 by omega),Aa]
theorem PT{n:Nat}(l:n≠0)(h:n<16777216):qd (w32 (n:Int))=some (Ag n):=by
 have j:Zc 0 1 1=true:=Jg (by omega);have f:Zc 0 2 1=true:=Jg (by omega);have d:Zc 0 3 1=true:=Jg (by omega);have g:Zc 0 4 1=true:=Jg (by omega);have c:(128+n%64)<256:=by omega
 have a:(128+n / 64%64)<256:=by omega
 have b:(128+n / 4096%64)<256:=by omega
 unfold qd qm Ag;simp only[Bl (show n<2147483648 by omega),LM (show n<2147483648 by omega),zb,shr6,KT,jT,FL,ZE c,ZE a,ZE b,Aa];by_cases e:n<128
 ·rw[Ea (by omega),Ca,Bq,ZE (by omega),Aa,zm j,Ja (by omega),Ka e,je (by omega)]
 ·rw[Ra (by omega),Ba];by_cases i:n<2048
  ·rw[Ea (by omega),Ca,gT (by omega),ZE (by omega)];simp only[Aa];rw[zm f,Ja (by omega),Ja (by omega),Ka i];rfl
  ·rw[Ra (by omega),Ba];by_cases m:n<55296
   ·rw[Ea (by omega),Ca,zh];simp only[Ca];rw[ow (by omega),ZE (by omega)];simp only[Aa];rw[zm d,Ja (by omega),Ja (by omega),Ja (by omega),Ka (by omega)];rfl
   ·rw[Ra (by omega),Ba,zh];simp only[MJ];by_cases k:57343<n/\n<65536
    ·rw[Ea (by omega),Ea (by omega),Lb,Ca,ow (by omega),ZE (by omega)];simp only[Aa];rw[zm d,Ja (by omega),Ja (by omega),Ja (by omega),Ka (by omega)];rfl
    ·rw[show(decide ((57343:Int)<(n:Int))&&decide ((n:Int)<=65535))=false by grind,Ba];by_cases o:65535<n/\n<=1114111
     ·rw[Ea (by omega),Ea (by omega),Lb,Ca,fT (by omega),ZE (by omega)];simp only[Aa];rw[zm g,Ja (by omega),Ja (by omega),Ja (by omega),Ja (by omega)];rfl
     ·rw[show(decide ((n:Int)>65535)&&decide ((n:Int)<=1114111))=false by grind,Ba,zm d,Ka (by omega)];rfl
theorem mO:qd 65533=some ui:=by have h:=PT (n:=65533) (by omega) (by omega);rw[Bl (by omega)]at h;exact h
theorem iY{s l:Str}{c:UInt8}(hs:s.length<=big)(hr:c::l<:+s):
  ZW (sr s (c::l))=some (sr s (zt l).2,(zt l).1):=by
 have hl:=Zd hr;unfold ZW;simp only[lg hs hr,zb,Og hs hl,Aa,Im];cases l with
 |nil=> rw[show([]:Str).isEmpty=true from rfl,Ca,mO];rfl
 |cons d r=>
  rw[show(d::r).isEmpty=false from rfl,Ba,xw];simp only[Aa,Pq];cases hx:qQ (atS (d::r) 0)with
  |false=>
   rw[Va,Ca,wm,eu];simp only[Aa,lg hs hl];rw[zm (Jg (n:=0) (by omega))];have:zt (d::r)=([d],r):=by show(if qQ d then _ else _)=_;rw[Ja (by rw[show qQ d=false from hx];decide)]
   rw[this]
  |true=>
   rw[Ya,Ba];have he:zt (d::r)=(Ag (hexes 6 0 (d::r)).1,unsp (hexes 6 0 (d::r)).2):=by show(if qQ d then _ else _)=_;rw[Ka (show qQ d=true from hx)]
   rw[he];rw[Ze (nM (l:=d::r) hl (fun n i q hq hn hi=> ?_))]
   ·have hq:(hexes 6 0 (d::r)).2<:+s:=(uu 6 0 _).trans hl;have hlt:=Yz 6 0 (d::r);rw[show 16 ^ 6*(0+1)=16777216 from rfl]at hlt;simp only[Og hs hq,Aa,Eu];have hj:(bif spB (atS (hexes 6 0 (d::r)).2 0)then some (LX.out (((hexes 6 0 (d::r)).1:Int),(⟨s,w64 ((beh s (hexes 6 0 (d::r)).2:Int)+1)⟩:za)))else some (LX.out (((hexes 6 0 (d::r)).1:Int),sr s (hexes 6 0 (d::r)).2)):Option (LX (Int×za) (za×List UInt8)))
      =some (LX.out (((hexes 6 0 (d::r)).1:Int),sr s (unsp (hexes 6 0 (d::r)).2))):=by
     cases hh:(hexes 6 0 (d::r)).2 with
     |nil=>rfl
     |cons e t=>
      rw[hh]at hq;rw[show atS (e::t) 0=e from rfl,lg hs hq];show _=some (LX.out (_,sr s (if spB e then t else e::t)))
      grind
    rw[hj,zh];simp only;by_cases h0:(hexes 6 0 (d::r)).1=0
    ·rw[h0,show((((0:Nat):Int))==0)=true from rfl,Ca,zh];simp only[Bl (show 65533<2147483648 by omega),show w32 (65533:Int)=65533 from Bl (n:=65533) (by omega),mO,Aa];rfl
    ·rw[show(((hexes 6 0 (d::r)).1:Int)==0)=false by grind,Ba,zh];simp only[PT h0 hlt,Aa]
   ·simp only[Og hs hq,Aa,xw,Pq];have hb6:decide ((i:Int)<6)=decide (i<6):=by rw[bf];omega
    rw[hb6];cases decide (i<6)with
    |false=>rfl
    |true=>
     rw[Ca,ma];cases hx2:qQ (atS q 0)with
     |false=>rfl
     |true=>
      cases q with
      |nil=>exact absurd hx2 (by decide)
      |cons e t=>
       have hI:hexI (atS (e::t) 0)=(hexN (atS (e::t) 0):Int):=by unfold hexI;rw[Ka hx2]
       rw[hI,kI hn (Nu hx2),lg hs hq,zJ (by omega) (by omega)];rfl
theorem Tq:badS []=[]:=by rw[badS]
theorem mq(c:UInt8)(r:Str):badS (c::r)=if c==41 then r else if escS (c::r)then badS (zt r).2 else badS r:=by rw[badS]
theorem uy(l:Str):badS l<:+l:=by
 match l with
 |[]=>rw[Tq];grind
 |c::r=>
  rw[mq];have a:=Ld c r;split
  ·exact a
  ·split
   ·have:=Zg r;exact(uy (zt r).2).trans ((Zh r).trans a)
   ·exact(uy r).trans a
termination_by l.length
decreasing_by
 all_goals grind
theorem zBO{s t:Str}{c:UInt8}(e:s.length<=big)(h:c::t<:+s):geti s (w64 ((beh s t:Int) - 1))=some c:=by
 have f:big=4194304:=rfl;have b:=h.length_le;rw[Ia]at b;have d:=Kn h;have g:beh s t=beh s (c::t)+1:=by unfold beh;rw[Ia];omega
 have a:beh s (c::t)<s.length:=by unfold beh;rw[Ia];omega
 rw[zJ (by omega) (by omega),show(beh s t:Int) - 1=((beh s (c::t):Nat):Int) by omega,Zo a];rw[Ab a]at d
 grind
theorem badR{s q:Str}(e:s.length<=big)(j:q<:+s):qb (sr s q)=some (⟨8,[],0,[],false⟩,sr s (badS q)):=by
 unfold qb;refine JG ?_;refine Zv (fun z=> ∃(p:Str),z=(sr s p,(⟨0,[],0,[],false⟩:ze))/\p<:+s/\badS q=badS p) (fun z=>s.length - z.1.at_.toNat) _ ?_ ⟨q,rfl,j,rfl⟩;rintro _ ⟨p,rfl,b,g⟩;simp only[zb,Og e b,Aa,Im];cases p with
 |nil=>exact .inr (.inr ⟨_,rfl,by rw[g,Tq]⟩)
 |cons c t=>
  have d:=b.length_le;rw[Ia]at d;have i:=Zd b;have f: ∀u:Str,u.length<=t.length->u<:+s->s.length - beh s u<s.length - beh s (c::t):=by intro u l k;unfold beh;rw[Ia];omega
  rw[show(c::t).isEmpty=false from rfl,Ba,wE e b];rw[mq]at g;simp only[Aa];cases a:escS (c::t)with
  |true=>
   have h:(c==41)=false:=by unfold escS at a;rw[Fa,Cb]at a;rw[show c=92 from a.1];decide
   rw[a,h,Ja (by decide),Ka rfl]at g;rw[Ca,iY e b];exact .inl ⟨_,rfl,⟨_,rfl,(Zh t).trans i,g⟩,f _ (Zg t) ((Zh t).trans i)⟩
  |false=>
   rw[Ba,lg e b,zBO e b];simp only[Aa];rw[show((c.toNat:Int)==41)=(c==41)from Qs c 41]
   grind
theorem yj:urlS []=(some [],[]):=by rw[urlS]
theorem QQ(c:UInt8)(r:Str):urlS (c::r)=if c==41 then(some [],r)
  else if spB c then(match past spB r with
   |[]=>(some [],[])
   |d::a=>if d==41 then(some [],a)else(none,badS (d::a)))
  else if c==34||c==39||c==40||unB c||c==92&& !escS (c::r)then(none,badS (c::r))
  else if c==92 then((urlS (zt r).2).1.map ((zt r).1++ ·),(urlS (zt r).2).2)
  else((urlS r).1.map (c:: ·),(urlS r).2):=by rw[urlS];grind
theorem fD(l:Str):(urlS l).2<:+l:=by
 match l with
 |[]=>rw[yj];grind
 |c::r=>
  rw[QQ];have a:=Ld c r;split
  ·exact a
  ·split
   ·have b:=(Dn spB r).trans a;cases e:past spB r with
    |nil=>grind
    |cons d f=>
     rw[e]at b;simp only;split
     ·exact(Ld d f).trans b
     ·exact(uy _).trans b
   ·split
    ·exact uy _
    ·split
     ·have:=Zg r;exact(fD (zt r).2).trans ((Zh r).trans a)
     ·exact(fD r).trans a
termination_by l.length
decreasing_by
 all_goals grind
def og:Option Str->ze
 |some t=>⟨7,t,0,[],false⟩
 |none=>⟨8,[],0,[],false⟩
theorem zBd(c:UInt8): ∃y,zq (!(bif bif bif bif (c.toNat:Int)==34 then true else(c.toNat:Int)==39 then true else(c.toNat:Int)==40 then true else decide ((c.toNat:Int)<=8)then true else(c.toNat:Int)==11)) (Z5 ((c.toNat:Int),14,31)) (default:Bool)=some y/\
  (bif bif bif bif bif bif (c.toNat:Int)==34 then true else(c.toNat:Int)==39 then true else(c.toNat:Int)==40 then true else decide ((c.toNat:Int)<=8)then true else(c.toNat:Int)==11 then true else y then true else(c.toNat:Int)==127)=(c==34||c==39||c==40||unB c):=by
 have a: ∀n:Nat,n<256->((zq (!(bif bif bif bif (n:Int)==34 then true else(n:Int)==39 then true else(n:Int)==40 then true else decide ((n:Int)<=8)then true else(n:Int)==11)) (Z5 ((n:Int),14,31)) (default:Bool)).elim false fun y=>
  (bif bif bif bif bif bif (n:Int)==34 then true else(n:Int)==39 then true else(n:Int)==40 then true else decide ((n:Int)<=8)then true else(n:Int)==11 then true else y then true else(n:Int)==127)==(UInt8.ofNat n==34||UInt8.ofNat n==39||UInt8.ofNat n==40||unB (UInt8.ofNat n)))=true:=by decide+kernel
 have h:=a c.toNat (Bb c);rw[Nc]at h;cases b:zq (!(bif bif bif bif (c.toNat:Int)==34 then true else(c.toNat:Int)==39 then true else(c.toNat:Int)==40 then true else decide ((c.toNat:Int)<=8)then true else(c.toNat:Int)==11)) (Z5 ((c.toNat:Int),14,31)) (default:Bool)with
 |none=>grind
 |some y=>
  grind
theorem JI(c:UInt8)(t:Str):(pk (c::t) 0== -1)=false:=by rw[Im];rfl
theorem urlR{s w:Str}(f:s.length<=big)(v:w<:+s):Qy (sr s w)=some (og (urlS (past spB w)).1,sr s (urlS (past spB w)).2):=by
 have L:big=4194304:=rfl;unfold Qy;rw[Ay f v];simp only[zb,Aa];have E:=Yi spB v;generalize past spB w=q at E ⊢;refine JG ?_;refine Zv (fun z=> ∃(p e:Str),z=(sr s p,(⟨0,[],0,[],false⟩:ze),e)/\p<:+s/\e.length+4*p.length<=4*s.length/\(urlS q).1=(urlS p).1.map (e++ ·)/\(urlS q).2=(urlS p).2) (fun z=>s.length - z.1.at_.toNat) _ ?_
  ⟨q,[],rfl,E,by grind,by simp,rfl⟩
 rintro _ ⟨p,e,rfl,h,G,b,a⟩;simp only[Og f h,Aa,Eu];cases p with
 |nil=> refine .inr (.inr ⟨_,rfl,?_⟩);rw[yj]at b a;rw[b,a];simp only[Gd,ja,og]
 |cons c t=>
  have m:=h.length_le;rw[Ia]at m G;have r:=Zd h;have k: ∀u:Str,u.length<=t.length->u<:+s->s.length - beh s u<s.length - beh s (c::t):=by intro u M J;unfold beh;rw[Ia];omega
  rw[QQ]at b a;rw[show atS (c::t) 0=c from rfl];cases j:spB c with
  |true=>
   have i:(c==41)=false:=by rw[Ha];rintro rfl;exact absurd j (by decide)
   rw[i,j,Ja (by decide),Ka rfl]at b a;have D:past spB (c::t)=past spB t:=by rw[past,Ka j]
   have g:past spB t<:+s:=Yi spB r;rw[Ca,Ay f h,D];simp only[Aa,Og f g];cases o:past spB t with
   |nil=> rw[o]at b a;refine .inr (.inr ⟨_,rfl,?_⟩);simp only at b a;rw[b,a];simp only[Gd,ja,og]
   |cons d F=>
    rw[o]at b a g;simp only at b a;unfold bne;rw[NI,JI,show atS (d::F) 0=d from rfl];cases C:d==41 with
    |true=> rw[C,Ka rfl]at b a;refine .inr (.inr ⟨_,?_,rfl⟩);simp only[Ya,Ba,zh,JI,NI,show atS (d::F) 0=d from rfl,C,Ca,lg f g];rw[b,a];simp only[Gd,ja,og]
    |false=> rw[C,Ja (by decide)]at b a;refine .inr (.inr ⟨_,?_,rfl⟩);simp only[Va,Ca,badR f g,Aa,zvj];rw[b,a];rfl
  |false=>
   rw[Ba,zh];simp only[JI,NI,show atS (c::t) 0=c from rfl,Ba,lg f h];cases i:c==41 with
   |true=> rw[i,Ka rfl]at b a;refine .inr (.inr ⟨_,by rw[Ca],?_⟩);rw[b,a];simp only[Gd,ja,og]
   |false=>
    rw[i,Ja (by decide),j,Ja (by decide)]at b a;rw[Ba];obtain⟨y,B,A⟩:=zBd c;rw[wm,B];simp only[Aa];rw[A];cases x:(c==34||c==39||c==40||unB c)with
    |true=> rw[x,Wd,Ka rfl]at b a;refine .inr (.inr ⟨_,?_,rfl⟩);rw[Ca,badR f h];simp only[Aa];rw[b,a];rfl
    |false=>
     rw[x,Gc]at b a;rw[Ba];unfold bne;rw[show((c.toNat:Int)==92)=(c==92)from Qs c 92];cases n:c==92 with
     |false=> rw[n,Pb,Ja (by decide),Ja (by decide)]at b a;rw[Va,Ca,eu];simp only[Aa];rw[zm (Jg (by omega))];exact .inl ⟨_,rfl,⟨t,e++[c],rfl,r,by grind,by rw[b,Wz],a⟩,k t (aa _) r⟩
     |true=>
      rw[n,ma]at b a;rw[Ya,Ba,wE f h];simp only[Aa];cases l:escS (c::t)with
      |true=> rw[l,Ya,Ja (by decide),Ka rfl]at b a;have K:=Sn t;have H:=Zg t;refine .inl ⟨(sr s (zt t).2,⟨0,[],0,[],false⟩,e++(zt t).1),?_,⟨_,_,rfl,(Zh _).trans r,by grind,by rw[b,Ju],a⟩,k _ H ((Zh _).trans r)⟩;simp only[Ca,PG f h (show e.length<=1000000000 by omega),Aa]
      |false=> rw[l,Va,Ka rfl]at b a;refine .inr (.inr ⟨_,?_,rfl⟩);rw[Ba,badR f h];simp only[Aa];rw[b,a];rfl
def hdB(b:UInt8):Bool:=b==45||fstB b||b==92
theorem Mo{q:Str}(h:nmS q=true):hdB (atS q 0)=true:=by
 unfold nmS at h;unfold hdB;cases a:atS q 0==45 with
 |true=>rfl
 |false=>
  rw[a,Ja (by decide),Jc]at h;rcases h with h|h
  ·rw[h];rfl
  ·unfold escS at h
   grind
theorem Jt{b:UInt8}(h:hdB b=true):spB b=false/\(b==34)=false/\(b==39)=false/\(b==35)=false/\(b==64)=false/\(b==47)=false/\(b==60)=false/\(b==43)=false/\(b==46)=false/\digB b=false/\b≠0:=by
 have: ∀n:Nat,n<256->hdB (UInt8.ofNat n)=true->spB (UInt8.ofNat n)=false/\(UInt8.ofNat n==34)=false/\(UInt8.ofNat n==39)=false/\(UInt8.ofNat n==35)=false/\(UInt8.ofNat n==64)=false/\(UInt8.ofNat n==47)=false/\(UInt8.ofNat n==60)=false/\(UInt8.ofNat n==43)=false/\(UInt8.ofNat n==46)=false/\digB (UInt8.ofNat n)=false/\UInt8.ofNat n≠0:=by decide+kernel
 have:=this b.toNat (Bb b);simp_all
theorem FU{q:Str}(h:nmS q=true):nbS q=false:=by
 obtain⟨_,_,_,_,_,_,_,a,j,f,_⟩:=Jt (Mo h);unfold nbS unsign Lf;rw[a,Gc];cases b:atS q 0==45 with
 |false=>
  rw[Ja (by decide)];unfold undot
  grind
 |true=>
  rw[Ka rfl];unfold nmS at h;rw[b,Ka rfl]at h;have i:hdB (atS q 1)=true:=by
   unfold hdB;cases e:fstB (atS q 1)with
   |true=>simp
   |false=>
    cases g:atS q 1==45 with
    |true=>rfl
    |false=> rw[e,g,Gc,Gc]at h;unfold escS at h;rw[Fa,QB]at h;rw[h.1];rfl
  obtain⟨_,_,_,_,_,_,_,_,d,c,_⟩:=Jt i;unfold undot;rw[QB,d,Ja (by decide),QB,c]
theorem nT{s r:Str}:(decide ((0:Int)<=(beh s r:Int))&&decide ((beh s r:Int)<=(s.length:Int)))=true:=by
 have:=Eh s r
 grind
theorem xC{s r:Str}(a:r<:+s):List.drop ((beh s r:Int)).toNat s=r:=by rw[Sa,Kn a]
theorem VC{a b:UInt8}{m t:Str}(h:(b==a)=false):(a::m).isPrefixOf (b::t)=false:=by
 grind
theorem zAX{a:UInt8}{m q:Str}(c:a≠0)(h:(atS q 0==a)=false):(a::m).isPrefixOf q=false:=by
 cases q with
 |nil=>rfl
 |cons b t=>exact VC h
def capF(cap:Nat):Nat->Str->Nat
 |n,[]=>n
 |n,c::r=>capF cap (min cap (decN n c)) r
theorem EG(cap:Nat): ∀(l:Str) (n:Nat) (c:UInt8),capF cap n (l++[c])=min cap (decN (capF cap n l) c)
 |[],_,_=>rfl
 |d::l,n,c=>by show capF cap (min cap (decN n d)) (l++[c])=_;rw[EG cap l];rfl
theorem Bj(cap:Nat): ∀(l:Str) (n:Nat),n<=cap->capF cap n l<=cap
 |[],_,h=>h
 |c::l,n,_=>Bj cap l _ (Nat.min_le_left ..)
theorem aM {R:Type} {step:Int×Int->Option (LO (Int×Int) Int R)} {l:Str} {cap:Nat} (b:l.all digB=true) (j:l.length<=100000) (f:cap<=1000000000000)
  (a: ∀(v:Int) (i:Nat) (hi:i<l.length),step (v,(i:Int))=some (.again (if(cap:Int)<w64 (w64 (10*v)+w64 (wu8 ((l[i].toNat:Int) - 48)))then(cap:Int)else w64 (w64 (10*v)+w64 (wu8 ((l[i].toNat:Int) - 48))),w64 ((i:Int)+1))))
  (h2: ∀v:Int,step (v,(l.length:Int))=some (.out v)):Nf step (0,0)=some (.out ((capF cap 0 l:Nat):Int)):=by
 refine Zv (fun s=> ∃i:Nat,i<=l.length/\s=(((capF cap 0 (l.take i):Nat):Int),(i:Int))) (fun s=>l.length - s.2.toNat) _ ?_ ⟨0,by omega,rfl⟩;rintro _ ⟨i,hi,rfl⟩;rcases Lc i l.length with h|h
 ·refine .inl ⟨_,a _ i h,⟨i+1,by omega,?_⟩,by simp only;rw[zJ (by omega) (by omega)];omega⟩;have e:=Un (Rb.1 b _ (Ac h));have d:capF cap 0 (l.take (i+1))=min cap (decN (capF cap 0 (l.take i)) l[i]):=by rw[Kc h,EG]
  have g:=Bj cap (l.take i) 0 (Cc _);have c:wu8 ((l[i].toNat:Int) - 48)=((l[i].toNat - 48:Nat):Int):=by show IntKind.u8.wrap _=_;rw[IntKind.wrap_u8];omega
  unfold decN at d;rw[c,zJ (n:=10*_) (by omega) (by omega),zJ (n:=((l[i].toNat - 48:Nat):Int)) (by omega) (by omega),zJ (n:=(i:Int)+1) (by omega) (by omega),zJ (by omega) (by omega)];refine Prod.ext ?_ ?_
  ·grind
  ·grind
 grind
theorem oF: ∀(k n:Nat),n<=Tf->Ig k n<=Tf
 |0,_,h=>h
 |k+1,n,h=>by
  unfold Ig;split
  ·exact h
  ·exact oF k _ (Nat.min_le_left ..)
theorem NP {R:Type} {step:Int×Int->Option (LO (Int×Int) Int R)} {v:Nat} {p:Int} (n:p<=4000000) (d: -4000000<=p) (i:v<=1000000000000)
  (h: ∀(a b:Int),step (a,b)=bif bif bif decide (a>0)then decide (b>0)else false then decide (b<1000000000000)else false then some (.again (w64 (a - 1),if 1000000000000<w64 (10*b)then 1000000000000 else w64 (10*b)))else some (.out b)):
  Nf step (p,(v:Int))=some (.out ((Ig p.toNat v:Nat):Int)):=by
 have o:Tf=1000000000000:=rfl;refine Zv (fun s=> ∃(a:Int) (b:Nat),s=(a,(b:Int))/\a<=4000000/\ -4000000<=a/\b<=1000000000000/\Ig a.toNat b=Ig p.toNat v) (fun s=>s.1.toNat) _ ?_ ⟨p,v,rfl,n,d,i,rfl⟩;rintro _ ⟨a,b,rfl,r,f,q,c⟩;rw[h];by_cases e:a>0
 ·obtain⟨k,l⟩: ∃k,a.toNat=k+1:=⟨a.toNat - 1,by omega⟩;rw[l,Ig]at c;rw[Ea e,Ca];by_cases g:b=0\/Tf<=b
  ·grind
  ·rw[Ja g]at c;have m:decide (((b:Nat):Int)>0)=true:=Ea (by omega);have j:decide (((b:Nat):Int)<1000000000000)=true:=Ea (by omega);rw[m,Ca,j,Ca];refine .inl ⟨_,rfl,⟨a - 1,min Tf (10*b),?_,by omega,by omega,by omega,?_⟩,by simp only;rw[zJ (by omega) (by omega)];omega⟩
   ·rw[zJ (by omega) (by omega),zJ (by omega) (by omega)]
    grind
   grind
 ·rw[Ra e,Ba];refine .inr (.inl ⟨_,rfl,?_⟩);rw[<-c,show a.toNat=0 by omega];rfl
structure NumP where
 sg:Str
 D:Str
 F:Option Str
 X:Option (UInt8×Str×Str)
def dotS:Option Str->Str
 |none=>[]
 |some f=>46::f
def expT:Option (UInt8×Str×Str)->Str
 |none=>[]
 |some (e,s,x)=>e::(s++x)
def NumP.txt(n:NumP):Str:=n.sg++(n.D++(dotS n.F++expT n.X))
def sgB(s:Str):Bool:=s==[]||s==[43]||s==[45]
def NumP.ok(n:NumP):Bool:=sgB n.sg&&n.D.all digB&&(match n.F with|none=> !n.D.isEmpty|some f=> !f.isEmpty&&f.all digB)&&
 (match n.X with|none=>true|some (e,s,x)=>(e==101||e==69)&&sgB s&& !x.isEmpty&&x.all digB)
def expV:Option (UInt8×Str×Str)->Int
 |none=>0
 |some (_,s,x)=>if s==[45]then -((capF 1048576 0 x:Nat):Int)else((capF 1048576 0 x:Nat):Int)
def thoV(A:Str)(p:Int):Nat:=Ig p.toNat (capF Tf 0 (if p<0 then A.take ((A.length:Int)+p).toNat else A))
def NumP.val(n:NumP):Int:=
 let v:=thoV (n.D++n.F.getD []) (3+expV n.X - ((n.F.getD []).length:Int))
 if n.sg==[45]then -(v:Int)else(v:Int)
theorem Oq{s:Str}(h:sgB s=true):s=[]\/s=[43]\/s=[45]:=by
 unfold sgB at h
 grind
theorem rJ{s q:Str}(h:sgB s=true)(b: ∀c r,q=c::r->List.contains [43,45] c=false):Lib.trimLeftS (s++q) [43,45]=q:=by
 have a:Lib.trimLeftS q [43,45]=q:=by
  unfold Lib.trimLeftS;cases q with
  |nil=>rfl
  |cons c r=>simp_all
 rcases Oq h with rfl|rfl|rfl
 ·exact a
 ·show List.dropWhile _ (43::q)=_;rw[yc];exact a
 ·show List.dropWhile _ (45::q)=_;rw[yc];exact a
theorem sK{e:UInt8}(he:e=101\/e=69)(t:Str): ∀(l:Str),(l.all fun b=>digB b||b==46)=true->Lib.indexAny (l++e::t) [101,69]=(l.length:Int)
 |[],_=>by
  rw[Ub,Lib.indexAny]
  grind
 |c::l,h=>by
  rw[Rc,Fa]at h;have hc:List.contains [101,69] c=false:=by
   have: ∀n:Nat,n<256->(digB (UInt8.ofNat n)||UInt8.ofNat n==46)=true->List.contains [101,69] (UInt8.ofNat n)=false:=by decide+kernel
   have:=this c.toNat (Bb c);rw[Nc]at this;exact this h.1
  rw[Xa,Lib.indexAny,hc,sK he t l h.2]
  grind
theorem UJ{l:Str}(h:l.all digB=true):(l.all fun b=>digB b||b==46)=true:=by
 grind
theorem gu{l:Str}(h: ∀b∈l,b.toNat<128):Ug l=true:=by
 unfold Ug
 grind
theorem gX{l:Str}(h:Ug l=true): ∀b∈l,b.toNat<128:=by
 unfold Ug at h
 grind
theorem KU{D:Str}(a:D.all digB=true)(F:Option Str): ∃f,Lib.cut (D++dotS F) [46]=(D,F.getD [],f):=by
 unfold Lib.cut;rw[XA];cases F with
 |none=> rw[show dotS none=[]from rfl,ja,nD _ a,Ja (by decide)];simp_all
 |some g=> rw[show dotS (some g)=46::g from rfl,oD _ _ a,Ka (by omega)];simp_all
theorem dL {D:Str} {F:Option Str} {E:Int} (w:D.all digB=true) (y:(F.getD []).all digB=true) (R:D.length+(F.getD []).length<=50000) (Q:E<=2000000) (C: -2000000<=E) (s:UInt8) (r:Str)
  (M:((s.toNat:Int)==45)=(r==[45])) (u:short (D++dotS F)=true):
  (zb (cutF (D++dotS F,[46])) fun c=>
 need (Zf c.1.length c.2.1.length)<|
 zS (X:=Str×Int) (
   bif decide (w64 ((3+E) - (c.2.1.length:Int))<0)then
    need (decide (0<=(if w64 (((c.1++c.2.1).length:Int)+w64 ((3+E) - (c.2.1.length:Int)))>0 then w64 (((c.1++c.2.1).length:Int)+w64 ((3+E) - (c.2.1.length:Int)))else 0))&&decide ((if w64 (((c.1++c.2.1).length:Int)+w64 ((3+E) - (c.2.1.length:Int)))>0 then w64 (((c.1++c.2.1).length:Int)+w64 ((3+E) - (c.2.1.length:Int)))else 0)<=((c.1++c.2.1).length:Int)))<|
    some (LX.out (List.take (if w64 (((c.1++c.2.1).length:Int)+w64 ((3+E) - (c.2.1.length:Int)))>0 then w64 (((c.1++c.2.1).length:Int)+w64 ((3+E) - (c.2.1.length:Int)))else 0).toNat (c.1++c.2.1),w64 ((3+E) - (c.2.1.length:Int))))
   else
    some (LX.out (c.1++c.2.1,w64 ((3+E) - (c.2.1.length:Int))))) fun j=>
 need (decide (j.1.length<=maxLen))<|
 Za (fun(d:Int×Int)=>
   bif decide (d.2<(j.1.length:Int))then
    need (decide (0<=d.2)&&decide (d.2<(j.1.length:Int)))<|
    zb j.1[d.2.toNat]? fun g=>
    some (LO.again (if 1000000000000<w64 (w64 (10*d.1)+w64 (wu8 ((g.toNat:Int) - 48)))then 1000000000000 else w64 (w64 (10*d.1)+w64 (wu8 ((g.toNat:Int) - 48))),w64 (d.2+1)))
   else
    some (LO.out d.1):Int×Int->Option (LO (Int×Int) (Int) _)) (0,0) fun l=>
 Za (fun(e:Int×Int)=>
   bif bif bif decide (e.1>0)then decide (e.2>0)else false then decide (e.2<1000000000000)else false then
    some (LO.again (w64 (e.1 - 1),if 1000000000000<w64 (10*e.2)then 1000000000000 else w64 (10*e.2)))
   else
    some (LO.out e.2):Int×Int->Option (LO (Int×Int) (Int) _)) (j.2,l) fun h=>
 zS (X:=Int) (
   bif (s.toNat:Int)==45 then
    some (LX.out (w64 (0 - h)))
   else
    some (LX.out h)) fun k=>
 some k)=some (if r==[45]then -((thoV (D++F.getD []) (3+E - ((F.getD []).length:Int)):Nat):Int)else((thoV (D++F.getD []) (3+E - ((F.getD []).length:Int)):Nat):Int)):=by
 obtain⟨f,m⟩:=KU w F;have O:cutF (D++dotS F,[46])=some (D,F.getD [],f):=by unfold cutF;rw[zm (by exact u)];exact congrArg some m
 have x:maxLen=9223372036854775807:=rfl;have t:Tf=1000000000000:=rfl;simp only[zb,O,Aa];generalize F.getD []=G at*;rw[zm (zO.2 (by omega))];obtain⟨p,L⟩: ∃p:Int,p=3+E - (G.length:Int):=⟨_,rfl⟩;rw[<-L,zJ (n:=p) (by omega) (by omega)];have S:(D++G).all digB=true:=by rw[Cg,w,y];rfl
 have K:(D++G).length<=50000:=by rw[Ga];omega
 generalize D++G=A at*;have H: ∀B:Str,B.all digB=true->B.length<=50000->(need (decide (B.length<=maxLen))<|
 Za (fun(d:Int×Int)=>
   bif decide (d.2<(B.length:Int))then
    need (decide (0<=d.2)&&decide (d.2<(B.length:Int)))<|
    (B[d.2.toNat]?).bind fun g=>
    some (LO.again (if 1000000000000<w64 (w64 (10*d.1)+w64 (wu8 ((g.toNat:Int) - 48)))then 1000000000000 else w64 (w64 (10*d.1)+w64 (wu8 ((g.toNat:Int) - 48))),w64 (d.2+1)))
   else
    some (LO.out d.1):Int×Int->Option (LO (Int×Int) (Int) _)) (0,0) fun l=>
 Za (fun(e:Int×Int)=>
   bif bif bif decide (e.1>0)then decide (e.2>0)else false then decide (e.2<1000000000000)else false then
    some (LO.again (w64 (e.1 - 1),if 1000000000000<w64 (10*e.2)then 1000000000000 else w64 (10*e.2)))
   else
    some (LO.out e.2):Int×Int->Option (LO (Int×Int) (Int) _)) (p,l) fun h=>
 zS (X:=Int) (
   bif (s.toNat:Int)==45 then
    some (LX.out (w64 (0 - h)))
   else
    some (LX.out h)) fun k=>
 some k)=some (if r==[45]then -((Ig p.toNat (capF Tf 0 B):Nat):Int)else((Ig p.toNat (capF Tf 0 B):Nat):Int)):=by
  intro B J z;have o:=Bj Tf B 0 (Cc _);rw[zm (Ea (by omega))];rw[Ze (aM (cap:=Tf) J (by omega) (by omega) (fun v i U=> ?_) (fun v=> ?_))]
  ·have N:=oF p.toNat _ o;rw[Ze (NP (by omega) (by omega) (by omega) (fun a b=> ?_)),M]
   ·cases T:r==[45]with
    |true=> rw[Ca,zh,zJ (by omega) (by omega),Ka rfl];congr 1;omega
    |false=>simp_all
   ·simp only
  ·simp_all
  ·grind
 unfold thoV;by_cases q:p<0
 ·rw[Ea q,Ca,Ka q];have P:(if w64 ((A.length:Int)+p)>0 then w64 ((A.length:Int)+p)else 0)=((((A.length:Int)+p).toNat:Nat):Int):=by rw[zJ (by omega) (by omega)];split<;>omega
  rw[P,zm (by grind),zh,Sa]
  grind
 ·rw[Ra q,Ba,Ja q,zh]
  grind
theorem pR{n:NumP}(h:n.ok=true)(hl:n.txt.length<=40000):qc n.txt=some n.val:=by
 obtain⟨sg,D,F,X⟩:=n;unfold NumP.ok at h;simp only[Fa]at h;obtain⟨⟨⟨hsg,hD⟩,hFo⟩,hX⟩:=h;have hF:(F.getD []).all digB=true:=by
  cases F with
  |none=>rfl
  |some f=>grind
 have hne:D++dotS F≠[]:=by
  cases F with
  |none=>simp_all
  |some f=>simp[dotS]
 have hpar:((D++dotS F).all fun b=>digB b||b==46)=true:=by
  rw[Cg,UJ hD];cases F with
  |none=>rfl
  |some f=>rw[show dotS (some f)=46::f from rfl,Rc,UJ (show f.all digB=true from hF)];rfl
 have hlen:sg.length+(D.length+((dotS F).length+(expT X).length))<=40000:=by
  have:(NumP.txt ⟨sg,D,F,X⟩).length=sg.length+(D.length+((dotS F).length+(expT X).length)):=by unfold NumP.txt;simp only[Ga]
  omega
 have hFl:(F.getD []).length<=(dotS F).length:=by
  cases F with
  |none=>grind
  |some f=>show f.length<=(46::f).length;grind
 have hhead: ∀c r,D++(dotS F++expT X)=c::r->List.contains [43,45] c=false:=by
  rw[<-Oa];intro c r e;cases hq:D++dotS F with
  |nil=>grind
  |cons d q=>
   rw[hq,Xa]at e;injection e with e1 _;subst e1;rw[hq,Rc,Fa,Jc]at hpar;rcases hpar.1 with hd|hd
   ·exact(Qt hd).2.2.2.2
   grind
 have hy1: ∃b,geti (NumP.txt ⟨sg,D,F,X⟩) 0=some b/\(((b.toNat:Int)==45)=(sg==[45])):=by
  unfold NumP.txt;show∃b,geti (sg++(D++(dotS F++expT X))) 0=some b/\_;rcases Oq hsg with rfl|rfl|rfl
  ·cases hq:D++(dotS F++expT X)with
   |nil=>simp_all
   |cons c r=>
    refine⟨c,rfl,?_⟩;have:=hhead c r hq;refine Ha.2 (fun e=> ?_);have:c=45:=Oe.1 (by grind)
    grind
  ·exact⟨43,rfl,rfl⟩
  ·exact⟨45,rfl,rfl⟩
 obtain⟨y1,hg,hyy⟩:=hy1;have t1:Pi (NumP.txt ⟨sg,D,F,X⟩,[43,45])=some (D++(dotS F++expT X)):=by unfold Pi;rw[zm (show(short ([43,45]:Str)&&Ug [43,45])=true by decide)];exact congrArg some (rJ hsg hhead)
 unfold qc;simp only[zb,hg,t1,Aa];have hsh:short (D++dotS F)=true:=Ea (by grind);have hasc:Ug (D++dotS F)=true:=vK hpar;cases X with
 |none=>
  have t2:di (D++(dotS F++expT none),[101,69])=some (-1):=by show di (D++(dotS F++[]),[101,69])=_;rw[ja];unfold di;rw[zm (by simp only[hsh,hasc,Lb,ma];decide)];exact congrArg some (mD _ hpar)
  simp only[t2,Aa,show decide ((-1:Int)>=0)=false from rfl,Ba,zh];rw[show D++(dotS F++expT none)=D++dotS F by show D++(dotS F++[])=_;grind];have:=dL (E:=0) hD hF (by omega) (by omega) (by omega) y1 sg hyy hsh;exact this
 |some ex=>
  obtain⟨e,s,x⟩:=ex;simp only[Fa]at hX;obtain⟨⟨⟨he,hs⟩,hxne⟩,hx⟩:=hX;have he':e=101\/e=69:=by rw[Jc,Cb,Cb]at he;exact he
  have hexl:(expT (some (e,s,x))).length=1+(s.length+x.length):=by show(e::(s++x)).length=_;rw[Ia,Ga];omega
  have hass:D++(dotS F++expT (some (e,s,x)))=(D++dotS F)++e::(s++x):=by rw[<-Oa];rfl
  have hasx:Ug ((D++dotS F)++e::(s++x))=true:=by
   refine gu (fun b hb=> ?_);rcases Jd.1 hb with hb|hb
   ·exact gX hasc b hb
   ·rcases Nb.1 hb with hb|hb
    ·subst hb;rcases he' with rfl|rfl<;>decide
    ·rcases Jd.1 hb with hb|hb
     ·rcases Oq hs with rfl|rfl|rfl
      ·cases hb
      ·simp_all
      simp_all
     ·have:=Un (Rb.1 hx b hb);omega
  have hlt:((D++dotS F)++e::(s++x)).length<=40000:=by rw[Ga,Ia,Ga,Ga];omega
  have t2:di (D++(dotS F++expT (some (e,s,x))),[101,69])=some ((D++dotS F).length:Int):=by rw[hass];unfold di;show need (short ((D++dotS F)++e::(s++x))&&short [101,69]&&Ug ((D++dotS F)++e::(s++x))&&Ug [101,69]) _=_;rw[show short ((D++dotS F)++e::(s++x))=true from Ea (by omega),hasx];exact congrArg some (sK he' (s++x) _ hpar)
  have hdrop:List.drop (D++dotS F).length ((D++dotS F)++e::(s++x))=e::(s++x):=List.drop_left;have hdrop1:List.drop ((D++dotS F).length+1) ((D++dotS F)++e::(s++x))=s++x:=by rw[<-Ee,hdrop];rfl
  have hd0:(D++dotS F).length<=40000:=by rw[Ga];omega
  have hw1:w64 (((D++dotS F).length:Int)+1)=(((D++dotS F).length+1:Nat):Int):=by rw[zJ (by omega) (by omega)];omega
  simp only[t2,Aa];rw[Ea (show(((D++dotS F).length:Nat):Int)>=0 by omega),Ca,hw1,hass];have hlt2:(D++dotS F).length+1<=((D++dotS F)++e::(s++x)).length:=by rw[Ga (bs:=e::(s++x)),Ia];omega
  rw[zm (by grind),Sa,hdrop1];have hxh: ∀c r,x=c::r->List.contains [43,45] c=false:=by intro c r e;subst e;rw[Rc,Fa]at hx;exact(Qt hx.1).2.2.2.2
  have t4:Pi (s++x,[43,45])=some x:=by unfold Pi;rw[zm (show(short ([43,45]:Str)&&Ug [43,45])=true by decide)];exact congrArg some (rJ hs hxh)
  have hxl:x.length<=40000:=by omega
  have hml:maxLen=9223372036854775807:=rfl;simp only[t4,Aa];rw[zm (Ea (by omega))];have hcap:=Bj 1048576 x 0 (Cc _);rw[Ze (aM (cap:=1048576) hx (by omega) (by omega) (fun v i hi=> ?_) (fun v=> ?_))]
  ·have hg8: ∃y8,geti ((D++dotS F)++e::(s++x)) (((D++dotS F).length+1:Nat):Int)=some y8/\(((y8.toNat:Int)==45)=(s==[45])):=by
    have hgg: ∀(b:UInt8) (r:Str),s++x=b::r->geti ((D++dotS F)++e::(s++x)) (((D++dotS F).length+1:Nat):Int)=some b:=by
     intro b r e1;unfold geti;have:((D++dotS F)++e::(s++x))[(D++dotS F).length+1]? =some b:=by rw[Xg (by omega),show(D++dotS F).length+1 - (D++dotS F).length=1 by omega,ve,e1];rfl
     rw[Sa,this,Ea (by omega)];rfl
    rcases Oq hs with rfl|rfl|rfl
    ·cases hxx:x with
     |nil=>grind
     |cons c r=>
      refine⟨c,by grind,?_⟩;have:=hxh c r hxx;refine Ha.2 (fun e=> ?_);have h45:c=45:=Oe.1 (by grind)
      grind
    ·grind
    ·grind
   obtain⟨y8,h8,h8'⟩:=hg8;simp only[h8,Aa];rw[h8'];have hj:(bif s==[45]then(some (LX.out ((D++dotS F)++e::(s++x),3,w64 (0 - ((capF 1048576 0 x:Nat):Int)))):Option (LX (Str×Int×Int) (LX (Str×Int) Int)))else some (LX.out ((D++dotS F)++e::(s++x),3,((capF 1048576 0 x:Nat):Int))))
     =some (LX.out ((D++dotS F)++e::(s++x),3,expV (some (e,s,x)))):=by
    unfold expV;simp only;cases s==[45]with
    |true=>rw[Ca,Ka rfl,zJ (by omega) (by omega)];simp
    |false=>grind
   have hEb:expV (some (e,s,x))<=1048576/\ -1048576<=expV (some (e,s,x)):=by unfold expV;simp only;split<;>omega
   refine(congrArg (fun o=>zS (zS o _) _) hj).trans ?_;simp only[zh];rw[show decide ((((D++dotS F).length:Nat):Int)<=((((D++dotS F)++e::(s++x)).length:Nat):Int))=true from Ea (by omega),zm (by rfl)];simp only[zh,Sa,List.take_left];rw[zJ (by omega) (by omega)];exact dL (E:=expV (some (e,s,x))) hD hF (by omega) (by omega) (by omega) y1 sg hyy hsh
  ·simp_all
  ·grind
theorem Qv {S X R:Type} {step:S->Option (LO S X R)} {k:X->Option R} (Inv:S->Prop) (b:S->Nat) (y:R)
  (h: ∀s,Inv s->(∃s',step s=some (.again s')/\Inv s'/\b s'<b s)\/(∃x,step s=some (.out x)/\k x=some y)\/step s=some (.ret y)) {s:S} (d:Inv s):Za step s k=some y:=by
 have c: ∀(m:Nat) (s:S),b s<m->Inv s-> ∃r:LX X R,qy step m s=some r/\r.go k=some y:=by
  intro m
  induction m with
  |zero=>intro s h;omega
  |succ m i=>
   intro s f d;simp only[qy];rcases h s d with⟨s',a,e,g⟩|⟨x,a,e⟩|a
   ·grind
   ·simp_all
   simp_all
 obtain⟨r,a,e⟩:=c (b s+1) s (by omega) d;rw[Ci (mh a)];exact e
theorem AO(p:UInt8->Bool): ∀l:Str,past p l=l.dropWhile p
 |[]=>rfl
 |c::r=>by
  rw[past,yc];cases h:p c with
  |true=>exact AO p r
  |false=>rfl
theorem Wq(p:UInt8->Bool)(l:Str):l.takeWhile p++past p l=l:=by rw[AO,List.takeWhile_append_dropWhile]
theorem Iy(p:UInt8->Bool): ∀l:Str,(l.takeWhile p).all p=true
 |[]=>rfl
 |c::r=>by simp_all
def sgOf(l:Str):Str:=if Lf (atS l 0)then [atS l 0]else []
theorem XI(l:Str):sgOf l++unsign l=l:=by
 unfold sgOf unsign;cases h:Lf (atS l 0)with
 |false=>rfl
 |true=>
  rw[Ka rfl,Ka rfl];cases l with
  |nil=>exact absurd h (by decide)
  |cons c r=>rfl
theorem NT(l:Str):sgB (sgOf l)=true:=by
 unfold sgOf;cases h:Lf (atS l 0)with
 |false=>rfl
 |true=> rw[Ka rfl];unfold Lf at h;rw[Jc,Cb,Cb]at h;rcases h with h|h<;>rw[h]<;>rfl
def dotP(q:Str):Option Str:=if atS q 0==46&&digB (atS q 1)then some ((q.drop 1).takeWhile digB)else none
def expP(q:Str):Option (UInt8×Str×Str):=
 if(atS q 0==101||atS q 0==69)&&digB (atS (unsign (q.drop 1)) 0)then some (atS q 0,sgOf (q.drop 1),(unsign (q.drop 1)).takeWhile digB)else none
def numP(l:Str):NumP:=⟨sgOf l,(unsign l).takeWhile digB,dotP (past digB (unsign l)),expP (zV (past digB (unsign l))).1⟩
theorem kY(q:Str):dotS (dotP q)++(zV q).1=q/\(zV q).2=(dotP q).isNone:=by
 unfold dotP zV;cases h:atS q 0==46&&digB (atS q 1)with
 |false=>exact⟨rfl,rfl⟩
 |true=>
  rw[Ka rfl,Ka rfl];cases q with
  |nil=>exact absurd h (by decide)
  |cons c r=> rw[Fa,Cb]at h;refine⟨?_,rfl⟩;show(46::List.takeWhile digB r)++past digB r=c::r;rw[Xa,Wq,show c=46 from h.1]
theorem kV(q:Str):expT (expP q)++(match expS q with|some r=>r|none=>q)=q:=by
 unfold expP expS;cases a:atS q 0==101||atS q 0==69 with
 |false=>rfl
 |true=>
  cases b:digB (atS (unsign (q.drop 1)) 0)with
  |false=>rfl
  |true=>
   simp only[Bool.and_self,Md];cases q with
   |nil=>exact absurd a (by decide)
   |cons c r=> show(c::(sgOf r++List.takeWhile digB (unsign r)))++past digB (unsign r)=c::r;rw[Xa,Oa,Wq,XI]
theorem AA(l:Str):(numP l).txt++(zC l).1=l:=by
 have c:=(kY (past digB (unsign l))).1;have b:=kV (zV (past digB (unsign l))).1;have a:(zC l).1=(match expS (zV (past digB (unsign l))).1 with|some r=>r|none=>(zV (past digB (unsign l))).1):=by unfold zC;simp only;cases expS (zV (past digB (unsign l))).1<;>rfl
 rw[a];show(sgOf l++(List.takeWhile digB (unsign l)++(dotS (dotP (past digB (unsign l)))++expT (expP (zV (past digB (unsign l))).1))))++_=l;rw[Oa,Oa,Oa,b,c,Wq,XI]
theorem EC{p:UInt8->Bool}{q:Str}(h:p (atS q 0)=true)(a:p 0=false):(q.takeWhile p).isEmpty=false:=by
 cases q with
 |nil=>rw[show atS [] 0=0 from rfl,a]at h;cases h
 |cons c r=>rw[Gg,Ka (show p c=true from h)];rfl
theorem Tx{l:Str}(h:nbS l=true):(numP l).ok=true:=by
 unfold NumP.ok numP;simp only[NT,Iy,ma,Fa];refine⟨?_,?_⟩
 ·unfold dotP;cases a:atS (past digB (unsign l)) 0==46&&digB (atS (past digB (unsign l)) 1)with
  |true=> rw[Ka rfl];simp only[Iy,Lb];rw[Fa]at a;rw[EC (p:=digB) (by rw[QB];exact a.2) (by decide)];rfl
  |false=>
   rw[Ja (by decide)];simp only;cases b:digB (atS (unsign l) 0)with
   |true=>rw[EC b (by decide)];rfl
   |false=>
    exfalso;have f:past digB (unsign l)=unsign l:=by
     cases e:unsign l with
     |nil=>rfl
     |cons c r=>rw[e]at b;rw[past,Ja (by rw[show digB c=false from b];decide)]
    rw[f]at a;unfold nbS undot at h;cases d:atS (unsign l) 0==46 with
    |false=>grind
    |true=>
     rw[d,Ka rfl,QB]at h
     grind
 ·unfold expP;cases a:(atS (zV (past digB (unsign l))).1 0==101||atS (zV (past digB (unsign l))).1 0==69)&&digB (atS (unsign ((zV (past digB (unsign l))).1.drop 1)) 0)with
  |false=>rfl
  |true=> rw[Ka rfl];rw[Fa]at a;simp only[a.1,NT,Iy,Lb,ma];rw[EC a.2 (by decide)];rfl
theorem zCJ{n:NumP}(h:n.ok=true):n.txt≠[]:=by
 obtain⟨c,D,F,X⟩:=n;unfold NumP.ok at h;simp only[Fa]at h;intro e;unfold NumP.txt at e;simp only[List.append_eq_nil_iff]at e;obtain⟨g,b,a,d⟩:=e;subst b;cases F with
 |none=>grind
 |some f=>cases a
theorem yZ{c:UInt8}{r:Str}(h:nbS (c::r)=true):(zC (c::r)).1<:+r:=by
 have e:=AA (c::r);have b:=zCJ (Tx h);cases a:(numP (c::r)).txt with
 |nil=>grind
 |cons d t=>
  grind
def zG(l:Str):ze×Str:=
 if nmS (zC l).1 then(⟨12,[],(numP l).val,(zo (zC l).1).1,(zC l).2⟩,(zo (zC l).1).2)
 else if atS (zC l).1 0==37 then(⟨11,[],(numP l).val,[],false⟩,(zC l).1.drop 1)
 else(⟨10,[],(numP l).val,[],(zC l).2⟩,(zC l).1)
theorem CE{s l t e:Str}(a:l<:+s)(h:t++e=l):List.drop (beh s l) (List.take (beh s e) s)=t:=by
 obtain⟨p,rfl⟩:=a;subst h;have c:beh (p++(t++e)) (t++e)=p.length:=by unfold beh;simp only[Ga];omega
 have b:beh (p++(t++e)) e=(p++t).length:=by unfold beh;simp only[Ga];omega
 grind
theorem JV{s l:Str}(hs:s.length<=40000)(hl:l<:+s)(h:nbS l=true):ZM (sr s l)=some ((zG l).1,sr s (zG l).2):=by
 have hsb:s.length<=big:=by unfold big;omega
 have he:=rO hl;have hle:=hl.length_le;have hsp:=AA l;have hel:(zC l).1.length<=l.length:=by have:=congrArg List.length hsp;rw[Ga]at this;omega
 have htl:(numP l).txt.length<=40000:=by have:=congrArg List.length hsp;rw[Ga]at this;omega
 unfold ZM;rw[jV hsb hl];simp only[zb,Aa];have h1:(beh s l:Int)<=(beh s (zC l).1:Int):=by unfold beh;omega
 have h2:=Eh s (zC l).1;rw[zm (by simp_all),Sa,Sa,CE hl hsp,pR (Tx h) htl];simp only[Aa];rw[show zN (0,sr s (zC l).1)=some (nmS (zC l).1)from FI (k:=0) hsb he (by omega)];simp only[Aa];unfold zG;cases hn:nmS (zC l).1 with
 |true=> rw[Ca,ww hsb he,Ka rfl];rfl
 |false=>
  rw[Ba,Og hsb he,Ja (by decide)];simp only[Aa,zC0];cases h37:atS (zC l).1 0==37 with
  |true=> rw[Ca,zh,kr hsb he (by grind),Ka rfl]
  |false=>simp_all
theorem Cz(l:Str):(zo l).1.length<=4*l.length:=by
 match l with
 |[]=>rw[qR];grind
 |c::r=>
  rw[zQ];split
  ·have:=Cz r
   grind
  ·split
   ·have b:=Zg r;have a:=Sn r;have:=Cz (zt r).2
    grind
   grind
termination_by l.length
decreasing_by
 all_goals grind
def qG(l:Str):ze×Str:=
 if atS (zo l).2 0==40 then
  (if(lowS (zo l).1==[117,114,108])&& !(atS (past spB ((zo l).2.drop 1)) 0==34||atS (past spB ((zo l).2.drop 1)) 0==39)
  then(og (urlS (past spB ((zo l).2.drop 1))).1,(urlS (past spB ((zo l).2.drop 1))).2)
  else(⟨2,(zo l).1,0,[],false⟩,(zo l).2.drop 1))
 else(⟨1,(zo l).1,0,[],false⟩,(zo l).2)
theorem zAo{s q:Str}(m:s.length<=40000)(g:q<:+s):ZK (sr s q)=some ((qG q).1,sr s (qG q).2):=by
 have a:s.length<=big:=by unfold big;omega
 have e:(zo q).2<:+s:=(Jj q).trans g;have l:=Cz q;have i:=g.length_le;have f:(zo q).1.length<=big:=by unfold big;omega
 unfold ZK;rw[ww a g];simp only[zb,Aa,Og a e];unfold bne qG;rw[zC1];cases d:atS (zo q).2 0==40 with
 |false=>rfl
 |true=>
  have c:atS (zo q).2 0≠0:=by rw[Cb.1 d];decide
  rw[Ya,Ba,Ka rfl,kr a e c,iG f (by decide),Yp];simp only[Aa];have b:=ai e 1;cases n:lowS (zo q).1==[117,114,108]with
  |false=>rfl
  |true=>
   rw[Ca,Ay a b,ma];have k:=Yi spB b;simp only[Aa,Og a k];rw[bT,aT];cases j:atS (past spB ((zo q).2.drop 1)) 0==34 with
   |true=>rfl
   |false=>
    cases h:atS (past spB ((zo q).2.drop 1)) 0==39 with
    |true=>rfl
    |false=> rw[urlR a b];rfl
theorem AX{c:UInt8}{r:Str}(h:letB c=true\/escS (c::r)=true):(zo (c::r)).2<:+r:=by
 rw[zQ];split
 ·exact Jj r
 ·rename_i a;rw[Ka (h.resolve_left a)];exact(Jj _).trans (Zh r)
theorem AL{c:UInt8}{r:Str}(h:nmS (c::r)=true):letB c=true\/escS (c::r)=true:=by
 unfold nmS at h;cases a:atS (c::r) 0==45 with
 |true=> left;rw[show c=45 from Cb.1 a];decide
 |false=>
  rw[a,Ja (by decide),Jc]at h;rcases h with h|h
  ·left;unfold letB;rw[show fstB c=true from h];rfl
  ·exact .inr h
theorem wX{c:UInt8}{r:Str}(h:nmS (c::r)=true):(qG (c::r)).2<:+r:=by
 have b:=AX (AL h);have a:(zo (c::r)).2.drop 1<:+r:=(Ke 1 _).trans b;unfold qG;split
 ·split
  ·exact(fD _).trans ((Dn spB _).trans a)
  ·exact a
 ·exact b
def nxU(c:UInt8)(r:Str):ze×Str:=
  if nmS (c::r)then qG (c::r)
  else if mf c==0 then(⟨9,[c],0,[],false⟩,r)
  else(ag (mf c),r)
def nxT(c:UInt8)(r:Str):ze×Str:=
  if nbS (c::r)then zG (c::r)
  else if [45,45,62].isPrefixOf (c::r)then(ag 15,(c::r).drop 3)
  else if [60,33,45,45].isPrefixOf (c::r)then(ag 14,(c::r).drop 4)
  else if c==64&&nmS r then(⟨3,(zo r).1,0,[],false⟩,(zo r).2)
  else nxU c r
def Zu:Str->ze×Str
 |[]=>(⟨0,[],0,[],false⟩,[])
 |c::r=>
  if spB c then(ag 13,past spB (c::r))
  else if c==34||c==39 then(Ui (z8 c r).1,(z8 c r).2)
  else if c==35&&(letB (atS r 0)||escS r)then(⟨4,(zo r).1,0,[],nmS r⟩,(zo r).2)
  else nxT c r
theorem uq(c:UInt8)(r:Str):Zu (c::r)=
  if spB c then(ag 13,past spB (c::r))
  else if c==34||c==39 then(Ui (z8 c r).1,(z8 c r).2)
  else if c==35&&(letB (atS r 0)||escS r)then(⟨4,(zo r).1,0,[],nmS r⟩,(zo r).2)
  else if nbS (c::r)then zG (c::r)
  else if [45,45,62].isPrefixOf (c::r)then(ag 15,(c::r).drop 3)
  else if [60,33,45,45].isPrefixOf (c::r)then(ag 14,(c::r).drop 4)
  else if c==64&&nmS r then(⟨3,(zo r).1,0,[],false⟩,(zo r).2)
  else if nmS (c::r)then qG (c::r)
  else if mf c==0 then(⟨9,[c],0,[],false⟩,r)
  else(ag (mf c),r):=rfl
theorem wZ{c:UInt8}{r:Str}(h:nbS (c::r)=true):(zG (c::r)).2<:+r:=by
 have a:=yZ h;unfold zG;split
 ·exact(Jj _).trans a
 ·split
  ·exact(Ke 1 _).trans a
  ·exact a
theorem Xi(c:UInt8)(r:Str):(Zu (c::r)).2<:+r:=by
 rw[uq];split
 ·rename_i h;show past spB (c::r)<:+r;rw[past,Ka h];exact Dn spB r
 ·split
  ·exact TA c r
  ·split
   ·exact Jj r
   ·split
    ·rename_i h;exact wZ h
    ·split
     ·exact Ke 2 r
     ·split
      ·exact Ke 3 r
      ·split
       ·exact Jj r
       ·split
        ·rename_i h;exact wX h
        grind
theorem NW(c:UInt8):decide (Lib.indexByte [58,59,44,91,93,40,41,123,125] c>=0)= !(mf c==0)/\(mf c≠0->wu8 (16+wu8 (Lib.indexByte [58,59,44,91,93,40,41,123,125] c))=mf c):=by
 have: ∀n:Nat,n<256->decide (Lib.indexByte [58,59,44,91,93,40,41,123,125] (UInt8.ofNat n)>=0)= !(mf (UInt8.ofNat n)==0)/\(mf (UInt8.ofNat n)≠0->wu8 (16+wu8 (Lib.indexByte [58,59,44,91,93,40,41,123,125] (UInt8.ofNat n)))=mf (UInt8.ofNat n)):=by decide+kernel
 have:=this c.toNat (Bb c);simp_all
theorem Ai{m q:Str}(h:m.isPrefixOf q=true):m.length<=q.length:=by
 grind
def Gs(s:Str)(X:ze×Str):Option (ze×za):=some (X.1,sr s X.2)
theorem zCU{s q:Str}{c:UInt8}{r:Str}(y:s.length<=40000)(b:q<:+s)(D:q=c::r):qC (sr s q)=some ((Zu q).1,sr s (Zu q).2):=by
 subst D;have a:s.length<=big:=by unfold big;omega
 have A:=Zd b;have J:(c::r).drop 1=r:=rfl;rw[show Zu (c::r)=if spB c then(ag 13,past spB (c::r))else if c==34||c==39 then(Ui (z8 c r).1,(z8 c r).2)else if c==35&&(letB (atS r 0)||escS r)then(⟨4,(zo r).1,0,[],nmS r⟩,(zo r).2)else nxT c r from rfl];unfold qC;simp only[zb,Og a b,Aa];rw[zm nT];simp only[Eu,Aa,bT,aT,zCZ,zC2,xC b,QA,show atS (c::r) 0=c from rfl,oo];cases Q:spB c with
 |true=> rw[Ca,Ay a b,Ka rfl];rfl
 |false=>
  rw[Ba,Ja (by decide)];cases H:c==34||c==39 with
  |true=> rw[Ca,zA0 a b,Ka rfl];rfl
  |false=>
   rw[Ba,Ja (by decide)];have p:zy (1,sr s (c::r))=some (escS r):=dz (k:=1) a b (by omega);have g:zN (1,sr s (c::r))=some (nmS r):=FI (k:=1) a b (by omega);have l:zN (0,sr s (c::r))=some (nmS (c::r)):=FI (k:=0) a b (by omega);have u:(⟨s,w64 ((beh s (c::r):Int)+1)⟩:za)=sr s r:=by rw[lg a b]
   rw[u];have o:((ZA (sr s (c::r))).bind fun w=>
    bif w then
     (ZM (sr s (c::r))).bind fun j=>
     some (j.1,j.2)
    else
     (some ([45,45,62].isPrefixOf (c::r))).bind fun v=>
     bif v then
      some ((⟨15,[],0,[],false⟩:ze),(⟨s,w64 ((beh s (c::r):Int)+3)⟩:za))
     else
      (some ([60,33,45,45].isPrefixOf (c::r))).bind fun t=>
      bif t then
       some ((⟨14,[],0,[],false⟩:ze),(⟨s,w64 ((beh s (c::r):Int)+4)⟩:za))
      else
       (zq (c==64) (zN (1,sr s (c::r))) (default:Bool)).bind fun h=>
       bif bif c==64 then h else false then
        (zU (sr s r)).bind fun f=>
        some ((⟨3,f.1,0,[],false⟩:ze),f.2)
       else
        (zN (0,sr s (c::r))).bind fun i=>
        bif i then
         (ZK (sr s (c::r))).bind fun d=>
         some (d.1,d.2)
        else
         (strings_IndexByte ([58,59,44,91,93,40,41,123,125],wu8 (pk (c::r) 0))).bind fun e=>
         bif decide (e>=0)then
          some ((⟨wu8 (16+wu8 e),[],0,[],false⟩:ze),sr s r)
         else
          need (decide (1<=((c::r).length:Int)))<|
          some ((⟨9,List.take 1 (c::r),0,[],false⟩:ze),sr s r))=
    Gs s (nxT c r):=by
    unfold nxT;simp only[zAF a b,Aa];cases x:nbS (c::r)with
    |true=> rw[Ca,JV y b x,Ka rfl];rfl
    |false=>
     rw[Ba,Ja (by decide)];cases O:[45,45,62].isPrefixOf (c::r)with
     |true=> rw[Ca,Ka rfl,show(3:Int)=((3:Nat):Int)from rfl,Px (n:=3) a b (Ai O)];rfl
     |false=>
      rw[Ba,Ja (by decide)];cases L:[60,33,45,45].isPrefixOf (c::r)with
      |true=> rw[Ca,Ka rfl,show(4:Int)=((4:Nat):Int)from rfl,Px (n:=4) a b (Ai L)];rfl
      |false=>
       rw[Ba,Ja (by decide),g,l];have m: ∀z:Bool,((some z).bind fun h=>bif h then
        (zU (sr s r)).bind fun f=>
        some ((⟨3,f.1,0,[],false⟩:ze),f.2)
       else
        (some (nmS (c::r))).bind fun i=>
        bif i then
         (ZK (sr s (c::r))).bind fun d=>
         some (d.1,d.2)
        else
         (strings_IndexByte ([58,59,44,91,93,40,41,123,125],wu8 (pk (c::r) 0))).bind fun e=>
         bif decide (e>=0)then
          some ((⟨wu8 (16+wu8 e),[],0,[],false⟩:ze),sr s r)
         else
          need (decide (1<=((c::r).length:Int)))<|
          some ((⟨9,List.take 1 (c::r),0,[],false⟩:ze),sr s r))=Gs s (if z then(⟨3,(zo r).1,0,[],false⟩,(zo r).2)else nxU c r):=by
        intro z;unfold nxU;simp only[Aa];cases z with
        |true=> rw[Ca,ww a A];rfl
        |false=>
         rw[Ba,Ja (by decide)];cases G:nmS (c::r)with
         |true=>rw[Ca,zAo y b];rfl
         |false=>
          rw[Ba,Ja (by decide),wm,Dr];have R:(wu8 (c.toNat:Int)).toNat.toUInt8=c:=by rw[Bq,je (Bb c),Sa];exact Nc
          rw[R];obtain⟨K,S⟩:=NW c;simp only[Aa,K];cases M:mf c==0 with
          |true=> rw[Ya,Ba,zm (Ea (by grind))];rfl
          |false=> rw[Va,Ca,S (Ha.1 M)];rfl
       cases N:c==64 with
       |false=> simp_all
       |true=> have:=m (nmS r);simp_all
   cases C:c==35 with
   |false=> simp only[zP,Aa,Ba,lc,Pb];exact o
   |true=>
    simp only[zx,Aa,Ca,Lb,ma,Rt a b,jL];have E:atS (c::r) 1=atS r 0:=rfl;rw[E,p];have F:(bif letB (atS r 0)||escS r then(zN (1,sr s (c::r))).bind fun P=>(zU (sr s r)).bind fun B=>some ((⟨4,B.1,0,[],P⟩:ze),B.2)else Gs s (nxT c r))=Gs s (if(letB (atS r 0)||escS r)then(⟨4,(zo r).1,0,[],nmS r⟩,(zo r).2)else nxT c r):=by
     cases letB (atS r 0)||escS r with
     |false=>rfl
     |true=>rw[Ca,g,ww a A];rfl
    show _=Gs s (if(letB (atS r 0)||escS r)then(⟨4,(zo r).1,0,[],nmS r⟩,(zo r).2)else nxT c r);rw[<-F];cases T:letB (atS r 0)with
    |true=>rfl
    |false=> simp_all
def clsS:Str->Option Str
 |[]=>none
 |c::r=>if c==42&&atS r 0==47 then some (r.drop 1)else clsS r
theorem Xj: ∀(l:Str) {r:Str},clsS l=some r->r<:+l/\r.length+2<=l.length
 |[],r,h=>by cases h
 |c::t,r,h=>by
  unfold clsS at h;split at h
  ·rename_i a;rw[Fa,Cb,Cb]at a;injection h with h;subst h;have:=Us (l:=t) (n:=0) (by rw[a.2];decide);exact⟨(Ke 1 t).trans (Ld c t),by grind⟩
  ·obtain⟨d,b⟩:=Xj t h
   grind
theorem pre2(b:UInt8)(l:Str):([42,47]:Str).isPrefixOf (b::l)=(b==42&&atS l 0==47):=by
 have c:((42:UInt8)==b)=(b==42):=by rw[Gf,Cb,Cb];exact eq_comm
 rw[List.isPrefixOf,c];cases l with
 |nil=>rfl
 |cons d t=>
  have a:((47:UInt8)==d)=(d==47):=by rw[Gf,Cb,Cb];exact eq_comm
  rw[List.isPrefixOf,a,List.isPrefixOf];rw[Lb];rfl
theorem UN: ∀l:Str,Lib.index l [42,47]=match clsS l with|none=> -1|some r=>((l.length - r.length - 2:Nat):Int)
 |[]=>rfl
 |b::l=>by
  rw[Lib.index,pre2,clsS];cases h:b==42&&atS l 0==47 with
  |true=>
   grind
  |false=>
   simp only[Sb,Ad];rw[UN l];cases a:clsS l with
   |none=>rfl
   |some r=>
    have:=(Xj l a).2
    grind
def cmtS(l:Str):Str:=
 if([47,42]:Str).isPrefixOf l then
  (match h:clsS (l.drop 2)with
  |some q=>cmtS q
  |none=>[])
 else l
termination_by l.length
decreasing_by
 have:=(Xj _ h).2
 grind
theorem Yh(l:Str):cmtS l=if([47,42]:Str).isPrefixOf l then(match clsS (l.drop 2)with|some q=>cmtS q|none=>[])else l:=by
 rw[cmtS]
 grind
theorem qg{l:Str}(h:([47,42]:Str).isPrefixOf l=false):cmtS l=l:=by rw[Yh,h];rfl
theorem Xh(l:Str):cmtS l<:+l:=by
 rw[Yh];split
 ·split
  ·rename_i q b;have a:=Xj _ b;have c:=a.2;rw[Ec]at c;exact(Xh q).trans (a.1.trans (Ke 2 l))
  grind
 grind
termination_by l.length
decreasing_by
 grind
theorem Ik(l:Str):cmtS (cmtS l)=cmtS l:=by
 rw[Yh l];split
 ·split
  ·rename_i q a;have b:=(Xj _ a).2;rw[Ec]at b;exact Ik q
  ·exact qg rfl
 ·rename_i h;exact qg (Bool.eq_false_iff.2 h)
termination_by l.length
decreasing_by
 grind
theorem Hu(l:Str):([47,42]:Str).isPrefixOf (cmtS l)=false:=by
 have h:=Ik l;cases b:([47,42]:Str).isPrefixOf (cmtS l)with
 |false=>rfl
 |true=>
  exfalso;rw[Yh (cmtS l),b,Ka rfl]at h;have c:=Ai b;rw[show([47,42]:Str).length=2 from rfl]at c;cases a:clsS ((cmtS l).drop 2)with
  |none=>grind
  |some q=>
   rw[a]at h;have d:=(Xj _ a).2;have e:=(Xh q).length_le
   grind
theorem MO{s q:Str}(hs:s.length<=40000)(hq:q<:+s):Zn (sr s q)=some (sr s (cmtS q)):=by
 have hsb:s.length<=big:=by unfold big;omega
 unfold Zn;refine Qv (fun z=> ∃p,z=sr s p/\p<:+s/\cmtS p=cmtS q) (fun z=>s.length - z.at_.toNat) _ ?_ ⟨q,rfl,hq,rfl⟩;rintro _ ⟨p,rfl,hp,he⟩;rw[zm nT];simp only[zb,xC hp,QA,Aa];rw[Yh p]at he;cases hpre:([47,42]:Str).isPrefixOf p with
 |false=>
  grind
 |true=>
  rw[hpre,Ka rfl]at he;have hl:=Ai hpre;rw[show([47,42]:Str).length=2 from rfl]at hl;have hle:=hp.length_le;have hb:=KE hp hl;have hb2:=Eh s (p.drop 2);rw[Ca];have hw:w64 ((beh s p:Int)+2)=((beh s (p.drop 2):Nat):Int):=by rw[<-hb,zJ (by omega) (by omega)];omega
  rw[hw,zm (by grind),xC (ai hp 2)];have hlen:(p.drop 2).length<=40000:=by rw[Ec];omega
  have hi:Vj (p.drop 2,[42,47])=some (Lib.index (p.drop 2) [42,47]):=by unfold Vj;rw[zm (by exact Ea (show(p.drop 2).length<4294967281 by omega))]
  rw[hi,UN];simp only[Aa];cases hc:clsS (p.drop 2)with
  |none=>
   rw[hc]at he;refine .inr (.inr ?_);rw[<-he];show _=some (LO.ret (⟨s,(beh s []:Int)⟩:za));unfold beh
   grind
  |some r=>
   rw[hc]at he;obtain⟨h1,h2⟩:=Xj _ hc;have hrs:r<:+s:=h1.trans (ai hp 2);rw[Ec]at h2 hlen;simp only;rw[Ra (by omega),Ba];refine .inl ⟨sr s r,?_,⟨r,rfl,hrs,he⟩,?_⟩
   ·rw[Ec,zJ (n:=_+4) (by omega) (by omega)];have:(beh s p:Int)+(((p.length - 2 - r.length - 2:Nat):Int)+4)=((beh s r:Nat):Int):=by unfold beh;omega
    rw[this,zJ (by grind) (by grind)]
   ·show s.length - beh s r<s.length - beh s p;unfold beh;omega
def qz(l:Str):List ze:=
 match h:cmtS l with
 |[]=>[]
 |c::r=>(Zu (c::r)).1::qz (Zu (c::r)).2
termination_by l.length
decreasing_by
 have b:=(Xi c r).length_le;have a:=(Xh l).length_le
 grind
theorem Q4{l:Str}(h:cmtS l=[]):qz l=[]:=by
 rw[qz]
 grind
theorem QP{l:Str}{c:UInt8}{r:Str}(h:cmtS l=c::r):qz l=(Zu (c::r)).1::qz (Zu (c::r)).2:=by
 rw[qz]
 grind
theorem Mq(l:Str):qz (cmtS l)=qz l:=by
 cases h:cmtS l with
 |nil=>rw[Q4 h];exact Q4 (qg rfl)
 |cons c r=> rw[QP h];exact QP (by rw[<-h,Ik])
theorem dE(l:Str):(qz l).length<=l.length:=by
 cases h:cmtS l with
 |nil=>rw[Q4 h];grind
 |cons c r=>
  have b:(Zu (c::r)).2.length<l.length:=by have d:=(Xi c r).length_le;have a:=(Xh l).length_le;rw[h,Ia]at a;omega
  rw[QP h,Ia];have:=dE (Zu (c::r)).2;omega
termination_by l.length
decreasing_by
 all_goals omega
theorem TY: ∀l:Str,(Proofs.Cl.cleanS l).length<=3*l.length:=by
 have: ∀(n:Nat) (l:Str),l.length<=n->(Proofs.Cl.cleanS l).length<=3*l.length:=by
  intro n
  induction n with
  |zero=>
   intro l h;cases l with
   |nil=>rw[Proofs.Cl.cleanS];grind
   |cons c r=>grind
  |succ n ih=>
   intro l h;rw[Proofs.Cl.cleanS.eq_def]
   grind
 exact fun l=>this l.length l (aa _)
def dm(w:Str):List ze×Int:=if 4000<w.length then([],28)else if 1500<(qz (Proofs.Cl.cleanS w)).length then([],4)else(qz (Proofs.Cl.cleanS w),0)
theorem pK{n:Nat}(h:n<=100000):Zc n 1 56=true:=by unfold Zc;grind
theorem PZ(w:Str):Bw w=some (dm w):=by
 unfold Bw dm;by_cases b:4000<w.length
 ·have e:Rj w=some ([],28):=by unfold Rj;rw[Ka b]
  unfold Aw
  grind
 ·have e:Rj w=some (Proofs.Cl.cleanS w,0):=by unfold Rj;rw[Ja b]
  rw[Ja b];have x:=TY w;generalize Proofs.Cl.cleanS w=s at e x;have o:s.length<=40000:=by omega
  unfold Aw;rw[e];simp only[zb,Aa];rw[show((0:Int) != 0)=false from rfl,Ba,sr_0,MO o (Vd s)];simp only[Aa];have f: ∃z:Int×List ze,Za (fun(d:Int×List ze×za)=>
    bif decide (d.2.2.at_<(s.length:Int))then
     bif decide (w64 (d.1+1)>1500)then
      some (LO.ret (4,d.2.1))
     else
      (qC d.2.2).bind fun t=>
      (QO ((t.1,d.2.2.at_,t.2.at_),d.2.1)).bind fun y=>
      (Zn t.2).bind fun A=>
      some (LO.again (w64 (d.1+1),y,A))
    else
     some (LO.out (d.2.1,d.2.2)):Int×List ze×za->Option (LO (Int×List ze×za) (List ze×za) (Int×List ze))) (0,[],sr s (cmtS s)) (fun C=>some (0,C.1))=some z/\
    z=(if 1500<(qz s).length then(4,(qz s).take 1500)else(0,qz s)):=by
   refine⟨_,Qv (fun z=> ∃(a:List ze) (q:Str),z=((a.length:Int),a,sr s q)/\q<:+s/\cmtS q=q/\a.length<=1500/\a++qz q=qz s) (fun z=>s.length - z.2.2.at_.toNat) (if 1500<(qz s).length then(4,(qz s).take 1500)else(0,qz s)) ?_ ⟨[],cmtS s,rfl,Xh s,Ik s,by simp,by rw[Ub,Mq]⟩,rfl⟩;rintro _ ⟨a,q,rfl,m,n,G,i⟩;simp only;have l:=m.length_le;cases q with
   |nil=>
    have B:((beh s []:Nat):Int)=(s.length:Int):=by unfold beh;rw[Eb];rfl
    have k:decide (((beh s []:Nat):Int)<(s.length:Int))=false:=Ra (by omega);simp only[k,Ba];rw[Q4 (qg rfl),ja]at i
    grind
   |cons c r=>
    rw[Ia]at l;have B:beh s (c::r)<s.length:=by unfold beh;rw[Ia];omega
    have k:decide (((beh s (c::r):Nat):Int)<(s.length:Int))=true:=Ea (by omega);have v:w64 ((a.length:Int)+1)=(a.length:Int)+1:=zJ (by omega) (by omega);simp only[k,Ca,v];rw[QP n]at i;have g:=congrArg List.length i;rw[Ga,Ia]at g;by_cases j:a.length=1500
    ·grind
    ·have p:decide ((a.length:Int)+1>1500)=false:=Ra (by omega);simp only[p,Ba,zCU o m rfl,Aa];unfold QO;rw[zm (pK (by simp only;omega))];have h:(Zu (c::r)).2<:+s:=(Xi c r).trans (Zd m);simp only[Aa,MO o h];refine .inl ⟨_,rfl,⟨a++[(Zu (c::r)).1],cmtS (Zu (c::r)).2,?_,(Xh _).trans h,Ik _,by grind,?_⟩,?_⟩
     ·grind
     ·rw[Mq,Oa];exact i
     ·have E:=(Xi c r).length_le;have F:=(Xh (Zu (c::r)).2).length_le;show s.length - beh s (cmtS (Zu (c::r)).2)<s.length - beh s (c::r);unfold beh at*
      grind
  obtain⟨z,D,u⟩:=f
  grind
end Go.Lv.VT
