/- The writing of names. -/
import Derived.Test.YtcdeccnjlkkejaaGreatDoorNam
set_option linter.unusedSimpArgs false
set_option linter.unusedVariables false
namespace Go.Lv.VT
set_option maxRecDepth 100000
def escC(c:UInt8):Str:=bif decide (32<c.toNat)&&decide (c.toNat<127)&& !digB c&& !alB c then [92,c]else 92::(hexS c.toNat++[32])
def pcW(dash:Bool)(k:Nat)(c:UInt8):Str:=bif letB c&&(k==0|| !digB c)&& !dash then [c]else escC c
def encW(dash:Bool):Nat->Str->Str
 |_,[]=>[]
 |k,c::r=>pcW dash k c++encW dash (k - 1) r
theorem zAI(c:UInt8):namN c.toNat=letB c:=by
 have: ∀n:Nat,n<256->namN (UInt8.ofNat n).toNat=letB (UInt8.ofNat n):=by decide+kernel
 have h:=this c.toNat (Ab c);simp_all
theorem yK(c:UInt8):Qi (c.toNat:Int)=some (letB c):=by rw[uS,zAI]
theorem XF(c:UInt8):ZX (c.toNat:Int)=some (digB c):=vS c
theorem zAw(c:UInt8):Us (c.toNat:Int)=some (alB c):=of_n (by decide+kernel) c
theorem WX(c:UInt8):wu64 (c.toNat:Int)=(c.toNat:Int):=by
 have:=Ab c;show IntKind.u64.wrap _=_;have h: ∀n:Int,IntKind.u64.wrap n=n%18446744073709551616:=fun n=>by simp[IntKind.wrap,IntKind.bits,IntKind.signed]
 rw[h];omega
theorem Ev(c:UInt8):ZF ((c.toNat:Nat):Int)=some c:=by simp_all
theorem VN(n:Nat):(hexS n).length<=2:=by unfold hexS;split<;>simp
theorem Hm(c:UInt8){acc:Str}(j:acc.length<=1000000000):Zg ((c.toNat:Int),acc)=some (acc++escC c):=by
 have i:=Ab c;unfold Zg escC;simp only[zb,XF,zAw];have g:decide ((c.toNat:Int)>32)=decide (32<c.toNat):=by rw[decide_eq_decide];omega
 have f:decide ((c.toNat:Int)<127)=decide (c.toNat<127):=by rw[decide_eq_decide];omega
 rw[g,f];have b:short (acc++[(92:UInt8)])=true:=Ia (by grind);have e:Io ((wu64 (c.toNat:Int),16),acc++[(92:UInt8)])=some (acc++[(92:UInt8)]++hexS c.toNat):=by unfold Io;simp only[WX,b];rw[zC (by simp;omega)];rfl
 have h:=VN c.toNat;have a:need (zH acc.length 1 1) (zb (Io ((wu64 (c.toNat:Int),16),acc++[(92:UInt8)])) fun d=>need (zH d.length 1 1) (some (d++[(32:UInt8)])))=some (acc++92::(hexS c.toNat++[32])):=by rw[zC (Ng (by omega)),e];simp only[zb,Aa];rw[zC (Ng (by grind))];simp
 simp only[zb]at a;rw[a];cases decide (32<c.toNat)with
 |false=>rfl
 |true=>
  cases decide (c.toNat<127)with
  |false=>rfl
  |true=>
   cases digB c with
   |true=>rfl
   |false=>
    cases alB c with
    |true=>rfl
    |false=> simp only[zo,Da,Va,Bool.and_self,Aa,Ev];rw[zC (Ng (by omega))]
theorem Aw(c:UInt8):(escC c).length<=4:=by
 have:=VN c.toNat;unfold escC
 grind
theorem oK(dash:Bool)(k:Nat)(c:UInt8):(pcW dash k c).length<=4:=by
 have:=Aw c;unfold pcW
 grind
theorem Eo(dash:Bool): ∀(k:Nat) (l:Str),(encW dash k l).length<=4*l.length
 |_,[]=>by unfold encW;simp
 |k,c::r=>by
  have:=oK dash k c;have:=Eo dash (k - 1) r;unfold encW
  grind
theorem zC5{dash:Bool}{k i:Nat}{l:Str}(h:i<l.length):encW dash (k - i) (l.drop i)=pcW dash (k - i) l[i]++encW dash (k - (i+1)) (l.drop (i+1)):=by rw[Bb h,encW,show k - i - 1=k - (i+1) by omega]
theorem XK {R:Type} {step:Int×List UInt8->Option (LO (Int×List UInt8) (List UInt8) R)} {l acc:Str} {k:Nat} {dash:Bool} (hl:l.length<=100000) (ha:acc.length<=100000000)
  (h1: ∀(i:Nat) (a:Str) (hi:i<l.length),a.length<=500000000->step ((i:Int),a)=some (.again (w64 ((i:Int)+1),a++pcW dash (k - i) l[i])))
  (h2: ∀a,step ((l.length:Int),a)=some (.out a)):Jg step (0,acc)=some (.out (acc++encW dash k l)):=by
 refine ZT (fun z=> ∃(i:Nat) (a:Str),z=((i:Int),a)/\i<=l.length/\a.length<=acc.length+4*i/\a++encW dash (k - i) (l.drop i)=acc++encW dash k l) (fun z=>l.length - z.1.toNat) _ ?_ ⟨0,acc,rfl,by omega,by omega,rfl⟩;rintro _ ⟨i,a,rfl,hi,hal,he⟩;rcases Ld i l.length with h|h
 ·refine .inl ⟨_,h1 i a h (by omega),⟨i+1,_,by rw[Zh (by omega) (by omega)];rfl,by omega,?_,?_⟩,by simp only;rw[Zh (by omega) (by omega)];omega⟩
  ·have:=oK dash (k - i) l[i]
   grind
  ·rw[<-he,zC5 h,La]
 ·have:i=l.length:=by omega
  subst this;refine .inr (.inl ⟨_,h2 a,?_⟩);rw[<-he,Pe (Xa _)];rw[show encW dash (k - l.length) []=[] by rw[encW],Ra]
def Vh(k:Nat)(l:Str):Bool:= !(k==0)&&l==[45]
def Qp(l:Str):Nat:=if [45].isPrefixOf l then 2 else 1
theorem Kr(l:Str):ZY l=some ((Qp l:Nat):Int):=by
 unfold ZY Qp;simp only[zb,Qr,Aa]
 grind
def Zx(l:Str):Str:=encW (l==[45]) (Qp l) l
theorem xu{n:Nat}(h:n<16):QA (hexD n)=true/\hexN (hexD n)=n/\(hexD n==10)=false/\letB (hexD n)=true:=by
 have: ∀n:Nat,n<16->QA (hexD n)=true/\hexN (hexD n)=n/\(hexD n==10)=false/\letB (hexD n)=true:=by decide+kernel
 exact this n h
theorem UH{k n:Nat}{c:UInt8}{r:Str}(h:QA c=true):hexes (k+1) n (c::r)=hexes k (16*n+hexN c) r:=by rw[hexes,Ha h]
theorem KL{n:Nat}(h:n<256)(R:Str):hexes 6 0 (hexS n++32::R)=(n,32::R):=by
 unfold hexS;by_cases c:n<16
 ·obtain⟨a,b,_⟩:=xu c;rw[Ha c,Uc,UH a,b,iE _ _ (32::R) (show QA 32=false by decide)];simp
 ·obtain⟨a,b,_⟩:=xu (show n / 16<16 by omega);obtain⟨e,d,_⟩:=xu (show n%16<16 by omega);rw[Ga c,Sa,Uc,UH a,UH e,b,d,iE _ _ (32::R) (show QA 32=false by decide)]
  grind
theorem jG{n:Nat}(h:n<256)(R:Str): ∃d t,hexS n++R=d::t/\QA d=true/\(d==10)=false:=by
 unfold hexS;by_cases c:n<16
 ·obtain⟨a,_,b,_⟩:=xu c;simp_all
 ·obtain⟨a,_,b,_⟩:=xu (show n / 16<16 by omega);exact⟨_,_,by rw[Ga c];rfl,a,b⟩
theorem YO{c:UInt8}(a:c≠0)(h:c.toNat<128):Mg c.toNat=[c]:=by
 have b:c.toNat≠0:=by intro e;exact a (Me.1 e)
 unfold Mg;rw[Ga (by omega),Ha h,xc]
theorem uO{r:Str}(h:escS (92::r)=true):zq (92::r)=((zt r).1++(zq (zt r).2).1,(zq (zt r).2).2):=by rw[zR,Ga (by decide),Ha h]
theorem TM{c:UInt8}(h0:c≠0)(h:c.toNat<128)(R:Str):zq (escC c++R)=(c::(zq R).1,(zq R).2):=by
 unfold escC;cases hg:decide (32<c.toNat)&&decide (c.toNat<127)&& !digB c&& !alB c with
 |true=>
  rw[Da];have hx:QA c=false/\(c==10)=false:=by
   have: ∀n:Nat,n<256->(decide (32<(UInt8.ofNat n).toNat)&&decide ((UInt8.ofNat n).toNat<127)&& !digB (UInt8.ofNat n)&& !alB (UInt8.ofNat n))=true->QA (UInt8.ofNat n)=false/\(UInt8.ofNat n==10)=false:=by decide+kernel
   have:=this c.toNat (Ab c);rw[xc]at this;exact this hg
  have he:zt (c::R)=([c],R):=by show(if QA c then _ else _)=_;rw[Ga (by rw[hx.1];decide)]
  rw[show [92,c]++R=92::c::R from rfl,uO (by unfold escS;rw[show atS (92::c::R) 0=92 from rfl,show atS (92::c::R) 1=c from rfl,hx.2];rfl),he];rfl
 |false=>
  rw[Ba,Sa,La];obtain⟨d,t,e,hd,h10⟩:=jG (n:=c.toNat) (Ab c) ([32]++R);have he:zt (hexS c.toNat++([32]++R))=([c],R):=by have hh:=KL (n:=c.toNat) (Ab c) R;rw[show(32::R:Str)=[32]++R from rfl,e]at hh;rw[e];show(if QA d then(Mg (hexes 6 0 (d::t)).1,unsp (hexes 6 0 (d::t)).2)else _)=_;rw[Ha hd,hh,YO h0 h];rfl
  rw[uO (by rw[e];unfold escS;rw[show atS (92::d::t) 0=92 from rfl,show atS (92::d::t) 1=d from rfl,h10];rfl),he];rfl
theorem VE{c:UInt8}(h: ¬c.toNat<128):letB c=true/\digB c=false:=by
 have: ∀n:Nat,n<256-> ¬(UInt8.ofNat n).toNat<128->letB (UInt8.ofNat n)=true/\digB (UInt8.ofNat n)=false:=by decide+kernel
 have:=this c.toNat (Ab c);simp_all
theorem jK{dash:Bool}{k:Nat}{c:UInt8}(e:c≠0)(f:dash=true->c.toNat<128)(R:Str):zq (pcW dash k c++R)=(c::(zq R).1,(zq R).2):=by
 unfold pcW;cases d:letB c&&(k==0|| !digB c)&& !dash with
 |true=> rw[Ea,Ea]at d;rw[Da,Uc,zR,Ha d.1.1]
 |false=>
  rw[Ba];refine TM e ?_ R;by_cases h:c.toNat<128
  ·exact h
  ·obtain⟨a,b⟩:=VE h
   grind
theorem UM{dash:Bool}: ∀(k:Nat) (l:Str),Zi l=true->(dash=true-> ∀c∈l,c.toNat<128)->zq (encW dash k l)=(l,[])
 |_,[],_,_=>by rw[encW,qR]
 |k,c::r,h,a=>by unfold Zi at h;rw[Jd,Ea]at h;rw[encW,jK (by grind) (fun e=>a e c (Db ..)),UM (k - 1) r h.2 (fun e x b=>a e x (ja _ b))]
theorem OO{l:Str}(h:Zi l=true):zq (Zx l)=(l,[]):=by refine UM _ _ h (fun e c a=> ?_);simp_all
theorem uz{dash:Bool}{k:Nat}(hk:0<k)(c:UInt8)(R:Str): ∃d t,pcW dash k c++R=d::t/\(d=92/\escS (d::t)=true\/(d=c/\dash=false/\letB d=true/\digB d=false/\t=R)):=by
 have hk0:(k==0)=false:=by rw[Fa];omega
 unfold pcW;rw[hk0,Xc];cases hg:letB c&& !digB c&& !dash with
 |true=> rw[Ea,Ea,Md,Md]at hg;exact⟨c,R,rfl, .inr ⟨rfl,hg.2,hg.1.1,hg.1.2,rfl⟩⟩
 |false=>
  rw[Ba];unfold escC;cases hg2:decide (32<c.toNat)&&decide (c.toNat<127)&& !digB c&& !alB c with
  |true=>
   refine⟨92,c::R,rfl, .inl ⟨rfl,?_⟩⟩;have:c≠10:=by rintro rfl;revert hg2;decide
   unfold escS;rw[show atS (92::c::R) 1=c from rfl,Fa.2 this];rfl
  |false=> obtain⟨d,t,e,hd,h10⟩:=jG (n:=c.toNat) (Ab c) ([32]++R);refine⟨92,_,by rw[Ba,Sa,La], .inl ⟨rfl,?_⟩⟩;rw[e];unfold escS;rw[show atS (92::d::t) 1=d from rfl,h10];rfl
theorem CP{d:UInt8}(h:letB d=true)(h2:digB d=false):fstB d=true\/d=45:=by
 unfold letB at h
 grind
theorem VW{d:UInt8}{t:Str}(a:d=92)(h:escS (d::t)=true):nmS (d::t)=true:=by subst a;unfold nmS;rw[show atS (92::t) 0=92 from rfl,Ga (by decide),h,Ff]
theorem xh{l:Str}(h:l≠[]):nmS (Zx l)=true:=by
 cases l with
 |nil=>grind
 |cons c r=>
  unfold Zx encW;obtain⟨d,t,e,u⟩:=uz (dash:=(c::r:Str)==[45]) (k:=Qp (c::r)) (by unfold Qp;split<;>omega) c (encW ((c::r:Str)==[45]) (Qp (c::r) - 1) r);rw[e];rcases u with⟨q,j⟩|⟨rfl,j,x,v,o⟩
  ·exact VW q j
  ·rcases CP x v with p|rfl
   ·by_cases m:d=45
    ·subst m;exact absurd p (by decide)
    ·unfold nmS;rw[show atS (d::t) 0=d from rfl,Ga (by grind),p,Td]
   ·have C:r≠[]:=by rintro rfl;exact absurd j (by decide)
    cases r with
    |nil=>grind
    |cons f g=>
     have A:Qp (45::f::g)=2:=rfl;rw[A]at o;obtain⟨a,b,y,n⟩:=uz (dash:=(45::f::g:Str)==[45]) (k:=2 - 1) (by omega) f (encW ((45::f::g:Str)==[45]) (2 - 1 - 1) g);have z:t=a::b:=by rw[o,encW,y]
     rw[z];unfold nmS;rw[show atS (45::a::b) 0=45 from rfl,Ha (show((45:UInt8)==45)=true from rfl),show atS (45::a::b) 1=a from rfl,show(45::a::b:Str).drop 1=a::b from rfl];rcases n with⟨_,B⟩|⟨_,_,s,w,_⟩
     ·grind
     ·rcases CP s w with i|rfl
      ·rw[i];rfl
      ·simp
theorem Dp(m:UInt8):Za m []=(some [],[]):=by rw[Za]
theorem Qu(m c:UInt8)(r:Str):Za m (c::r)=if c==m then(some [],r)
  else if c==10 then(none,c::r)
  else if c==92 then
   (if r.isEmpty then(some [],[])
   else if atS r 0==10 then Za m (r.drop 1)
   else((Za m (zt r).2).1.map ((zt r).1++ ·),(Za m (zt r).2).2))
  else((Za m r).1.map (c:: ·),(Za m r).2):=by rw[Za]
theorem Js(m:UInt8)(l:Str):(Za m l).2<:+l:=by
 match l with
 |[]=>rw[Dp];grind
 |c::r=>
  rw[Qu];have a:=Wd c r;split
  ·exact a
  ·split
   ·grind
   ·split
    ·split
     ·grind
     ·split
      ·exact(Js m (r.drop 1)).trans ((Je 1 r).trans a)
      ·have:=Zc r;exact(Js m (zt r).2).trans ((qh r).trans a)
    ·exact(Js m r).trans a
termination_by l.length
decreasing_by
 all_goals grind
theorem TE(a b:Str)(x:Option Str):(x.map (b++ ·)).map (a++ ·)=x.map ((a++b)++ ·):=by
 cases x with
 |none=>rfl
 |some t=>grind
theorem JN(a:Str)(b:UInt8)(x:Option Str):(x.map (b:: ·)).map (a++ ·)=x.map ((a++[b])++ ·):=TE a [b] x
def Ij:Option Str->ze
 |some t=>⟨5,t,0,[],false⟩
 |none=>⟨6,[],0,[],false⟩
theorem zDY{s q:Str}{m:UInt8}(k:s.length<=big)(w:m::q<:+s):ZN (sr s (m::q))=some (Ij (Za m q).1,sr s (Za m q).2):=by
 have J:big=4194304:=rfl;have D:=Oi w;unfold ZN;simp only[zb,Xg k w,Aa,yn,Dh k w]
 let g:LX (za×ze×List UInt8) (ze×za):=match(Za m q).1 with
  |some t=> .out (sr s (Za m q).2,⟨0,[],0,[],false⟩,t)
  |none=> .ret (⟨6,[],0,[],false⟩,sr s (Za m q).2)
 rw[Qt (r:=g)]
 ·show LX.go g _=_;cases h:(Za m q).1 with
  |some t=>simp only[g,h];rfl
  |none=>simp only[g,h];rfl
 refine ZT (fun z=> ∃(p e:Str),z=(sr s p,⟨0,[],0,[],false⟩,e)/\p<:+s/\e.length+4*p.length<=4*s.length/\(Za m q).1=(Za m p).1.map (e++ ·)/\(Za m q).2=(Za m p).2) (fun z=>s.length - z.1.at_.toNat) _ ?_
  ⟨q,[],rfl,D,by grind,by simp,rfl⟩
 rintro _ ⟨p,e,rfl,j,C,b,a⟩;simp only[Xg k j,Aa,Un,lJ,CV];cases p with
 |nil=>
  refine .inr (.inl ⟨_,rfl,?_⟩);rw[Dp]at b a
  grind
 |cons c t=>
  have i:=j.length_le;rw[Ja]at i C;have n:=Oi j;rw[Qu]at b a;rw[show(c::t).isEmpty=false from rfl,Ba,yn,show((c.toNat:Int)==(m.toNat:Int))=(c==m)from Sz c m,show atS (c::t) 0=c from rfl,Dh k j];have f: ∀u:Str,u.length<=t.length->u<:+s->s.length - beh s u<s.length - beh s (c::t):=by intro u A F;unfold beh;rw[Ja];omega
  cases v:c==m with
  |true=>
   grind
  |false=>
   rw[v,Ga (by decide)]at b a;rw[Ba];cases y:c==10 with
   |true=>
    grind
   |false=>
    rw[y,Ga (by decide)]at b a;rw[Ba];cases l:c==92 with
    |false=> rw[l,Ga (by decide)]at b a;simp only[zo,Ba,Aa,Rc,kv];rw[zC (Ng (by omega))];exact .inl ⟨_,rfl,⟨t,e++[c],rfl,n,by grind,by rw[b,JN],a⟩,f t (by omega) n⟩
    |true=>
     rw[l,Ha rfl]at b a;simp only[zo,Da,Lu k j,Aa,Rb];have x:pk (c::t) 1=pk t 0:=rfl;rw[x,Un];cases t with
     |nil=>
      rw[show([]:Str).isEmpty=true from rfl,Ha rfl]at b a;have o:beh s [c]=s.length - 1:=rfl;have G:(if((s.length:Int)<w64 ((beh s [c]:Int)+2))then(s.length:Int)else w64 ((beh s [c]:Int)+2))=((beh s []:Nat):Int):=by rw[Zh (by omega) (by omega),Ha (by omega)];unfold beh;rw[Pb];omega
      refine .inl ⟨(sr s [],⟨0,[],0,[],false⟩,e),?_,⟨[],e,rfl,List.nil_suffix,by grind,by rw[b,Dp],by rw[a,Dp]⟩,f [] (by simp) List.nil_suffix⟩
      grind
     |cons d u=>
      rw[show(d::u).isEmpty=false from rfl,Ga (by decide)]at b a;simp only[show(d::u).isEmpty=false from rfl,Va,Da,Ba,Aa,lJ];cases B:atS (d::u) 0==10 with
      |true=>
       rw[B,Ha rfl]at b a;have A:=Oi n;rw[Ja]at i C;have o:beh s (c::d::u)=s.length - (u.length+1+1):=by unfold beh;rw[Ja,Ja]
       have G:(if((s.length:Int)<w64 ((beh s (c::d::u):Int)+2))then(s.length:Int)else w64 ((beh s (c::d::u):Int)+2))=((beh s u:Nat):Int):=by rw[Zh (by omega) (by omega),Ga (by omega)];unfold beh;rw[Ja,Ja];omega
       refine .inl ⟨(sr s u,⟨0,[],0,[],false⟩,e),?_,⟨u,e,rfl,A,by omega,b,a⟩,f u (by grind) A⟩
       grind
      |false=> rw[B,Ga (by decide)]at b a;have H:=Hw (d::u);have E:=Zc (d::u);refine .inl ⟨(sr s (zt (d::u)).2,⟨0,[],0,[],false⟩,e++(zt (d::u)).1),?_,⟨_,_,rfl,(qh _).trans n,by grind,by rw[b,TE],a⟩,f _ E ((qh _).trans n)⟩;simp only[Ba,lG k j (show e.length<=1000000000 by omega),Aa]
theorem XV{n:Nat}(l:n≠0)(h:n<16777216):ZI (w32 (n:Int))=some (Mg n):=by
 have j:zH 0 1 1=true:=Ng (by omega);have f:zH 0 2 1=true:=Ng (by omega);have d:zH 0 3 1=true:=Ng (by omega);have g:zH 0 4 1=true:=Ng (by omega);have c:(128+n%64)<256:=by omega
 have a:(128+n / 64%64)<256:=by omega
 have b:(128+n / 4096%64)<256:=by omega
 unfold ZI qA Mg;simp only[ll (show n<2147483648 by omega),XM (show n<2147483648 by omega),zb,shr6,TV,SV,PN,ZW c,ZW a,ZW b,Aa];by_cases e:n<128
 ·rw[Ia (by omega),Da,lu,ZW (by omega),Aa,zC j,Ga (by omega),Ha e,Ef (by omega)]
 ·rw[Ya (by omega),Ba];by_cases i:n<2048
  ·rw[Ia (by omega),Da,KV (by omega),ZW (by omega)];simp only[Aa];rw[zC f,Ga (by omega),Ga (by omega),Ha i];rfl
  ·rw[Ya (by omega),Ba];by_cases m:n<55296
   ·rw[Ia (by omega),Da,zh];simp only[Da];rw[GD (by omega),ZW (by omega)];simp only[Aa];rw[zC d,Ga (by omega),Ga (by omega),Ga (by omega),Ha (by omega)];rfl
   ·rw[Ya (by omega),Ba,zh];simp only[kW];by_cases k:57343<n/\n<65536
    ·rw[Ia (by omega),Ia (by omega),Rb,Da,GD (by omega),ZW (by omega)];simp only[Aa];rw[zC d,Ga (by omega),Ga (by omega),Ga (by omega),Ha (by omega)];rfl
    ·rw[show(decide ((57343:Int)<(n:Int))&&decide ((n:Int)<=65535))=false by grind,Ba];by_cases o:65535<n/\n<=1114111
     ·rw[Ia (by omega),Ia (by omega),Rb,Da,JV (by omega),ZW (by omega)];simp only[Aa];rw[zC g,Ga (by omega),Ga (by omega),Ga (by omega),Ga (by omega)];rfl
     ·rw[show(decide ((n:Int)>65535)&&decide ((n:Int)<=1114111))=false by grind,Ba,zC d,Ha (by omega)];rfl
theorem OQ:ZI 65533=some Gl:=by have h:=XV (n:=65533) (by omega) (by omega);rw[ll (by omega)]at h;exact h
theorem YY{s l:Str}{c:UInt8}(hs:s.length<=big)(hr:c::l<:+s):
  Zn (sr s (c::l))=some (sr s (zt l).2,(zt l).1):=by
 have hl:=Oi hr;unfold Zn;simp only[Dh hs hr,zb,Xg hs hl,Aa,Un];cases l with
 |nil=> rw[show([]:Str).isEmpty=true from rfl,Da,OQ];rfl
 |cons d r=>
  rw[show(d::r).isEmpty=false from rfl,Ba,jC];simp only[Aa,GA];cases hx:QA (atS (d::r) 0)with
  |false=>
   rw[Va,Da,yn,kv];simp only[Aa,Dh hs hl];rw[zC (Ng (n:=0) (by omega))];have:zt (d::r)=([d],r):=by show(if QA d then _ else _)=_;rw[Ga (by rw[show QA d=false from hx];decide)]
   rw[this]
  |true=>
   rw[aa,Ba];have he:zt (d::r)=(Mg (hexes 6 0 (d::r)).1,unsp (hexes 6 0 (d::r)).2):=by show(if QA d then _ else _)=_;rw[Ha (show QA d=true from hx)]
   rw[he];rw[qW (gM (l:=d::r) hl (fun n i q hq hn hi=> ?_))]
   ·have hq:(hexes 6 0 (d::r)).2<:+s:=(Dw 6 0 _).trans hl;have hlt:=vF 6 0 (d::r);rw[show 16 ^ 6*(0+1)=16777216 from rfl]at hlt;simp only[Xg hs hq,Aa,uu];have hj:(bif spB (atS (hexes 6 0 (d::r)).2 0)then some (LX.out (((hexes 6 0 (d::r)).1:Int),(⟨s,w64 ((beh s (hexes 6 0 (d::r)).2:Int)+1)⟩:za)))else some (LX.out (((hexes 6 0 (d::r)).1:Int),sr s (hexes 6 0 (d::r)).2)):Option (LX (Int×za) (za×List UInt8)))
      =some (LX.out (((hexes 6 0 (d::r)).1:Int),sr s (unsp (hexes 6 0 (d::r)).2))):=by
     cases hh:(hexes 6 0 (d::r)).2 with
     |nil=>rfl
     |cons e t=>
      rw[hh]at hq;rw[show atS (e::t) 0=e from rfl,Dh hs hq];show _=some (LX.out (_,sr s (if spB e then t else e::t)))
      grind
    rw[hj,zh];simp only;by_cases h0:(hexes 6 0 (d::r)).1=0
    ·rw[h0,show((((0:Nat):Int))==0)=true from rfl,Da,zh];simp only[ll (show 65533<2147483648 by omega),show w32 (65533:Int)=65533 from ll (n:=65533) (by omega),OQ,Aa];rfl
    ·rw[show(((hexes 6 0 (d::r)).1:Int)==0)=false by grind,Ba,zh];simp only[XV h0 hlt,Aa]
   ·simp only[Xg hs hq,Aa,jC,GA];have hb6:decide ((i:Int)<6)=decide (i<6):=by rw[decide_eq_decide];omega
    rw[hb6];cases decide (i<6)with
    |false=>rfl
    |true=>
     rw[Da,ma];cases hx2:QA (atS q 0)with
     |false=>rfl
     |true=>
      cases q with
      |nil=>exact absurd hx2 (by decide)
      |cons e t=>
       have hI:hexI (atS (e::t) 0)=(hexN (atS (e::t) 0):Int):=by unfold hexI;rw[Ha hx2]
       rw[hI,yV hn (xy hx2),Dh hs hq,Zh (by omega) (by omega)];rfl
theorem Wv:badS []=[]:=by rw[badS]
theorem Ww(c:UInt8)(r:Str):badS (c::r)=if c==41 then r else if escS (c::r)then badS (zt r).2 else badS r:=by rw[badS]
theorem Tz(l:Str):badS l<:+l:=by
 match l with
 |[]=>rw[Wv];grind
 |c::r=>
  rw[Ww];have a:=Wd c r;split
  ·exact a
  ·split
   ·have:=Zc r;exact(Tz (zt r).2).trans ((qh r).trans a)
   ·exact(Tz r).trans a
termination_by l.length
decreasing_by
 all_goals grind
theorem zER{s t:Str}{c:UInt8}(e:s.length<=big)(h:c::t<:+s):geti s (w64 ((beh s t:Int) - 1))=some c:=by
 have f:big=4194304:=rfl;have b:=h.length_le;rw[Ja]at b;have d:=Lr h;have g:beh s t=beh s (c::t)+1:=by unfold beh;rw[Ja];omega
 have a:beh s (c::t)<s.length:=by unfold beh;rw[Ja];omega
 rw[Zh (by omega) (by omega),show(beh s t:Int) - 1=((beh s (c::t):Nat):Int) by omega,ZA a];rw[Bb a]at d
 grind
theorem badR{s q:Str}(e:s.length<=big)(j:q<:+s):ZG (sr s q)=some (⟨8,[],0,[],false⟩,sr s (badS q)):=by
 unfold ZG;refine wG ?_;refine ZT (fun z=> ∃(p:Str),z=(sr s p,(⟨0,[],0,[],false⟩:ze))/\p<:+s/\badS q=badS p) (fun z=>s.length - z.1.at_.toNat) _ ?_ ⟨q,rfl,j,rfl⟩;rintro _ ⟨p,rfl,b,g⟩;simp only[zb,Xg e b,Aa,Un];cases p with
 |nil=>exact .inr (.inr ⟨_,rfl,by rw[g,Wv]⟩)
 |cons c t=>
  have d:=b.length_le;rw[Ja]at d;have i:=Oi b;have f: ∀u:Str,u.length<=t.length->u<:+s->s.length - beh s u<s.length - beh s (c::t):=by intro u l k;unfold beh;rw[Ja];omega
  rw[show(c::t).isEmpty=false from rfl,Ba,EG e b];rw[Ww]at g;simp only[Aa];cases a:escS (c::t)with
  |true=>
   have h:(c==41)=false:=by unfold escS at a;rw[Ea,Ib]at a;rw[show c=92 from a.1];decide
   rw[a,h,Ga (by decide),Ha rfl]at g;rw[Da,YY e b];exact .inl ⟨_,rfl,⟨_,rfl,(qh t).trans i,g⟩,f _ (Zc t) ((qh t).trans i)⟩
  |false=>
   rw[Ba,Dh e b,zER e b];simp only[Aa];rw[show((c.toNat:Int)==41)=(c==41)from Sz c 41]
   grind
theorem Mo:urlS []=(some [],[]):=by rw[urlS]
theorem Uk(c:UInt8)(r:Str):urlS (c::r)=if c==41 then(some [],r)
  else if spB c then(match past spB r with
   |[]=>(some [],[])
   |d::a=>if d==41 then(some [],a)else(none,badS (d::a)))
  else if c==34||c==39||c==40||unB c||c==92&& !escS (c::r)then(none,badS (c::r))
  else if c==92 then((urlS (zt r).2).1.map ((zt r).1++ ·),(urlS (zt r).2).2)
  else((urlS r).1.map (c:: ·),(urlS r).2):=by rw[urlS];grind
theorem fq(l:Str):(urlS l).2<:+l:=by
 match l with
 |[]=>rw[Mo];grind
 |c::r=>
  rw[Uk];have a:=Wd c r;split
  ·exact a
  ·split
   ·have b:=(Am spB r).trans a;cases e:past spB r with
    |nil=>grind
    |cons d f=>
     rw[e]at b;simp only;split
     ·exact(Wd d f).trans b
     ·exact(Tz _).trans b
   ·split
    ·exact Tz _
    ·split
     ·have:=Zc r;exact(fq (zt r).2).trans ((qh r).trans a)
     ·exact(fq r).trans a
termination_by l.length
decreasing_by
 all_goals grind
def Fj:Option Str->ze
 |some t=>⟨7,t,0,[],false⟩
 |none=>⟨8,[],0,[],false⟩
theorem zEa(c:UInt8): ∃y,zo (!(bif bif bif bif (c.toNat:Int)==34 then true else(c.toNat:Int)==39 then true else(c.toNat:Int)==40 then true else decide ((c.toNat:Int)<=8)then true else(c.toNat:Int)==11)) (Z0 ((c.toNat:Int),14,31)) (default:Bool)=some y/\
  (bif bif bif bif bif bif (c.toNat:Int)==34 then true else(c.toNat:Int)==39 then true else(c.toNat:Int)==40 then true else decide ((c.toNat:Int)<=8)then true else(c.toNat:Int)==11 then true else y then true else(c.toNat:Int)==127)=(c==34||c==39||c==40||unB c):=by
 have a: ∀n:Nat,n<256->((zo (!(bif bif bif bif (n:Int)==34 then true else(n:Int)==39 then true else(n:Int)==40 then true else decide ((n:Int)<=8)then true else(n:Int)==11)) (Z0 ((n:Int),14,31)) (default:Bool)).elim false fun y=>
  (bif bif bif bif bif bif (n:Int)==34 then true else(n:Int)==39 then true else(n:Int)==40 then true else decide ((n:Int)<=8)then true else(n:Int)==11 then true else y then true else(n:Int)==127)==(UInt8.ofNat n==34||UInt8.ofNat n==39||UInt8.ofNat n==40||unB (UInt8.ofNat n)))=true:=by decide+kernel
 have h:=a c.toNat (Ab c);rw[xc]at h;cases b:zo (!(bif bif bif bif (c.toNat:Int)==34 then true else(c.toNat:Int)==39 then true else(c.toNat:Int)==40 then true else decide ((c.toNat:Int)<=8)then true else(c.toNat:Int)==11)) (Z0 ((c.toNat:Int),14,31)) (default:Bool)with
 |none=>grind
 |some y=>
  grind
theorem gJ(c:UInt8)(t:Str):(pk (c::t) 0== -1)=false:=by rw[Un];rfl
theorem urlR{s w:Str}(f:s.length<=big)(v:w<:+s):qo (sr s w)=some (Fj (urlS (past spB w)).1,sr s (urlS (past spB w)).2):=by
 have L:big=4194304:=rfl;unfold qo;rw[Oy f v];simp only[zb,Aa];have E:=Oo spB v;generalize past spB w=q at E ⊢;refine wG ?_;refine ZT (fun z=> ∃(p e:Str),z=(sr s p,(⟨0,[],0,[],false⟩:ze),e)/\p<:+s/\e.length+4*p.length<=4*s.length/\(urlS q).1=(urlS p).1.map (e++ ·)/\(urlS q).2=(urlS p).2) (fun z=>s.length - z.1.at_.toNat) _ ?_
  ⟨q,[],rfl,E,by grind,by simp,rfl⟩
 rintro _ ⟨p,e,rfl,h,G,b,a⟩;simp only[Xg f h,Aa,uu];cases p with
 |nil=> refine .inr (.inr ⟨_,rfl,?_⟩);rw[Mo]at b a;rw[b,a];simp only[jc,Ra,Fj]
 |cons c t=>
  have m:=h.length_le;rw[Ja]at m G;have r:=Oi h;have k: ∀u:Str,u.length<=t.length->u<:+s->s.length - beh s u<s.length - beh s (c::t):=by intro u M J;unfold beh;rw[Ja];omega
  rw[Uk]at b a;rw[show atS (c::t) 0=c from rfl];cases j:spB c with
  |true=>
   have i:(c==41)=false:=by rw[Fa];rintro rfl;exact absurd j (by decide)
   rw[i,j,Ga (by decide),Ha rfl]at b a;have D:past spB (c::t)=past spB t:=by rw[past,Ha j]
   have g:past spB t<:+s:=Oo spB r;rw[Da,Oy f h,D];simp only[Aa,Xg f g];cases o:past spB t with
   |nil=> rw[o]at b a;refine .inr (.inr ⟨_,rfl,?_⟩);simp only at b a;rw[b,a];simp only[jc,Ra,Fj]
   |cons d F=>
    rw[o]at b a g;simp only at b a;unfold bne;rw[kJ,gJ,show atS (d::F) 0=d from rfl];cases C:d==41 with
    |true=> rw[C,Ha rfl]at b a;refine .inr (.inr ⟨_,?_,rfl⟩);simp only[aa,Ba,zh,gJ,kJ,show atS (d::F) 0=d from rfl,C,Da,Dh f g];rw[b,a];simp only[jc,Ra,Fj]
    |false=> rw[C,Ga (by decide)]at b a;refine .inr (.inr ⟨_,?_,rfl⟩);simp only[Va,Da,badR f g,Aa,zxQ];rw[b,a];rfl
  |false=>
   rw[Ba,zh];simp only[gJ,kJ,show atS (c::t) 0=c from rfl,Ba,Dh f h];cases i:c==41 with
   |true=> rw[i,Ha rfl]at b a;refine .inr (.inr ⟨_,by rw[Da],?_⟩);rw[b,a];simp only[jc,Ra,Fj]
   |false=>
    rw[i,Ga (by decide),j,Ga (by decide)]at b a;rw[Ba];obtain⟨y,B,A⟩:=zEa c;rw[yn,B];simp only[Aa];rw[A];cases x:(c==34||c==39||c==40||unB c)with
    |true=> rw[x,Td,Ha rfl]at b a;refine .inr (.inr ⟨_,?_,rfl⟩);rw[Da,badR f h];simp only[Aa];rw[b,a];rfl
    |false=>
     rw[x,Xc]at b a;rw[Ba];unfold bne;rw[show((c.toNat:Int)==92)=(c==92)from Sz c 92];cases n:c==92 with
     |false=> rw[n,Lb,Ga (by decide),Ga (by decide)]at b a;rw[Va,Da,kv];simp only[Aa];rw[zC (Ng (by omega))];exact .inl ⟨_,rfl,⟨t,e++[c],rfl,r,by grind,by rw[b,JN],a⟩,k t (Xa _) r⟩
     |true=>
      rw[n,ma]at b a;rw[aa,Ba,EG f h];simp only[Aa];cases l:escS (c::t)with
      |true=> rw[l,aa,Ga (by decide),Ha rfl]at b a;have K:=Hw t;have H:=Zc t;refine .inl ⟨(sr s (zt t).2,⟨0,[],0,[],false⟩,e++(zt t).1),?_,⟨_,_,rfl,(qh _).trans r,by grind,by rw[b,TE],a⟩,k _ H ((qh _).trans r)⟩;simp only[Da,lG f h (show e.length<=1000000000 by omega),Aa]
      |false=> rw[l,Va,Ha rfl]at b a;refine .inr (.inr ⟨_,?_,rfl⟩);rw[Ba,badR f h];simp only[Aa];rw[b,a];rfl
def hdB(b:UInt8):Bool:=b==45||fstB b||b==92
theorem Um{q:Str}(h:nmS q=true):hdB (atS q 0)=true:=by
 unfold nmS at h;unfold hdB;cases a:atS q 0==45 with
 |true=>rfl
 |false=>
  rw[a,Ga (by decide),Kc]at h;rcases h with h|h
  ·rw[h];rfl
  ·unfold escS at h
   grind
theorem Fq{b:UInt8}(h:hdB b=true):spB b=false/\(b==34)=false/\(b==39)=false/\(b==35)=false/\(b==64)=false/\(b==47)=false/\(b==60)=false/\(b==43)=false/\(b==46)=false/\digB b=false/\b≠0:=by
 have: ∀n:Nat,n<256->hdB (UInt8.ofNat n)=true->spB (UInt8.ofNat n)=false/\(UInt8.ofNat n==34)=false/\(UInt8.ofNat n==39)=false/\(UInt8.ofNat n==35)=false/\(UInt8.ofNat n==64)=false/\(UInt8.ofNat n==47)=false/\(UInt8.ofNat n==60)=false/\(UInt8.ofNat n==43)=false/\(UInt8.ofNat n==46)=false/\digB (UInt8.ofNat n)=false/\UInt8.ofNat n≠0:=by decide+kernel
 have:=this b.toNat (Ab b);simp_all
theorem OV{q:Str}(h:nmS q=true):nbS q=false:=by
 obtain⟨_,_,_,_,_,_,_,a,j,f,_⟩:=Fq (Um h);unfold nbS unsign Pf;rw[a,Xc];cases b:atS q 0==45 with
 |false=>
  rw[Ga (by decide)];unfold undot
  grind
 |true=>
  rw[Ha rfl];unfold nmS at h;rw[b,Ha rfl]at h;have i:hdB (atS q 1)=true:=by
   unfold hdB;cases e:fstB (atS q 1)with
   |true=>simp
   |false=>
    cases g:atS q 1==45 with
    |true=>rfl
    |false=> rw[e,g,Xc,Xc]at h;unfold escS at h;rw[Ea,Q3]at h;rw[h.1];rfl
  obtain⟨_,_,_,_,_,_,_,_,d,c,_⟩:=Fq i;unfold undot;rw[Q3,d,Ga (by decide),Q3,c]
theorem dV{s r:Str}:(decide ((0:Int)<=(beh s r:Int))&&decide ((beh s r:Int)<=(s.length:Int)))=true:=by
 have:=yj s r
 grind
theorem rD{s r:Str}(a:r<:+s):List.drop ((beh s r:Int)).toNat s=r:=by rw[Eb,Lr a]
theorem Xq{a b:UInt8}{m t:Str}(h:(b==a)=false):(a::m).isPrefixOf (b::t)=false:=by
 grind
theorem nK{a:UInt8}{m q:Str}(c:a≠0)(h:(atS q 0==a)=false):(a::m).isPrefixOf q=false:=by
 cases q with
 |nil=>rfl
 |cons b t=>exact Xq h
def capF(cap:Nat):Nat->Str->Nat
 |n,[]=>n
 |n,c::r=>capF cap (min cap (decN n c)) r
theorem VP(cap:Nat): ∀(l:Str) (n:Nat) (c:UInt8),capF cap n (l++[c])=min cap (decN (capF cap n l) c)
 |[],_,_=>rfl
 |d::l,n,c=>by show capF cap (min cap (decN n d)) (l++[c])=_;rw[VP cap l];rfl
theorem bz(cap:Nat): ∀(l:Str) (n:Nat),n<=cap->capF cap n l<=cap
 |[],_,h=>h
 |c::l,n,_=>bz cap l _ (Nat.min_le_left ..)
theorem rM {R:Type} {step:Int×Int->Option (LO (Int×Int) Int R)} {l:Str} {cap:Nat} (b:l.all digB=true) (j:l.length<=100000) (f:cap<=1000000000000)
  (a: ∀(v:Int) (i:Nat) (hi:i<l.length),step (v,(i:Int))=some (.again (if(cap:Int)<w64 (w64 (10*v)+w64 (wu8 ((l[i].toNat:Int) - 48)))then(cap:Int)else w64 (w64 (10*v)+w64 (wu8 ((l[i].toNat:Int) - 48))),w64 ((i:Int)+1))))
  (h2: ∀v:Int,step (v,(l.length:Int))=some (.out v)):Jg step (0,0)=some (.out ((capF cap 0 l:Nat):Int)):=by
 refine ZT (fun s=> ∃i:Nat,i<=l.length/\s=(((capF cap 0 (l.take i):Nat):Int),(i:Int))) (fun s=>l.length - s.2.toNat) _ ?_ ⟨0,by omega,rfl⟩;rintro _ ⟨i,hi,rfl⟩;rcases Ld i l.length with h|h
 ·refine .inl ⟨_,a _ i h,⟨i+1,by omega,?_⟩,by simp only;rw[Zh (by omega) (by omega)];omega⟩;have e:=Xr (Xb.1 b _ (Ic h));have d:capF cap 0 (l.take (i+1))=min cap (decN (capF cap 0 (l.take i)) l[i]):=by rw[Tc h,VP]
  have g:=bz cap (l.take i) 0 (Dc _);have c:wu8 ((l[i].toNat:Int) - 48)=((l[i].toNat - 48:Nat):Int):=by show IntKind.u8.wrap _=_;rw[IntKind.wrap_u8];omega
  unfold decN at d;rw[c,Zh (n:=10*_) (by omega) (by omega),Zh (n:=((l[i].toNat - 48:Nat):Int)) (by omega) (by omega),Zh (n:=(i:Int)+1) (by omega) (by omega),Zh (by omega) (by omega)];refine Prod.ext ?_ ?_
  ·grind
  ·grind
 grind
theorem yN: ∀(k n:Nat),n<=Fh->oh k n<=Fh
 |0,_,h=>h
 |k+1,n,h=>by
  unfold oh;split
  ·exact h
  ·exact yN k _ (Nat.min_le_left ..)
theorem E5 {R:Type} {step:Int×Int->Option (LO (Int×Int) Int R)} {v:Nat} {p:Int} (n:p<=4000000) (d: -4000000<=p) (i:v<=1000000000000)
  (h: ∀(a b:Int),step (a,b)=bif bif bif decide (a>0)then decide (b>0)else false then decide (b<1000000000000)else false then some (.again (w64 (a - 1),if 1000000000000<w64 (10*b)then 1000000000000 else w64 (10*b)))else some (.out b)):
  Jg step (p,(v:Int))=some (.out ((oh p.toNat v:Nat):Int)):=by
 have o:Fh=1000000000000:=rfl;refine ZT (fun s=> ∃(a:Int) (b:Nat),s=(a,(b:Int))/\a<=4000000/\ -4000000<=a/\b<=1000000000000/\oh a.toNat b=oh p.toNat v) (fun s=>s.1.toNat) _ ?_ ⟨p,v,rfl,n,d,i,rfl⟩;rintro _ ⟨a,b,rfl,r,f,q,c⟩;rw[h];by_cases e:a>0
 ·obtain⟨k,l⟩: ∃k,a.toNat=k+1:=⟨a.toNat - 1,by omega⟩;rw[l,oh]at c;rw[Ia e,Da];by_cases g:b=0\/Fh<=b
  ·grind
  ·rw[Ga g]at c;have m:decide (((b:Nat):Int)>0)=true:=Ia (by omega);have j:decide (((b:Nat):Int)<1000000000000)=true:=Ia (by omega);rw[m,Da,j,Da];refine .inl ⟨_,rfl,⟨a - 1,min Fh (10*b),?_,by omega,by omega,by omega,?_⟩,by simp only;rw[Zh (by omega) (by omega)];omega⟩
   ·rw[Zh (by omega) (by omega),Zh (by omega) (by omega)]
    grind
   grind
 ·rw[Ya e,Ba];refine .inr (.inl ⟨_,rfl,?_⟩);rw[<-c,show a.toNat=0 by omega];rfl
structure NumP where
 sg:Str
 D:Str
 F:Option Str
 X:Option (UInt8×Str×Str)
def dotS:Option Str->Str
 |none=>[]
 |some f=>46::f
def expT:Option (UInt8×Str×Str)->Str
 |none=>[]
 |some (e,s,x)=>e::(s++x)
def NumP.txt(n:NumP):Str:=n.sg++(n.D++(dotS n.F++expT n.X))
def sgB(s:Str):Bool:=s==[]||s==[43]||s==[45]
def NumP.ok(n:NumP):Bool:=sgB n.sg&&n.D.all digB&&(match n.F with|none=> !n.D.isEmpty|some f=> !f.isEmpty&&f.all digB)&&
 (match n.X with|none=>true|some (e,s,x)=>(e==101||e==69)&&sgB s&& !x.isEmpty&&x.all digB)
def expV:Option (UInt8×Str×Str)->Int
 |none=>0
 |some (_,s,x)=>if s==[45]then -((capF 1048576 0 x:Nat):Int)else((capF 1048576 0 x:Nat):Int)
def thoV(A:Str)(p:Int):Nat:=oh p.toNat (capF Fh 0 (if p<0 then A.take ((A.length:Int)+p).toNat else A))
def NumP.val(n:NumP):Int:=
 let v:=thoV (n.D++n.F.getD []) (3+expV n.X - ((n.F.getD []).length:Int))
 if n.sg==[45]then -(v:Int)else(v:Int)
theorem kz{s:Str}(h:sgB s=true):s=[]\/s=[43]\/s=[45]:=by
 unfold sgB at h
 grind
theorem aK{s q:Str}(h:sgB s=true)(b: ∀c r,q=c::r->List.contains [43,45] c=false):Lib.trimLeftS (s++q) [43,45]=q:=by
 have a:Lib.trimLeftS q [43,45]=q:=by
  unfold Lib.trimLeftS;cases q with
  |nil=>rfl
  |cons c r=>simp_all
 rcases kz h with rfl|rfl|rfl
 ·exact a
 ·show List.dropWhile _ (43::q)=_;rw[Oc];exact a
 ·show List.dropWhile _ (45::q)=_;rw[Oc];exact a
theorem UL{e:UInt8}(he:e=101\/e=69)(t:Str): ∀(l:Str),(l.all fun b=>digB b||b==46)=true->Lib.indexAny (l++e::t) [101,69]=(l.length:Int)
 |[],_=>by
  rw[Ob,Lib.indexAny]
  grind
 |c::l,h=>by
  rw[Jd,Ea]at h;have hc:List.contains [101,69] c=false:=by
   have: ∀n:Nat,n<256->(digB (UInt8.ofNat n)||UInt8.ofNat n==46)=true->List.contains [101,69] (UInt8.ofNat n)=false:=by decide+kernel
   have:=this c.toNat (Ab c);rw[xc]at this;exact this h.1
  rw[Sa,Lib.indexAny,hc,UL he t l h.2]
  grind
theorem uW{l:Str}(h:l.all digB=true):(l.all fun b=>digB b||b==46)=true:=by
 grind
theorem Xv{l:Str}(h: ∀b∈l,b.toNat<128):kg l=true:=by
 unfold kg
 grind
theorem MX{l:Str}(h:kg l=true): ∀b∈l,b.toNat<128:=by
 unfold kg at h
 grind
theorem zCU{D:Str}(a:D.all digB=true)(F:Option Str): ∃f,Lib.cut (D++dotS F) [46]=(D,F.getD [],f):=by
 unfold Lib.cut;rw[TB];cases F with
 |none=> rw[show dotS none=[]from rfl,Ra,bE _ a,Ga (by decide)];simp_all
 |some g=> rw[show dotS (some g)=46::g from rfl,dE _ _ a,Ha (by omega)];simp_all
theorem yL {D:Str} {F:Option Str} {E:Int} (w:D.all digB=true) (y:(F.getD []).all digB=true) (R:D.length+(F.getD []).length<=50000) (Q:E<=2000000) (C: -2000000<=E) (s:UInt8) (r:Str)
  (M:((s.toNat:Int)==45)=(r==[45])) (u:short (D++dotS F)=true):
  (zb (cutF (D++dotS F,[46])) fun c=>
 need (QU c.1.length c.2.1.length)<|
 zM (X:=Str×Int) (
   bif decide (w64 ((3+E) - (c.2.1.length:Int))<0)then
    need (decide (0<=(if w64 (((c.1++c.2.1).length:Int)+w64 ((3+E) - (c.2.1.length:Int)))>0 then w64 (((c.1++c.2.1).length:Int)+w64 ((3+E) - (c.2.1.length:Int)))else 0))&&decide ((if w64 (((c.1++c.2.1).length:Int)+w64 ((3+E) - (c.2.1.length:Int)))>0 then w64 (((c.1++c.2.1).length:Int)+w64 ((3+E) - (c.2.1.length:Int)))else 0)<=((c.1++c.2.1).length:Int)))<|
    some (LX.out (List.take (if w64 (((c.1++c.2.1).length:Int)+w64 ((3+E) - (c.2.1.length:Int)))>0 then w64 (((c.1++c.2.1).length:Int)+w64 ((3+E) - (c.2.1.length:Int)))else 0).toNat (c.1++c.2.1),w64 ((3+E) - (c.2.1.length:Int))))
   else
    some (LX.out (c.1++c.2.1,w64 ((3+E) - (c.2.1.length:Int))))) fun j=>
 need (decide (j.1.length<=maxLen))<|
 Zf (fun(d:Int×Int)=>
   bif decide (d.2<(j.1.length:Int))then
    need (decide (0<=d.2)&&decide (d.2<(j.1.length:Int)))<|
    zb j.1[d.2.toNat]? fun g=>
    some (LO.again (if 1000000000000<w64 (w64 (10*d.1)+w64 (wu8 ((g.toNat:Int) - 48)))then 1000000000000 else w64 (w64 (10*d.1)+w64 (wu8 ((g.toNat:Int) - 48))),w64 (d.2+1)))
   else
    some (LO.out d.1):Int×Int->Option (LO (Int×Int) (Int) _)) (0,0) fun l=>
 Zf (fun(e:Int×Int)=>
   bif bif bif decide (e.1>0)then decide (e.2>0)else false then decide (e.2<1000000000000)else false then
    some (LO.again (w64 (e.1 - 1),if 1000000000000<w64 (10*e.2)then 1000000000000 else w64 (10*e.2)))
   else
    some (LO.out e.2):Int×Int->Option (LO (Int×Int) (Int) _)) (j.2,l) fun h=>
 zM (X:=Int) (
   bif (s.toNat:Int)==45 then
    some (LX.out (w64 (0 - h)))
   else
    some (LX.out h)) fun k=>
 some k)=some (if r==[45]then -((thoV (D++F.getD []) (3+E - ((F.getD []).length:Int)):Nat):Int)else((thoV (D++F.getD []) (3+E - ((F.getD []).length:Int)):Nat):Int)):=by
 obtain⟨f,m⟩:=zCU w F;have O:cutF (D++dotS F,[46])=some (D,F.getD [],f):=by unfold cutF;rw[zC (by exact u)];exact congrArg some m
 have x:maxLen=9223372036854775807:=rfl;have t:Fh=1000000000000:=rfl;simp only[zb,O,Aa];generalize F.getD []=G at*;rw[zC (si.2 (by omega))];obtain⟨p,L⟩: ∃p:Int,p=3+E - (G.length:Int):=⟨_,rfl⟩;rw[<-L,Zh (n:=p) (by omega) (by omega)];have S:(D++G).all digB=true:=by rw[List.all_append,w,y];rfl
 have K:(D++G).length<=50000:=by rw[Ka];omega
 generalize D++G=A at*;have H: ∀B:Str,B.all digB=true->B.length<=50000->(need (decide (B.length<=maxLen))<|
 Zf (fun(d:Int×Int)=>
   bif decide (d.2<(B.length:Int))then
    need (decide (0<=d.2)&&decide (d.2<(B.length:Int)))<|
    (B[d.2.toNat]?).bind fun g=>
    some (LO.again (if 1000000000000<w64 (w64 (10*d.1)+w64 (wu8 ((g.toNat:Int) - 48)))then 1000000000000 else w64 (w64 (10*d.1)+w64 (wu8 ((g.toNat:Int) - 48))),w64 (d.2+1)))
   else
    some (LO.out d.1):Int×Int->Option (LO (Int×Int) (Int) _)) (0,0) fun l=>
 Zf (fun(e:Int×Int)=>
   bif bif bif decide (e.1>0)then decide (e.2>0)else false then decide (e.2<1000000000000)else false then
    some (LO.again (w64 (e.1 - 1),if 1000000000000<w64 (10*e.2)then 1000000000000 else w64 (10*e.2)))
   else
    some (LO.out e.2):Int×Int->Option (LO (Int×Int) (Int) _)) (p,l) fun h=>
 zM (X:=Int) (
   bif (s.toNat:Int)==45 then
    some (LX.out (w64 (0 - h)))
   else
    some (LX.out h)) fun k=>
 some k)=some (if r==[45]then -((oh p.toNat (capF Fh 0 B):Nat):Int)else((oh p.toNat (capF Fh 0 B):Nat):Int)):=by
  intro B J z;have o:=bz Fh B 0 (Dc _);rw[zC (Ia (by omega))];rw[qW (rM (cap:=Fh) J (by omega) (by omega) (fun v i U=> ?_) (fun v=> ?_))]
  ·have N:=yN p.toNat _ o;rw[qW (E5 (by omega) (by omega) (by omega) (fun a b=> ?_)),M]
   ·cases T:r==[45]with
    |true=> rw[Da,zh,Zh (by omega) (by omega),Ha rfl];congr 1;omega
    |false=>simp_all
   ·simp only
  ·simp_all
  ·grind
 unfold thoV;by_cases q:p<0
 ·rw[Ia q,Da,Ha q];have P:(if w64 ((A.length:Int)+p)>0 then w64 ((A.length:Int)+p)else 0)=((((A.length:Int)+p).toNat:Nat):Int):=by rw[Zh (by omega) (by omega)];split<;>omega
  rw[P,zC (by grind),zh,Eb]
  grind
 ·rw[Ya q,Ba,Ga q,zh]
  grind
theorem IU{n:NumP}(h:n.ok=true)(hl:n.txt.length<=40000):ZH n.txt=some n.val:=by
 obtain⟨sg,D,F,X⟩:=n;unfold NumP.ok at h;simp only[Ea]at h;obtain⟨⟨⟨hsg,hD⟩,hFo⟩,hX⟩:=h;have hF:(F.getD []).all digB=true:=by
  cases F with
  |none=>rfl
  |some f=>grind
 have hne:D++dotS F≠[]:=by
  cases F with
  |none=>simp_all
  |some f=>simp[dotS]
 have hpar:((D++dotS F).all fun b=>digB b||b==46)=true:=by
  rw[List.all_append,uW hD];cases F with
  |none=>rfl
  |some f=>rw[show dotS (some f)=46::f from rfl,Jd,uW (show f.all digB=true from hF)];rfl
 have hlen:sg.length+(D.length+((dotS F).length+(expT X).length))<=40000:=by
  have:(NumP.txt ⟨sg,D,F,X⟩).length=sg.length+(D.length+((dotS F).length+(expT X).length)):=by unfold NumP.txt;simp only[Ka]
  omega
 have hFl:(F.getD []).length<=(dotS F).length:=by
  cases F with
  |none=>grind
  |some f=>show f.length<=(46::f).length;grind
 have hhead: ∀c r,D++(dotS F++expT X)=c::r->List.contains [43,45] c=false:=by
  rw[<-La];intro c r e;cases hq:D++dotS F with
  |nil=>grind
  |cons d q=>
   rw[hq,Sa]at e;injection e with e1 _;subst e1;rw[hq,Jd,Ea,Kc]at hpar;rcases hpar.1 with hd|hd
   ·exact(ug hd).2.2.2.2
   grind
 have hy1: ∃b,geti (NumP.txt ⟨sg,D,F,X⟩) 0=some b/\(((b.toNat:Int)==45)=(sg==[45])):=by
  unfold NumP.txt;show∃b,geti (sg++(D++(dotS F++expT X))) 0=some b/\_;rcases kz hsg with rfl|rfl|rfl
  ·cases hq:D++(dotS F++expT X)with
   |nil=>simp_all
   |cons c r=>
    refine⟨c,rfl,?_⟩;have:=hhead c r hq;refine Fa.2 (fun e=> ?_);have:c=45:=Me.1 (by grind)
    grind
  ·exact⟨43,rfl,rfl⟩
  ·exact⟨45,rfl,rfl⟩
 obtain⟨y1,hg,hyy⟩:=hy1;have t1:mh (NumP.txt ⟨sg,D,F,X⟩,[43,45])=some (D++(dotS F++expT X)):=by unfold mh;rw[zC (show(short ([43,45]:Str)&&kg [43,45])=true by decide)];exact congrArg some (aK hsg hhead)
 unfold ZH;simp only[zb,hg,t1,Aa];have hsh:short (D++dotS F)=true:=Ia (by grind);have hasc:kg (D++dotS F)=true:=jL hpar;cases X with
 |none=>
  have t2:Ti (D++(dotS F++expT none),[101,69])=some (-1):=by show Ti (D++(dotS F++[]),[101,69])=_;rw[Ra];unfold Ti;rw[zC (by simp only[hsh,hasc,Rb,ma];decide)];exact congrArg some (WF _ hpar)
  simp only[t2,Aa,show decide ((-1:Int)>=0)=false from rfl,Ba,zh];rw[show D++(dotS F++expT none)=D++dotS F by show D++(dotS F++[])=_;grind];have:=yL (E:=0) hD hF (by omega) (by omega) (by omega) y1 sg hyy hsh;exact this
 |some ex=>
  obtain⟨e,s,x⟩:=ex;simp only[Ea]at hX;obtain⟨⟨⟨he,hs⟩,hxne⟩,hx⟩:=hX;have he':e=101\/e=69:=by rw[Kc,Ib,Ib]at he;exact he
  have hexl:(expT (some (e,s,x))).length=1+(s.length+x.length):=by show(e::(s++x)).length=_;rw[Ja,Ka];omega
  have hass:D++(dotS F++expT (some (e,s,x)))=(D++dotS F)++e::(s++x):=by rw[<-La];rfl
  have hasx:kg ((D++dotS F)++e::(s++x))=true:=by
   refine Xv (fun b hb=> ?_);rcases Nc.1 hb with hb|hb
   ·exact MX hasc b hb
   ·rcases Fb.1 hb with hb|hb
    ·subst hb;rcases he' with rfl|rfl<;>decide
    ·rcases Nc.1 hb with hb|hb
     ·rcases kz hs with rfl|rfl|rfl
      ·cases hb
      ·simp_all
      simp_all
     ·have:=Xr (Xb.1 hx b hb);omega
  have hlt:((D++dotS F)++e::(s++x)).length<=40000:=by rw[Ka,Ja,Ka,Ka];omega
  have t2:Ti (D++(dotS F++expT (some (e,s,x))),[101,69])=some ((D++dotS F).length:Int):=by rw[hass];unfold Ti;show need (short ((D++dotS F)++e::(s++x))&&short [101,69]&&kg ((D++dotS F)++e::(s++x))&&kg [101,69]) _=_;rw[show short ((D++dotS F)++e::(s++x))=true from Ia (by omega),hasx];exact congrArg some (UL he' (s++x) _ hpar)
  have hdrop:List.drop (D++dotS F).length ((D++dotS F)++e::(s++x))=e::(s++x):=List.drop_left;have hdrop1:List.drop ((D++dotS F).length+1) ((D++dotS F)++e::(s++x))=s++x:=by rw[<-Ve,hdrop];rfl
  have hd0:(D++dotS F).length<=40000:=by rw[Ka];omega
  have hw1:w64 (((D++dotS F).length:Int)+1)=(((D++dotS F).length+1:Nat):Int):=by rw[Zh (by omega) (by omega)];omega
  simp only[t2,Aa];rw[Ia (show(((D++dotS F).length:Nat):Int)>=0 by omega),Da,hw1,hass];have hlt2:(D++dotS F).length+1<=((D++dotS F)++e::(s++x)).length:=by rw[Ka (bs:=e::(s++x)),Ja];omega
  rw[zC (by grind),Eb,hdrop1];have hxh: ∀c r,x=c::r->List.contains [43,45] c=false:=by intro c r e;subst e;rw[Jd,Ea]at hx;exact(ug hx.1).2.2.2.2
  have t4:mh (s++x,[43,45])=some x:=by unfold mh;rw[zC (show(short ([43,45]:Str)&&kg [43,45])=true by decide)];exact congrArg some (aK hs hxh)
  have hxl:x.length<=40000:=by omega
  have hml:maxLen=9223372036854775807:=rfl;simp only[t4,Aa];rw[zC (Ia (by omega))];have hcap:=bz 1048576 x 0 (Dc _);rw[qW (rM (cap:=1048576) hx (by omega) (by omega) (fun v i hi=> ?_) (fun v=> ?_))]
  ·have hg8: ∃y8,geti ((D++dotS F)++e::(s++x)) (((D++dotS F).length+1:Nat):Int)=some y8/\(((y8.toNat:Int)==45)=(s==[45])):=by
    have hgg: ∀(b:UInt8) (r:Str),s++x=b::r->geti ((D++dotS F)++e::(s++x)) (((D++dotS F).length+1:Nat):Int)=some b:=by
     intro b r e1;unfold geti;have:((D++dotS F)++e::(s++x))[(D++dotS F).length+1]? =some b:=by rw[List.getElem?_append_right (by omega),show(D++dotS F).length+1 - (D++dotS F).length=1 by omega,ae,e1];rfl
     rw[Eb,this,Ia (by omega)];rfl
    rcases kz hs with rfl|rfl|rfl
    ·cases hxx:x with
     |nil=>grind
     |cons c r=>
      refine⟨c,by grind,?_⟩;have:=hxh c r hxx;refine Fa.2 (fun e=> ?_);have h45:c=45:=Me.1 (by grind)
      grind
    ·grind
    ·grind
   obtain⟨y8,h8,h8'⟩:=hg8;simp only[h8,Aa];rw[h8'];have hj:(bif s==[45]then(some (LX.out ((D++dotS F)++e::(s++x),3,w64 (0 - ((capF 1048576 0 x:Nat):Int)))):Option (LX (Str×Int×Int) (LX (Str×Int) Int)))else some (LX.out ((D++dotS F)++e::(s++x),3,((capF 1048576 0 x:Nat):Int))))
     =some (LX.out ((D++dotS F)++e::(s++x),3,expV (some (e,s,x)))):=by
    unfold expV;simp only;cases s==[45]with
    |true=>rw[Da,Ha rfl,Zh (by omega) (by omega)];simp
    |false=>grind
   have hEb:expV (some (e,s,x))<=1048576/\ -1048576<=expV (some (e,s,x)):=by unfold expV;simp only;split<;>omega
   refine(congrArg (fun o=>zM (zM o _) _) hj).trans ?_;simp only[zh];rw[show decide ((((D++dotS F).length:Nat):Int)<=((((D++dotS F)++e::(s++x)).length:Nat):Int))=true from Ia (by omega),zC (by rfl)];simp only[zh,Eb,List.take_left];rw[Zh (by omega) (by omega)];exact yL (E:=expV (some (e,s,x))) hD hF (by omega) (by omega) (by omega) y1 sg hyy hsh
  ·simp_all
  ·grind
theorem Rw {S X R:Type} {step:S->Option (LO S X R)} {k:X->Option R} (Inv:S->Prop) (b:S->Nat) (y:R)
  (h: ∀s,Inv s->(∃s',step s=some (.again s')/\Inv s'/\b s'<b s)\/(∃x,step s=some (.out x)/\k x=some y)\/step s=some (.ret y)) {s:S} (d:Inv s):Zf step s k=some y:=by
 have c: ∀(m:Nat) (s:S),b s<m->Inv s-> ∃r:LX X R,qI step m s=some r/\r.go k=some y:=by
  intro m
  induction m with
  |zero=>intro s h;omega
  |succ m i=>
   intro s f d;simp only[qI];rcases h s d with⟨s',a,e,g⟩|⟨x,a,e⟩|a
   ·grind
   ·simp_all
   simp_all
 obtain⟨r,a,e⟩:=c (b s+1) s (by omega) d;rw[Qt (di a)];exact e
theorem RO(p:UInt8->Bool): ∀l:Str,past p l=l.dropWhile p
 |[]=>rfl
 |c::r=>by
  rw[past,Oc];cases h:p c with
  |true=>exact RO p r
  |false=>rfl
theorem Vv(p:UInt8->Bool)(l:Str):l.takeWhile p++past p l=l:=by rw[RO,List.takeWhile_append_dropWhile]
theorem ry(p:UInt8->Bool): ∀l:Str,(l.takeWhile p).all p=true
 |[]=>rfl
 |c::r=>by simp_all
def sgOf(l:Str):Str:=if Pf (atS l 0)then [atS l 0]else []
theorem tJ(l:Str):sgOf l++unsign l=l:=by
 unfold sgOf unsign;cases h:Pf (atS l 0)with
 |false=>rfl
 |true=>
  rw[Ha rfl,Ha rfl];cases l with
  |nil=>exact absurd h (by decide)
  |cons c r=>rfl
theorem UV(l:Str):sgB (sgOf l)=true:=by
 unfold sgOf;cases h:Pf (atS l 0)with
 |false=>rfl
 |true=> rw[Ha rfl];unfold Pf at h;rw[Kc,Ib,Ib]at h;rcases h with h|h<;>rw[h]<;>rfl
def dotP(q:Str):Option Str:=if atS q 0==46&&digB (atS q 1)then some ((q.drop 1).takeWhile digB)else none
def expP(q:Str):Option (UInt8×Str×Str):=
 if(atS q 0==101||atS q 0==69)&&digB (atS (unsign (q.drop 1)) 0)then some (atS q 0,sgOf (q.drop 1),(unsign (q.drop 1)).takeWhile digB)else none
def numP(l:Str):NumP:=⟨sgOf l,(unsign l).takeWhile digB,dotP (past digB (unsign l)),expP (z8 (past digB (unsign l))).1⟩
theorem bY(q:Str):dotS (dotP q)++(z8 q).1=q/\(z8 q).2=(dotP q).isNone:=by
 unfold dotP z8;cases h:atS q 0==46&&digB (atS q 1)with
 |false=>exact⟨rfl,rfl⟩
 |true=>
  rw[Ha rfl,Ha rfl];cases q with
  |nil=>exact absurd h (by decide)
  |cons c r=> rw[Ea,Ib]at h;refine⟨?_,rfl⟩;show(46::List.takeWhile digB r)++past digB r=c::r;rw[Sa,Vv,show c=46 from h.1]
theorem zAp(q:Str):expT (expP q)++(match expS q with|some r=>r|none=>q)=q:=by
 unfold expP expS;cases a:atS q 0==101||atS q 0==69 with
 |false=>rfl
 |true=>
  cases b:digB (atS (unsign (q.drop 1)) 0)with
  |false=>rfl
  |true=>
   simp only[Bool.and_self,Be];cases q with
   |nil=>exact absurd a (by decide)
   |cons c r=> show(c::(sgOf r++List.takeWhile digB (unsign r)))++past digB (unsign r)=c::r;rw[Sa,La,Vv,tJ]
theorem uG(l:Str):(numP l).txt++(zP l).1=l:=by
 have c:=(bY (past digB (unsign l))).1;have b:=zAp (z8 (past digB (unsign l))).1;have a:(zP l).1=(match expS (z8 (past digB (unsign l))).1 with|some r=>r|none=>(z8 (past digB (unsign l))).1):=by unfold zP;simp only;cases expS (z8 (past digB (unsign l))).1<;>rfl
 rw[a];show(sgOf l++(List.takeWhile digB (unsign l)++(dotS (dotP (past digB (unsign l)))++expT (expP (z8 (past digB (unsign l))).1))))++_=l;rw[La,La,La,b,c,Vv,tJ]
theorem iD{p:UInt8->Bool}{q:Str}(h:p (atS q 0)=true)(a:p 0=false):(q.takeWhile p).isEmpty=false:=by
 cases q with
 |nil=>rw[show atS [] 0=0 from rfl,a]at h;cases h
 |cons c r=>rw[List.takeWhile_cons,Ha (show p c=true from h)];rfl
theorem XD{l:Str}(h:nbS l=true):(numP l).ok=true:=by
 unfold NumP.ok numP;simp only[UV,ry,ma,Ea];refine⟨?_,?_⟩
 ·unfold dotP;cases a:atS (past digB (unsign l)) 0==46&&digB (atS (past digB (unsign l)) 1)with
  |true=> rw[Ha rfl];simp only[ry,Rb];rw[Ea]at a;rw[iD (p:=digB) (by rw[Q3];exact a.2) (by decide)];rfl
  |false=>
   rw[Ga (by decide)];simp only;cases b:digB (atS (unsign l) 0)with
   |true=>rw[iD b (by decide)];rfl
   |false=>
    exfalso;have f:past digB (unsign l)=unsign l:=by
     cases e:unsign l with
     |nil=>rfl
     |cons c r=>rw[e]at b;rw[past,Ga (by rw[show digB c=false from b];decide)]
    rw[f]at a;unfold nbS undot at h;cases d:atS (unsign l) 0==46 with
    |false=>grind
    |true=>
     rw[d,Ha rfl,Q3]at h
     grind
 ·unfold expP;cases a:(atS (z8 (past digB (unsign l))).1 0==101||atS (z8 (past digB (unsign l))).1 0==69)&&digB (atS (unsign ((z8 (past digB (unsign l))).1.drop 1)) 0)with
  |false=>rfl
  |true=> rw[Ha rfl];rw[Ea]at a;simp only[a.1,UV,ry,Rb,ma];rw[iD a.2 (by decide)];rfl
theorem zFR{n:NumP}(h:n.ok=true):n.txt≠[]:=by
 obtain⟨c,D,F,X⟩:=n;unfold NumP.ok at h;simp only[Ea]at h;intro e;unfold NumP.txt at e;simp only[List.append_eq_nil_iff]at e;obtain⟨g,b,a,d⟩:=e;subst b;cases F with
 |none=>grind
 |some f=>cases a
theorem fQ{c:UInt8}{r:Str}(h:nbS (c::r)=true):(zP (c::r)).1<:+r:=by
 have e:=uG (c::r);have b:=zFR (XD h);cases a:(numP (c::r)).txt with
 |nil=>grind
 |cons d t=>
  grind
def zI(l:Str):ze×Str:=
 if nmS (zP l).1 then(⟨12,[],(numP l).val,(zq (zP l).1).1,(zP l).2⟩,(zq (zP l).1).2)
 else if atS (zP l).1 0==37 then(⟨11,[],(numP l).val,[],false⟩,(zP l).1.drop 1)
 else(⟨10,[],(numP l).val,[],(zP l).2⟩,(zP l).1)
theorem zCV{s l t e:Str}(a:l<:+s)(h:t++e=l):List.drop (beh s l) (List.take (beh s e) s)=t:=by
 obtain⟨p,rfl⟩:=a;subst h;have c:beh (p++(t++e)) (t++e)=p.length:=by unfold beh;simp only[Ka];omega
 have b:beh (p++(t++e)) e=(p++t).length:=by unfold beh;simp only[Ka];omega
 grind
theorem zA4{s l:Str}(hs:s.length<=40000)(hl:l<:+s)(h:nbS l=true):Zj (sr s l)=some ((zI l).1,sr s (zI l).2):=by
 have hsb:s.length<=big:=by unfold big;omega
 have he:=U3 hl;have hle:=hl.length_le;have hsp:=uG l;have hel:(zP l).1.length<=l.length:=by have:=congrArg List.length hsp;rw[Ka]at this;omega
 have htl:(numP l).txt.length<=40000:=by have:=congrArg List.length hsp;rw[Ka]at this;omega
 unfold Zj;rw[zAq hsb hl];simp only[zb,Aa];have h1:(beh s l:Int)<=(beh s (zP l).1:Int):=by unfold beh;omega
 have h2:=yj s (zP l).1;rw[zC (by simp_all),Eb,Eb,zCV hl hsp,IU (XD h) htl];simp only[Aa];rw[show zB (0,sr s (zP l).1)=some (nmS (zP l).1)from aJ (k:=0) hsb he (by omega)];simp only[Aa];unfold zI;cases hn:nmS (zP l).1 with
 |true=> rw[Da,rC hsb he,Ha rfl];rfl
 |false=>
  rw[Ba,Xg hsb he,Ga (by decide)];simp only[Aa,zGb];cases h37:atS (zP l).1 0==37 with
  |true=> rw[Da,zh,Du hsb he (by grind),Ha rfl]
  |false=>simp_all
theorem PE(l:Str):(zq l).1.length<=4*l.length:=by
 match l with
 |[]=>rw[qR];grind
 |c::r=>
  rw[zR];split
  ·have:=PE r
   grind
  ·split
   ·have b:=Zc r;have a:=Hw r;have:=PE (zt r).2
    grind
   grind
termination_by l.length
decreasing_by
 all_goals grind
def qO(l:Str):ze×Str:=
 if atS (zq l).2 0==40 then
  (if(lowS (zq l).1==[117,114,108])&& !(atS (past spB ((zq l).2.drop 1)) 0==34||atS (past spB ((zq l).2.drop 1)) 0==39)
  then(Fj (urlS (past spB ((zq l).2.drop 1))).1,(urlS (past spB ((zq l).2.drop 1))).2)
  else(⟨2,(zq l).1,0,[],false⟩,(zq l).2.drop 1))
 else(⟨1,(zq l).1,0,[],false⟩,(zq l).2)
theorem zDj{s q:Str}(m:s.length<=40000)(g:q<:+s):Zo (sr s q)=some ((qO q).1,sr s (qO q).2):=by
 have a:s.length<=big:=by unfold big;omega
 have e:(zq q).2<:+s:=(Rk q).trans g;have l:=PE q;have i:=g.length_le;have f:(zq q).1.length<=big:=by unfold big;omega
 unfold Zo;rw[rC a g];simp only[zb,Aa,Xg a e];unfold bne qO;rw[zGc];cases d:atS (zq q).2 0==40 with
 |false=>rfl
 |true=>
  have c:atS (zq q).2 0≠0:=by rw[Ib.1 d];decide
  rw[aa,Ba,Ha rfl,Du a e c,OB f (by decide),Dv];simp only[Aa];have b:=Mk e 1;cases n:lowS (zq q).1==[117,114,108]with
  |false=>rfl
  |true=>
   rw[Da,Oy a b,ma];have k:=Oo spB b;simp only[Aa,Xg a k];rw[FV,DV];cases j:atS (past spB ((zq q).2.drop 1)) 0==34 with
   |true=>rfl
   |false=>
    cases h:atS (past spB ((zq q).2.drop 1)) 0==39 with
    |true=>rfl
    |false=> rw[urlR a b];rfl
theorem zAU{c:UInt8}{r:Str}(h:letB c=true\/escS (c::r)=true):(zq (c::r)).2<:+r:=by
 rw[zR];split
 ·exact Rk r
 ·rename_i a;rw[Ha (h.resolve_left a)];exact(Rk _).trans (qh r)
theorem EN{c:UInt8}{r:Str}(h:nmS (c::r)=true):letB c=true\/escS (c::r)=true:=by
 unfold nmS at h;cases a:atS (c::r) 0==45 with
 |true=> left;rw[show c=45 from Ib.1 a];decide
 |false=>
  rw[a,Ga (by decide),Kc]at h;rcases h with h|h
  ·left;unfold letB;rw[show fstB c=true from h];rfl
  ·exact .inr h
theorem rY{c:UInt8}{r:Str}(h:nmS (c::r)=true):(qO (c::r)).2<:+r:=by
 have b:=zAU (EN h);have a:(zq (c::r)).2.drop 1<:+r:=(Je 1 _).trans b;unfold qO;split
 ·split
  ·exact(fq _).trans ((Am spB _).trans a)
  ·exact a
 ·exact b
def nxU(c:UInt8)(r:Str):ze×Str:=
  if nmS (c::r)then qO (c::r)
  else if Eg c==0 then(⟨9,[c],0,[],false⟩,r)
  else(Hg (Eg c),r)
def nxT(c:UInt8)(r:Str):ze×Str:=
  if nbS (c::r)then zI (c::r)
  else if [45,45,62].isPrefixOf (c::r)then(Hg 15,(c::r).drop 3)
  else if [60,33,45,45].isPrefixOf (c::r)then(Hg 14,(c::r).drop 4)
  else if c==64&&nmS r then(⟨3,(zq r).1,0,[],false⟩,(zq r).2)
  else nxU c r
def Zq:Str->ze×Str
 |[]=>(⟨0,[],0,[],false⟩,[])
 |c::r=>
  if spB c then(Hg 13,past spB (c::r))
  else if c==34||c==39 then(Ij (Za c r).1,(Za c r).2)
  else if c==35&&(letB (atS r 0)||escS r)then(⟨4,(zq r).1,0,[],nmS r⟩,(zq r).2)
  else nxT c r
theorem uo(c:UInt8)(r:Str):Zq (c::r)=
  if spB c then(Hg 13,past spB (c::r))
  else if c==34||c==39 then(Ij (Za c r).1,(Za c r).2)
  else if c==35&&(letB (atS r 0)||escS r)then(⟨4,(zq r).1,0,[],nmS r⟩,(zq r).2)
  else if nbS (c::r)then zI (c::r)
  else if [45,45,62].isPrefixOf (c::r)then(Hg 15,(c::r).drop 3)
  else if [60,33,45,45].isPrefixOf (c::r)then(Hg 14,(c::r).drop 4)
  else if c==64&&nmS r then(⟨3,(zq r).1,0,[],false⟩,(zq r).2)
  else if nmS (c::r)then qO (c::r)
  else if Eg c==0 then(⟨9,[c],0,[],false⟩,r)
  else(Hg (Eg c),r):=rfl
theorem J4{c:UInt8}{r:Str}(h:nbS (c::r)=true):(zI (c::r)).2<:+r:=by
 have a:=fQ h;unfold zI;split
 ·exact(Rk _).trans a
 ·split
  ·exact(Je 1 _).trans a
  ·exact a
theorem Oj(c:UInt8)(r:Str):(Zq (c::r)).2<:+r:=by
 rw[uo];split
 ·rename_i h;show past spB (c::r)<:+r;rw[past,Ha h];exact Am spB r
 ·split
  ·exact Js c r
  ·split
   ·exact Rk r
   ·split
    ·rename_i h;exact J4 h
    ·split
     ·exact Je 2 r
     ·split
      ·exact Je 3 r
      ·split
       ·exact Rk r
       ·split
        ·rename_i h;exact rY h
        grind
theorem zAP(c:UInt8):decide (Lib.indexByte [58,59,44,91,93,40,41,123,125] c>=0)= !(Eg c==0)/\(Eg c≠0->wu8 (16+wu8 (Lib.indexByte [58,59,44,91,93,40,41,123,125] c))=Eg c):=by
 have: ∀n:Nat,n<256->decide (Lib.indexByte [58,59,44,91,93,40,41,123,125] (UInt8.ofNat n)>=0)= !(Eg (UInt8.ofNat n)==0)/\(Eg (UInt8.ofNat n)≠0->wu8 (16+wu8 (Lib.indexByte [58,59,44,91,93,40,41,123,125] (UInt8.ofNat n)))=Eg (UInt8.ofNat n)):=by decide+kernel
 have:=this c.toNat (Ab c);simp_all
theorem il{m q:Str}(h:m.isPrefixOf q=true):m.length<=q.length:=by
 grind
def ut(s:Str)(X:ze×Str):Option (ze×za):=some (X.1,sr s X.2)
theorem zF5{s q:Str}{c:UInt8}{r:Str}(y:s.length<=40000)(b:q<:+s)(D:q=c::r):ZP (sr s q)=some ((Zq q).1,sr s (Zq q).2):=by
 subst D;have a:s.length<=big:=by unfold big;omega
 have A:=Oi b;have J:(c::r).drop 1=r:=rfl;rw[show Zq (c::r)=if spB c then(Hg 13,past spB (c::r))else if c==34||c==39 then(Ij (Za c r).1,(Za c r).2)else if c==35&&(letB (atS r 0)||escS r)then(⟨4,(zq r).1,0,[],nmS r⟩,(zq r).2)else nxT c r from rfl];unfold ZP;simp only[zb,Xg a b,Aa];rw[zC dV];simp only[uu,Aa,FV,DV,zGa,zGd,rD b,Qr,show atS (c::r) 0=c from rfl,oJ];cases Q:spB c with
 |true=> rw[Da,Oy a b,Ha rfl];rfl
 |false=>
  rw[Ba,Ga (by decide)];cases H:c==34||c==39 with
  |true=> rw[Da,zDY a b,Ha rfl];rfl
  |false=>
   rw[Ba,Ga (by decide)];have p:zu (1,sr s (c::r))=some (escS r):=KA (k:=1) a b (by omega);have g:zB (1,sr s (c::r))=some (nmS r):=aJ (k:=1) a b (by omega);have l:zB (0,sr s (c::r))=some (nmS (c::r)):=aJ (k:=0) a b (by omega);have u:(⟨s,w64 ((beh s (c::r):Int)+1)⟩:za)=sr s r:=by rw[Dh a b]
   rw[u];have o:((Zv (sr s (c::r))).bind fun w=>
    bif w then
     (Zj (sr s (c::r))).bind fun j=>
     some (j.1,j.2)
    else
     (some ([45,45,62].isPrefixOf (c::r))).bind fun v=>
     bif v then
      some ((⟨15,[],0,[],false⟩:ze),(⟨s,w64 ((beh s (c::r):Int)+3)⟩:za))
     else
      (some ([60,33,45,45].isPrefixOf (c::r))).bind fun t=>
      bif t then
       some ((⟨14,[],0,[],false⟩:ze),(⟨s,w64 ((beh s (c::r):Int)+4)⟩:za))
      else
       (zo (c==64) (zB (1,sr s (c::r))) (default:Bool)).bind fun h=>
       bif bif c==64 then h else false then
        (zT (sr s r)).bind fun f=>
        some ((⟨3,f.1,0,[],false⟩:ze),f.2)
       else
        (zB (0,sr s (c::r))).bind fun i=>
        bif i then
         (Zo (sr s (c::r))).bind fun d=>
         some (d.1,d.2)
        else
         (strings_IndexByte ([58,59,44,91,93,40,41,123,125],wu8 (pk (c::r) 0))).bind fun e=>
         bif decide (e>=0)then
          some ((⟨wu8 (16+wu8 e),[],0,[],false⟩:ze),sr s r)
         else
          need (decide (1<=((c::r).length:Int)))<|
          some ((⟨9,List.take 1 (c::r),0,[],false⟩:ze),sr s r))=
    ut s (nxT c r):=by
    unfold nxT;simp only[zDD a b,Aa];cases x:nbS (c::r)with
    |true=> rw[Da,zA4 y b x,Ha rfl];rfl
    |false=>
     rw[Ba,Ga (by decide)];cases O:[45,45,62].isPrefixOf (c::r)with
     |true=> rw[Da,Ha rfl,show(3:Int)=((3:Nat):Int)from rfl,BD (n:=3) a b (il O)];rfl
     |false=>
      rw[Ba,Ga (by decide)];cases L:[60,33,45,45].isPrefixOf (c::r)with
      |true=> rw[Da,Ha rfl,show(4:Int)=((4:Nat):Int)from rfl,BD (n:=4) a b (il L)];rfl
      |false=>
       rw[Ba,Ga (by decide),g,l];have m: ∀z:Bool,((some z).bind fun h=>bif h then
        (zT (sr s r)).bind fun f=>
        some ((⟨3,f.1,0,[],false⟩:ze),f.2)
       else
        (some (nmS (c::r))).bind fun i=>
        bif i then
         (Zo (sr s (c::r))).bind fun d=>
         some (d.1,d.2)
        else
         (strings_IndexByte ([58,59,44,91,93,40,41,123,125],wu8 (pk (c::r) 0))).bind fun e=>
         bif decide (e>=0)then
          some ((⟨wu8 (16+wu8 e),[],0,[],false⟩:ze),sr s r)
         else
          need (decide (1<=((c::r).length:Int)))<|
          some ((⟨9,List.take 1 (c::r),0,[],false⟩:ze),sr s r))=ut s (if z then(⟨3,(zq r).1,0,[],false⟩,(zq r).2)else nxU c r):=by
        intro z;unfold nxU;simp only[Aa];cases z with
        |true=> rw[Da,rC a A];rfl
        |false=>
         rw[Ba,Ga (by decide)];cases G:nmS (c::r)with
         |true=>rw[Da,zDj y b];rfl
         |false=>
          rw[Ba,Ga (by decide),yn,Gt];have R:(wu8 (c.toNat:Int)).toNat.toUInt8=c:=by rw[lu,Ef (Ab c),Eb];exact xc
          rw[R];obtain⟨K,S⟩:=zAP c;simp only[Aa,K];cases M:Eg c==0 with
          |true=> rw[aa,Ba,zC (Ia (by grind))];rfl
          |false=> rw[Va,Da,S (Fa.1 M)];rfl
       cases N:c==64 with
       |false=> simp_all
       |true=> have:=m (nmS r);simp_all
   cases C:c==35 with
   |false=> simp only[Zb,Aa,Ba,Rc,Lb];exact o
   |true=>
    simp only[zA,Aa,Da,Rb,ma,Lu a b,EM];have E:atS (c::r) 1=atS r 0:=rfl;rw[E,p];have F:(bif letB (atS r 0)||escS r then(zB (1,sr s (c::r))).bind fun P=>(zT (sr s r)).bind fun B=>some ((⟨4,B.1,0,[],P⟩:ze),B.2)else ut s (nxT c r))=ut s (if(letB (atS r 0)||escS r)then(⟨4,(zq r).1,0,[],nmS r⟩,(zq r).2)else nxT c r):=by
     cases letB (atS r 0)||escS r with
     |false=>rfl
     |true=>rw[Da,g,rC a A];rfl
    show _=ut s (if(letB (atS r 0)||escS r)then(⟨4,(zq r).1,0,[],nmS r⟩,(zq r).2)else nxT c r);rw[<-F];cases T:letB (atS r 0)with
    |true=>rfl
    |false=> simp_all
def clsS:Str->Option Str
 |[]=>none
 |c::r=>if c==42&&atS r 0==47 then some (r.drop 1)else clsS r
theorem Dk: ∀(l:Str) {r:Str},clsS l=some r->r<:+l/\r.length+2<=l.length
 |[],r,h=>by cases h
 |c::t,r,h=>by
  unfold clsS at h;split at h
  ·rename_i a;rw[Ea,Ib,Ib]at a;injection h with h;subst h;have:=Iu (l:=t) (n:=0) (by rw[a.2];decide);exact⟨(Je 1 t).trans (Wd c t),by grind⟩
  ·obtain⟨d,b⟩:=Dk t h
   grind
theorem pre2(b:UInt8)(l:Str):([42,47]:Str).isPrefixOf (b::l)=(b==42&&atS l 0==47):=by
 have c:((42:UInt8)==b)=(b==42):=by rw[Bool.eq_iff_iff,Ib,Ib];exact eq_comm
 rw[List.isPrefixOf,c];cases l with
 |nil=>rfl
 |cons d t=>
  have a:((47:UInt8)==d)=(d==47):=by rw[Bool.eq_iff_iff,Ib,Ib];exact eq_comm
  rw[List.isPrefixOf,a,List.isPrefixOf];rw[Rb];rfl
theorem fO: ∀l:Str,Lib.index l [42,47]=match clsS l with|none=> -1|some r=>((l.length - r.length - 2:Nat):Int)
 |[]=>rfl
 |b::l=>by
  rw[Lib.index,pre2,clsS];cases h:b==42&&atS l 0==47 with
  |true=>
   grind
  |false=>
   simp only[Sb,Od];rw[fO l];cases a:clsS l with
   |none=>rfl
   |some r=>
    have:=(Dk l a).2
    grind
def cmtS(l:Str):Str:=
 if([47,42]:Str).isPrefixOf l then
  (match h:clsS (l.drop 2)with
  |some q=>cmtS q
  |none=>[])
 else l
termination_by l.length
decreasing_by
 have:=(Dk _ h).2
 grind
theorem Li(l:Str):cmtS l=if([47,42]:Str).isPrefixOf l then(match clsS (l.drop 2)with|some q=>cmtS q|none=>[])else l:=by
 rw[cmtS]
 grind
theorem ZK{l:Str}(h:([47,42]:Str).isPrefixOf l=false):cmtS l=l:=by rw[Li,h];rfl
theorem Ck(l:Str):cmtS l<:+l:=by
 rw[Li];split
 ·split
  ·rename_i q b;have a:=Dk _ b;have c:=a.2;rw[Ub]at c;exact(Ck q).trans (a.1.trans (Je 2 l))
  grind
 grind
termination_by l.length
decreasing_by
 grind
theorem Ho(l:Str):cmtS (cmtS l)=cmtS l:=by
 rw[Li l];split
 ·split
  ·rename_i q a;have b:=(Dk _ a).2;rw[Ub]at b;exact Ho q
  ·exact ZK rfl
 ·rename_i h;exact ZK (Bool.eq_false_iff.2 h)
termination_by l.length
decreasing_by
 grind
theorem Br(l:Str):([47,42]:Str).isPrefixOf (cmtS l)=false:=by
 have h:=Ho l;cases b:([47,42]:Str).isPrefixOf (cmtS l)with
 |false=>rfl
 |true=>
  exfalso;rw[Li (cmtS l),b,Ha rfl]at h;have c:=il b;rw[show([47,42]:Str).length=2 from rfl]at c;cases a:clsS ((cmtS l).drop 2)with
  |none=>grind
  |some q=>
   rw[a]at h;have d:=(Dk _ a).2;have e:=(Ck q).length_le
   grind
theorem MP{s q:Str}(hs:s.length<=40000)(hq:q<:+s):Ze (sr s q)=some (sr s (cmtS q)):=by
 have hsb:s.length<=big:=by unfold big;omega
 unfold Ze;refine Rw (fun z=> ∃p,z=sr s p/\p<:+s/\cmtS p=cmtS q) (fun z=>s.length - z.at_.toNat) _ ?_ ⟨q,rfl,hq,rfl⟩;rintro _ ⟨p,rfl,hp,he⟩;rw[zC dV];simp only[zb,rD hp,Qr,Aa];rw[Li p]at he;cases hpre:([47,42]:Str).isPrefixOf p with
 |false=>
  grind
 |true=>
  rw[hpre,Ha rfl]at he;have hl:=il hpre;rw[show([47,42]:Str).length=2 from rfl]at hl;have hle:=hp.length_le;have hb:=iL hp hl;have hb2:=yj s (p.drop 2);rw[Da];have hw:w64 ((beh s p:Int)+2)=((beh s (p.drop 2):Nat):Int):=by rw[<-hb,Zh (by omega) (by omega)];omega
  rw[hw,zC (by grind),rD (Mk hp 2)];have hlen:(p.drop 2).length<=40000:=by rw[Ub];omega
  have hi:Jj (p.drop 2,[42,47])=some (Lib.index (p.drop 2) [42,47]):=by unfold Jj;rw[zC (by exact Ia (show(p.drop 2).length<4294967281 by omega))]
  rw[hi,fO];simp only[Aa];cases hc:clsS (p.drop 2)with
  |none=>
   rw[hc]at he;refine .inr (.inr ?_);rw[<-he];show _=some (LO.ret (⟨s,(beh s []:Int)⟩:za));unfold beh
   grind
  |some r=>
   rw[hc]at he;obtain⟨h1,h2⟩:=Dk _ hc;have hrs:r<:+s:=h1.trans (Mk hp 2);rw[Ub]at h2 hlen;simp only;rw[Ya (by omega),Ba];refine .inl ⟨sr s r,?_,⟨r,rfl,hrs,he⟩,?_⟩
   ·rw[Ub,Zh (n:=_+4) (by omega) (by omega)];have:(beh s p:Int)+(((p.length - 2 - r.length - 2:Nat):Int)+4)=((beh s r:Nat):Int):=by unfold beh;omega
    rw[this,Zh (by grind) (by grind)]
   ·show s.length - beh s r<s.length - beh s p;unfold beh;omega
def Zk(l:Str):List ze:=
 match h:cmtS l with
 |[]=>[]
 |c::r=>(Zq (c::r)).1::Zk (Zq (c::r)).2
termination_by l.length
decreasing_by
 have b:=(Oj c r).length_le;have a:=(Ck l).length_le
 grind
theorem QL{l:Str}(h:cmtS l=[]):Zk l=[]:=by
 rw[Zk]
 grind
theorem Qd{l:Str}{c:UInt8}{r:Str}(h:cmtS l=c::r):Zk l=(Zq (c::r)).1::Zk (Zq (c::r)).2:=by
 rw[Zk]
 grind
theorem cz(l:Str):Zk (cmtS l)=Zk l:=by
 cases h:cmtS l with
 |nil=>rw[QL h];exact QL (ZK rfl)
 |cons c r=> rw[Qd h];exact Qd (by rw[<-h,Ho])
theorem OP: ∀l:Str,(Proofs.Cl.cleanS l).length<=3*l.length:=by
 have: ∀(n:Nat) (l:Str),l.length<=n->(Proofs.Cl.cleanS l).length<=3*l.length:=by
  intro n
  induction n with
  |zero=>
   intro l h;cases l with
   |nil=>rw[Proofs.Cl.cleanS];grind
   |cons c r=>grind
  |succ n ih=>
   intro l h;rw[Proofs.Cl.cleanS.eq_def]
   grind
 exact fun l=>this l.length l (Xa _)
def QW(w:Str):List ze×Int:=if 4000<w.length then([],28)else if 1500<(Zk (Proofs.Cl.cleanS w)).length then([],4)else(Zk (Proofs.Cl.cleanS w),0)
theorem zCB{n:Nat}(h:n<=100000):zH n 1 56=true:=by unfold zH;grind
theorem fP(w:Str):Qz w=some (QW w):=by
 unfold Qz QW;by_cases b:4000<w.length
 ·have e:Kj w=some ([],28):=by unfold Kj;rw[Ha b]
  unfold Gp
  grind
 ·have e:Kj w=some (Proofs.Cl.cleanS w,0):=by unfold Kj;rw[Ga b]
  rw[Ga b];have x:=OP w;generalize Proofs.Cl.cleanS w=s at e x;have o:s.length<=40000:=by omega
  unfold Gp;rw[e];simp only[zb,Aa];rw[show((0:Int) != 0)=false from rfl,Ba,sr_0,MP o (Te s)];simp only[Aa];have f: ∃z:Int×List ze,Zf (fun(d:Int×List ze×za)=>
    bif decide (d.2.2.at_<(s.length:Int))then
     bif decide (w64 (d.1+1)>1500)then
      some (LO.ret (4,d.2.1))
     else
      (ZP d.2.2).bind fun t=>
      (Ql ((t.1,d.2.2.at_,t.2.at_),d.2.1)).bind fun y=>
      (Ze t.2).bind fun A=>
      some (LO.again (w64 (d.1+1),y,A))
    else
     some (LO.out (d.2.1,d.2.2)):Int×List ze×za->Option (LO (Int×List ze×za) (List ze×za) (Int×List ze))) (0,[],sr s (cmtS s)) (fun C=>some (0,C.1))=some z/\
    z=(if 1500<(Zk s).length then(4,(Zk s).take 1500)else(0,Zk s)):=by
   refine⟨_,Rw (fun z=> ∃(a:List ze) (q:Str),z=((a.length:Int),a,sr s q)/\q<:+s/\cmtS q=q/\a.length<=1500/\a++Zk q=Zk s) (fun z=>s.length - z.2.2.at_.toNat) (if 1500<(Zk s).length then(4,(Zk s).take 1500)else(0,Zk s)) ?_ ⟨[],cmtS s,rfl,Ck s,Ho s,by simp,by rw[Ob,cz]⟩,rfl⟩;rintro _ ⟨a,q,rfl,m,n,G,i⟩;simp only;have l:=m.length_le;cases q with
   |nil=>
    have B:((beh s []:Nat):Int)=(s.length:Int):=by unfold beh;rw[Pb];rfl
    have k:decide (((beh s []:Nat):Int)<(s.length:Int))=false:=Ya (by omega);simp only[k,Ba];rw[QL (ZK rfl),Ra]at i
    grind
   |cons c r=>
    rw[Ja]at l;have B:beh s (c::r)<s.length:=by unfold beh;rw[Ja];omega
    have k:decide (((beh s (c::r):Nat):Int)<(s.length:Int))=true:=Ia (by omega);have v:w64 ((a.length:Int)+1)=(a.length:Int)+1:=Zh (by omega) (by omega);simp only[k,Da,v];rw[Qd n]at i;have g:=congrArg List.length i;rw[Ka,Ja]at g;by_cases j:a.length=1500
    ·grind
    ·have p:decide ((a.length:Int)+1>1500)=false:=Ya (by omega);simp only[p,Ba,zF5 o m rfl,Aa];unfold Ql;rw[zC (zCB (by simp only;omega))];have h:(Zq (c::r)).2<:+s:=(Oj c r).trans (Oi m);simp only[Aa,MP o h];refine .inl ⟨_,rfl,⟨a++[(Zq (c::r)).1],cmtS (Zq (c::r)).2,?_,(Ck _).trans h,Ho _,by grind,?_⟩,?_⟩
     ·grind
     ·rw[cz,La];exact i
     ·have E:=(Oj c r).length_le;have F:=(Ck (Zq (c::r)).2).length_le;show s.length - beh s (cmtS (Zq (c::r)).2)<s.length - beh s (c::r);unfold beh at*
      grind
  obtain⟨z,D,u⟩:=f
  grind
end Go.Lv.VT
