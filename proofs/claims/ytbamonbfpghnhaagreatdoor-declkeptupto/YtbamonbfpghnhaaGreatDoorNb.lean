/- The writing of names. -/
import Derived.Test.YtbamonbfpghnhaaGreatDoorNam
set_option linter.unusedSimpArgs false
set_option linter.unusedVariables false
namespace Go.Lv.VT
set_option maxRecDepth 100000
def escC(c:UInt8):Str:=bif decide (32<c.toNat)&&decide (c.toNat<127)&& !digB c&& !alB c then [92,c]else 92::(hexS c.toNat++[32])
def pcW(dash:Bool)(k:Nat)(c:UInt8):Str:=bif letB c&&(k==0|| !digB c)&& !dash then [c]else escC c
def encW(dash:Bool):Nat->Str->Str
 |_,[]=>[]
 |k,c::r=>pcW dash k c++encW dash (k - 1) r
theorem MV(c:UInt8):namN c.toNat=letB c:=by
 have: ∀n:Nat,n<256->namN (UInt8.ofNat n).toNat=letB (UInt8.ofNat n):=by decide+kernel
 have h:=this c.toNat (Jb c);simp_all
theorem kJ(c:UInt8):qV (c.toNat:Int)=some (letB c):=by rw[XQ,MV]
theorem XD(c:UInt8):ZP (c.toNat:Int)=some (digB c):=YQ c
theorem fV(c:UInt8):Mr (c.toNat:Int)=some (alB c):=of_n (by decide+kernel) c
theorem WW(c:UInt8):wu64 (c.toNat:Int)=(c.toNat:Int):=by
 have:=Jb c;show IntKind.u64.wrap _=_;have h: ∀n:Int,IntKind.u64.wrap n=n%18446744073709551616:=fun n=>by simp[IntKind.wrap,IntKind.bits,IntKind.signed]
 rw[h];omega
theorem Ju(c:UInt8):ql ((c.toNat:Nat):Int)=some c:=by simp_all
theorem pK(n:Nat):(hexS n).length<=2:=by unfold hexS;split<;>simp
theorem jl(c:UInt8){acc:Str}(j:acc.length<=1000000000):Zc ((c.toNat:Int),acc)=some (acc++escC c):=by
 have i:=Jb c;unfold Zc escC;simp only[zg,XD,fV];have g:decide ((c.toNat:Int)>32)=decide (32<c.toNat):=by rw[decide_eq_decide];omega
 have f:decide ((c.toNat:Int)<127)=decide (c.toNat<127):=by rw[decide_eq_decide];omega
 rw[g,f];have b:short (acc++[(92:UInt8)])=true:=Ia (by grind);have e:Tn ((wu64 (c.toNat:Int),16),acc++[(92:UInt8)])=some (acc++[(92:UInt8)]++hexS c.toNat):=by unfold Tn;simp only[WW,b];rw[zB (by simp;omega)];rfl
 have h:=pK c.toNat;have a:need (zF acc.length 1 1) (zg (Tn ((wu64 (c.toNat:Int),16),acc++[(92:UInt8)])) fun d=>need (zF d.length 1 1) (some (d++[(32:UInt8)])))=some (acc++92::(hexS c.toNat++[32])):=by rw[zB (Tg (by omega)),e];simp only[zg,Aa];rw[zB (Tg (by grind))];simp
 simp only[zg]at a;rw[a];cases decide (32<c.toNat)with
 |false=>rfl
 |true=>
  cases decide (c.toNat<127)with
  |false=>rfl
  |true=>
   cases digB c with
   |true=>rfl
   |false=>
    cases alB c with
    |true=>rfl
    |false=> simp only[zA,Ea,ja,Bool.and_self,Aa,Ju];rw[zB (Tg (by omega))]
theorem uu(c:UInt8):(escC c).length<=4:=by
 have:=pK c.toNat;unfold escC
 grind
theorem DJ(dash:Bool)(k:Nat)(c:UInt8):(pcW dash k c).length<=4:=by
 have:=uu c;unfold pcW
 grind
theorem Wn(dash:Bool): ∀(k:Nat) (l:Str),(encW dash k l).length<=4*l.length
 |_,[]=>by unfold encW;simp
 |k,c::r=>by
  have:=DJ dash k c;have:=Wn dash (k - 1) r;unfold encW
  grind
theorem JU{dash:Bool}{k i:Nat}{l:Str}(h:i<l.length):encW dash (k - i) (l.drop i)=pcW dash (k - i) l[i]++encW dash (k - (i+1)) (l.drop (i+1)):=by rw[Db h,encW,show k - i - 1=k - (i+1) by omega]
theorem sI {R:Type} {step:Int×List UInt8->Option (LO (Int×List UInt8) (List UInt8) R)} {l acc:Str} {k:Nat} {dash:Bool} (hl:l.length<=100000) (ha:acc.length<=100000000)
  (h1: ∀(i:Nat) (a:Str) (hi:i<l.length),a.length<=500000000->step ((i:Int),a)=some (.again (w64 ((i:Int)+1),a++pcW dash (k - i) l[i])))
  (h2: ∀a,step ((l.length:Int),a)=some (.out a)):Lg step (0,acc)=some (.out (acc++encW dash k l)):=by
 refine ZV (fun z=> ∃(i:Nat) (a:Str),z=((i:Int),a)/\i<=l.length/\a.length<=acc.length+4*i/\a++encW dash (k - i) (l.drop i)=acc++encW dash k l) (fun z=>l.length - z.1.toNat) _ ?_ ⟨0,acc,rfl,by omega,by omega,rfl⟩;rintro _ ⟨i,a,rfl,hi,hal,he⟩;rcases Gd i l.length with h|h
 ·refine .inl ⟨_,h1 i a h (by omega),⟨i+1,_,by rw[Zd (by omega) (by omega)];rfl,by omega,?_,?_⟩,by simp only;rw[Zd (by omega) (by omega)];omega⟩
  ·have:=DJ dash (k - i) l[i]
   grind
  ·rw[<-he,JU h,La]
 ·have:i=l.length:=by omega
  subst this;refine .inr (.inl ⟨_,h2 a,?_⟩);rw[<-he,xe (Xa _)];rw[show encW dash (k - l.length) []=[] by rw[encW],Ua]
def Vh(k:Nat)(l:Str):Bool:= !(k==0)&&l==[45]
def Qr(l:Str):Nat:=if [45].isPrefixOf l then 2 else 1
theorem Yq(l:Str):ZQ l=some ((Qr l:Nat):Int):=by
 unfold ZQ Qr;simp only[zg,Qc,Aa]
 grind
def ZF(l:Str):Str:=encW (l==[45]) (Qr l) l
theorem Su{n:Nat}(h:n<16):Qg (hexD n)=true/\hexN (hexD n)=n/\(hexD n==10)=false/\letB (hexD n)=true:=by
 have: ∀n:Nat,n<16->Qg (hexD n)=true/\hexN (hexD n)=n/\(hexD n==10)=false/\letB (hexD n)=true:=by decide+kernel
 exact this n h
theorem tF{k n:Nat}{c:UInt8}{r:Str}(h:Qg c=true):hexes (k+1) n (c::r)=hexes k (16*n+hexN c) r:=by rw[hexes,Ga h]
theorem iJ{n:Nat}(h:n<256)(R:Str):hexes 6 0 (hexS n++32::R)=(n,32::R):=by
 unfold hexS;by_cases c:n<16
 ·obtain⟨a,b,_⟩:=Su c;rw[Ga c,Oc,tF a,b,VD _ _ (32::R) (show Qg 32=false by decide)];simp
 ·obtain⟨a,b,_⟩:=Su (show n / 16<16 by omega);obtain⟨e,d,_⟩:=Su (show n%16<16 by omega);rw[Fa c,Ra,Oc,tF a,tF e,b,d,VD _ _ (32::R) (show Qg 32=false by decide)]
  grind
theorem WF{n:Nat}(h:n<256)(R:Str): ∃d t,hexS n++R=d::t/\Qg d=true/\(d==10)=false:=by
 unfold hexS;by_cases c:n<16
 ·obtain⟨a,_,b,_⟩:=Su c;simp_all
 ·obtain⟨a,_,b,_⟩:=Su (show n / 16<16 by omega);exact⟨_,_,by rw[Fa c];rfl,a,b⟩
theorem dM{c:UInt8}(a:c≠0)(h:c.toNat<128):Sg c.toNat=[c]:=by
 have b:c.toNat≠0:=by intro e;exact a (Ue.1 e)
 unfold Sg;rw[Fa (by omega),Ga h,Pd]
theorem mM{r:Str}(h:escS (92::r)=true):zm (92::r)=((zq r).1++(zm (zq r).2).1,(zm (zq r).2).2):=by rw[zN,Fa (by decide),Ga h]
theorem TL{c:UInt8}(h0:c≠0)(h:c.toNat<128)(R:Str):zm (escC c++R)=(c::(zm R).1,(zm R).2):=by
 unfold escC;cases hg:decide (32<c.toNat)&&decide (c.toNat<127)&& !digB c&& !alB c with
 |true=>
  rw[Ea];have hx:Qg c=false/\(c==10)=false:=by
   have: ∀n:Nat,n<256->(decide (32<(UInt8.ofNat n).toNat)&&decide ((UInt8.ofNat n).toNat<127)&& !digB (UInt8.ofNat n)&& !alB (UInt8.ofNat n))=true->Qg (UInt8.ofNat n)=false/\(UInt8.ofNat n==10)=false:=by decide+kernel
   have:=this c.toNat (Jb c);rw[Pd]at this;exact this hg
  have he:zq (c::R)=([c],R):=by show(if Qg c then _ else _)=_;rw[Fa (by rw[hx.1];decide)]
  rw[show [92,c]++R=92::c::R from rfl,mM (by unfold escS;rw[show atS (92::c::R) 0=92 from rfl,show atS (92::c::R) 1=c from rfl,hx.2];rfl),he];rfl
 |false=>
  rw[Ca,Ra,La];obtain⟨d,t,e,hd,h10⟩:=WF (n:=c.toNat) (Jb c) ([32]++R);have he:zq (hexS c.toNat++([32]++R))=([c],R):=by have hh:=iJ (n:=c.toNat) (Jb c) R;rw[show(32::R:Str)=[32]++R from rfl,e]at hh;rw[e];show(if Qg d then(Sg (hexes 6 0 (d::t)).1,unsp (hexes 6 0 (d::t)).2)else _)=_;rw[Ga hd,hh,dM h0 h];rfl
  rw[mM (by rw[e];unfold escS;rw[show atS (92::d::t) 0=92 from rfl,show atS (92::d::t) 1=d from rfl,h10];rfl),he];rfl
theorem lD{c:UInt8}(h: ¬c.toNat<128):letB c=true/\digB c=false:=by
 have: ∀n:Nat,n<256-> ¬(UInt8.ofNat n).toNat<128->letB (UInt8.ofNat n)=true/\digB (UInt8.ofNat n)=false:=by decide+kernel
 have:=this c.toNat (Jb c);simp_all
theorem VJ{dash:Bool}{k:Nat}{c:UInt8}(e:c≠0)(f:dash=true->c.toNat<128)(R:Str):zm (pcW dash k c++R)=(c::(zm R).1,(zm R).2):=by
 unfold pcW;cases d:letB c&&(k==0|| !digB c)&& !dash with
 |true=> rw[Da,Da]at d;rw[Ea,Oc,zN,Ga d.1.1]
 |false=>
  rw[Ca];refine TL e ?_ R;by_cases h:c.toNat<128
  ·exact h
  ·obtain⟨a,b⟩:=lD h
   grind
theorem UL{dash:Bool}: ∀(k:Nat) (l:Str),Zv l=true->(dash=true-> ∀c∈l,c.toNat<128)->zm (encW dash k l)=(l,[])
 |_,[],_,_=>by rw[encW,qH]
 |k,c::r,h,a=>by unfold Zv at h;rw[Rc,Da]at h;rw[encW,VJ (by grind) (fun e=>a e c (aa ..)),UL (k - 1) r h.2 (fun e x b=>a e x (Va _ b))]
theorem SN{l:Str}(h:Zv l=true):zm (ZF l)=(l,[]):=by refine UL _ _ h (fun e c a=> ?_);simp_all
theorem ry{dash:Bool}{k:Nat}(hk:0<k)(c:UInt8)(R:Str): ∃d t,pcW dash k c++R=d::t/\(d=92/\escS (d::t)=true\/(d=c/\dash=false/\letB d=true/\digB d=false/\t=R)):=by
 have hk0:(k==0)=false:=by rw[Ha];omega
 unfold pcW;rw[hk0,Ld];cases hg:letB c&& !digB c&& !dash with
 |true=> rw[Da,Da,Yc,Yc]at hg;exact⟨c,R,rfl, .inr ⟨rfl,hg.2,hg.1.1,hg.1.2,rfl⟩⟩
 |false=>
  rw[Ca];unfold escC;cases hg2:decide (32<c.toNat)&&decide (c.toNat<127)&& !digB c&& !alB c with
  |true=>
   refine⟨92,c::R,rfl, .inl ⟨rfl,?_⟩⟩;have:c≠10:=by rintro rfl;revert hg2;decide
   unfold escS;rw[show atS (92::c::R) 1=c from rfl,Ha.2 this];rfl
  |false=> obtain⟨d,t,e,hd,h10⟩:=WF (n:=c.toNat) (Jb c) ([32]++R);refine⟨92,_,by rw[Ca,Ra,La], .inl ⟨rfl,?_⟩⟩;rw[e];unfold escS;rw[show atS (92::d::t) 1=d from rfl,h10];rfl
theorem sM{d:UInt8}(h:letB d=true)(h2:digB d=false):fstB d=true\/d=45:=by
 unfold letB at h
 grind
theorem II{d:UInt8}{t:Str}(a:d=92)(h:escS (d::t)=true):nmS (d::t)=true:=by subst a;unfold nmS;rw[show atS (92::t) 0=92 from rfl,Fa (by decide),h,Vg]
theorem Ki{l:Str}(h:l≠[]):nmS (ZF l)=true:=by
 cases l with
 |nil=>grind
 |cons c r=>
  unfold ZF encW;obtain⟨d,t,e,u⟩:=ry (dash:=(c::r:Str)==[45]) (k:=Qr (c::r)) (by unfold Qr;split<;>omega) c (encW ((c::r:Str)==[45]) (Qr (c::r) - 1) r);rw[e];rcases u with⟨q,j⟩|⟨rfl,j,x,v,o⟩
  ·exact II q j
  ·rcases sM x v with p|rfl
   ·by_cases m:d=45
    ·subst m;exact absurd p (by decide)
    ·unfold nmS;rw[show atS (d::t) 0=d from rfl,Fa (by grind),p,Je]
   ·have C:r≠[]:=by rintro rfl;exact absurd j (by decide)
    cases r with
    |nil=>grind
    |cons f g=>
     have A:Qr (45::f::g)=2:=rfl;rw[A]at o;obtain⟨a,b,y,n⟩:=ry (dash:=(45::f::g:Str)==[45]) (k:=2 - 1) (by omega) f (encW ((45::f::g:Str)==[45]) (2 - 1 - 1) g);have z:t=a::b:=by rw[o,encW,y]
     rw[z];unfold nmS;rw[show atS (45::a::b) 0=45 from rfl,Ga (show((45:UInt8)==45)=true from rfl),show atS (45::a::b) 1=a from rfl,show(45::a::b:Str).drop 1=a::b from rfl];rcases n with⟨_,B⟩|⟨_,_,s,w,_⟩
     ·grind
     ·rcases sM s w with i|rfl
      ·rw[i];rfl
      ·simp
theorem Uo(m:UInt8):zZ m []=(some [],[]):=by rw[zZ]
theorem qF(m c:UInt8)(r:Str):zZ m (c::r)=if c==m then(some [],r)
  else if c==10 then(none,c::r)
  else if c==92 then
   (if r.isEmpty then(some [],[])
   else if atS r 0==10 then zZ m (r.drop 1)
   else((zZ m (zq r).2).1.map ((zq r).1++ ·),(zZ m (zq r).2).2))
  else((zZ m r).1.map (c:: ·),(zZ m r).2):=by rw[zZ]
theorem Dr(m:UInt8)(l:Str):(zZ m l).2<:+l:=by
 match l with
 |[]=>rw[Uo];grind
 |c::r=>
  rw[qF];have a:=Ud c r;split
  ·exact a
  ·split
   ·grind
   ·split
    ·split
     ·grind
     ·split
      ·exact(Dr m (r.drop 1)).trans ((Ie 1 r).trans a)
      ·have:=z8 r;exact(Dr m (zq r).2).trans ((Z7 r).trans a)
    ·exact(Dr m r).trans a
termination_by l.length
decreasing_by
 all_goals grind
theorem xC(a b:Str)(x:Option Str):(x.map (b++ ·)).map (a++ ·)=x.map ((a++b)++ ·):=by
 cases x with
 |none=>rfl
 |some t=>grind
theorem iK(a:Str)(b:UInt8)(x:Option Str):(x.map (b:: ·)).map (a++ ·)=x.map ((a++[b])++ ·):=xC a [b] x
def ni:Option Str->ze
 |some t=>⟨5,t,0,[],false⟩
 |none=>⟨6,[],0,[],false⟩
theorem zAG{s q:Str}{m:UInt8}(k:s.length<=big)(w:m::q<:+s):ZH (sr s (m::q))=some (ni (zZ m q).1,sr s (zZ m q).2):=by
 have J:big=4194304:=rfl;have D:=Li w;unfold ZH;simp only[zg,jg k w,Aa,Gn,Gh k w]
 let g:LX (za×ze×List UInt8) (ze×za):=match(zZ m q).1 with
  |some t=> .out (sr s (zZ m q).2,⟨0,[],0,[],false⟩,t)
  |none=> .ret (⟨6,[],0,[],false⟩,sr s (zZ m q).2)
 rw[QW (r:=g)]
 ·show LX.go g _=_;cases h:(zZ m q).1 with
  |some t=>simp only[g,h];rfl
  |none=>simp only[g,h];rfl
 refine ZV (fun z=> ∃(p e:Str),z=(sr s p,⟨0,[],0,[],false⟩,e)/\p<:+s/\e.length+4*p.length<=4*s.length/\(zZ m q).1=(zZ m p).1.map (e++ ·)/\(zZ m q).2=(zZ m p).2) (fun z=>s.length - z.1.at_.toNat) _ ?_
  ⟨q,[],rfl,D,by grind,by simp,rfl⟩
 rintro _ ⟨p,e,rfl,j,C,b,a⟩;simp only[jg k j,Aa,Tm,SH,JS];cases p with
 |nil=>
  refine .inr (.inl ⟨_,rfl,?_⟩);rw[Uo]at b a
  grind
 |cons c t=>
  have i:=j.length_le;rw[Ka]at i C;have n:=Li j;rw[qF]at b a;rw[show(c::t).isEmpty=false from rfl,Ca,Gn,show((c.toNat:Int)==(m.toNat:Int))=(c==m)from kD c m,show atS (c::t) 0=c from rfl,Gh k j];have f: ∀u:Str,u.length<=t.length->u<:+s->s.length - beh s u<s.length - beh s (c::t):=by intro u A F;unfold beh;rw[Ka];omega
  cases v:c==m with
  |true=>
   grind
  |false=>
   rw[v,Fa (by decide)]at b a;rw[Ca];cases y:c==10 with
   |true=>
    grind
   |false=>
    rw[y,Fa (by decide)]at b a;rw[Ca];cases l:c==92 with
    |false=> rw[l,Fa (by decide)]at b a;simp only[zA,Ca,Aa,Uc,pu];rw[zB (Tg (by omega))];exact .inl ⟨_,rfl,⟨t,e++[c],rfl,n,by grind,by rw[b,iK],a⟩,f t (by omega) n⟩
    |true=>
     rw[l,Ga rfl]at b a;simp only[zA,Ea,Wt k j,Aa,Vb];have x:pk (c::t) 1=pk t 0:=rfl;rw[x,Tm];cases t with
     |nil=>
      rw[show([]:Str).isEmpty=true from rfl,Ga rfl]at b a;have o:beh s [c]=s.length - 1:=rfl;have G:(if((s.length:Int)<w64 ((beh s [c]:Int)+2))then(s.length:Int)else w64 ((beh s [c]:Int)+2))=((beh s []:Nat):Int):=by rw[Zd (by omega) (by omega),Ga (by omega)];unfold beh;rw[Ob];omega
      refine .inl ⟨(sr s [],⟨0,[],0,[],false⟩,e),?_,⟨[],e,rfl,List.nil_suffix,by grind,by rw[b,Uo],by rw[a,Uo]⟩,f [] (by simp) List.nil_suffix⟩
      grind
     |cons d u=>
      rw[show(d::u).isEmpty=false from rfl,Fa (by decide)]at b a;simp only[show(d::u).isEmpty=false from rfl,ja,Ea,Ca,Aa,SH];cases B:atS (d::u) 0==10 with
      |true=>
       rw[B,Ga rfl]at b a;have A:=Li n;rw[Ka]at i C;have o:beh s (c::d::u)=s.length - (u.length+1+1):=by unfold beh;rw[Ka,Ka]
       have G:(if((s.length:Int)<w64 ((beh s (c::d::u):Int)+2))then(s.length:Int)else w64 ((beh s (c::d::u):Int)+2))=((beh s u:Nat):Int):=by rw[Zd (by omega) (by omega),Fa (by omega)];unfold beh;rw[Ka,Ka];omega
       refine .inl ⟨(sr s u,⟨0,[],0,[],false⟩,e),?_,⟨u,e,rfl,A,by omega,b,a⟩,f u (by grind) A⟩
       grind
      |false=> rw[B,Fa (by decide)]at b a;have H:=Dv (d::u);have E:=z8 (d::u);refine .inl ⟨(sr s (zq (d::u)).2,⟨0,[],0,[],false⟩,e++(zq (d::u)).1),?_,⟨_,_,rfl,(Z7 _).trans n,by grind,by rw[b,xC],a⟩,f _ E ((Z7 _).trans n)⟩;simp only[Ca,YF k j (show e.length<=1000000000 by omega),Aa]
theorem BS{n:Nat}(l:n≠0)(h:n<16777216):ZA (w32 (n:Int))=some (Sg n):=by
 have j:zF 0 1 1=true:=Tg (by omega);have f:zF 0 2 1=true:=Tg (by omega);have d:zF 0 3 1=true:=Tg (by omega);have g:zF 0 4 1=true:=Tg (by omega);have c:(128+n%64)<256:=by omega
 have a:(128+n / 64%64)<256:=by omega
 have b:(128+n / 4096%64)<256:=by omega
 unfold ZA qg Sg;simp only[Ll (show n<2147483648 by omega),WK (show n<2147483648 by omega),zg,shr6,vR,uR,lK,ZO c,ZO a,ZO b,Aa];by_cases e:n<128
 ·rw[Ia (by omega),Ea,Fu,ZO (by omega),Aa,zB j,Fa (by omega),Ga e,mf (by omega)]
 ·rw[Ya (by omega),Ca];by_cases i:n<2048
  ·rw[Ia (by omega),Ea,yS (by omega),ZO (by omega)];simp only[Aa];rw[zB f,Fa (by omega),Fa (by omega),Ga i];rfl
  ·rw[Ya (by omega),Ca];by_cases m:n<55296
   ·rw[Ia (by omega),Ea,zh];simp only[Ea];rw[Mw (by omega),ZO (by omega)];simp only[Aa];rw[zB d,Fa (by omega),Fa (by omega),Fa (by omega),Ga (by omega)];rfl
   ·rw[Ya (by omega),Ca,zh];simp only[uH];by_cases k:57343<n/\n<65536
    ·rw[Ia (by omega),Ia (by omega),Vb,Ea,Mw (by omega),ZO (by omega)];simp only[Aa];rw[zB d,Fa (by omega),Fa (by omega),Fa (by omega),Ga (by omega)];rfl
    ·rw[show(decide ((57343:Int)<(n:Int))&&decide ((n:Int)<=65535))=false by grind,Ca];by_cases o:65535<n/\n<=1114111
     ·rw[Ia (by omega),Ia (by omega),Vb,Ea,xS (by omega),ZO (by omega)];simp only[Aa];rw[zB g,Fa (by omega),Fa (by omega),Fa (by omega),Fa (by omega)];rfl
     ·rw[show(decide ((n:Int)>65535)&&decide ((n:Int)<=1114111))=false by grind,Ca,zB d,Ga (by omega)];rfl
theorem oO:ZA 65533=some Vk:=by have h:=BS (n:=65533) (by omega) (by omega);rw[Ll (by omega)]at h;exact h
theorem MZ{s l:Str}{c:UInt8}(hs:s.length<=big)(hr:c::l<:+s):
  Zi (sr s (c::l))=some (sr s (zq l).2,(zq l).1):=by
 have hl:=Li hr;unfold Zi;simp only[Gh hs hr,zg,jg hs hl,Aa,Tm];cases l with
 |nil=> rw[show([]:Str).isEmpty=true from rfl,Ea,oO];rfl
 |cons d r=>
  rw[show(d::r).isEmpty=false from rfl,Ca,Gw];simp only[Aa,Cz];cases hx:Qg (atS (d::r) 0)with
  |false=>
   rw[ja,Ea,Gn,pu];simp only[Aa,Gh hs hl];rw[zB (Tg (n:=0) (by omega))];have:zq (d::r)=([d],r):=by show(if Qg d then _ else _)=_;rw[Fa (by rw[show Qg d=false from hx];decide)]
   rw[this]
  |true=>
   rw[Lb,Ca];have he:zq (d::r)=(Sg (hexes 6 0 (d::r)).1,unsp (hexes 6 0 (d::r)).2):=by show(if Qg d then _ else _)=_;rw[Ga (show Qg d=true from hx)]
   rw[he];rw[qM (OM (l:=d::r) hl (fun n i q hq hn hi=> ?_))]
   ·have hq:(hexes 6 0 (d::r)).2<:+s:=(Ov 6 0 _).trans hl;have hlt:=KE 6 0 (d::r);rw[show 16 ^ 6*(0+1)=16777216 from rfl]at hlt;simp only[jg hs hq,Aa,Eu];have hj:(bif spB (atS (hexes 6 0 (d::r)).2 0)then some (LX.out (((hexes 6 0 (d::r)).1:Int),(⟨s,w64 ((beh s (hexes 6 0 (d::r)).2:Int)+1)⟩:za)))else some (LX.out (((hexes 6 0 (d::r)).1:Int),sr s (hexes 6 0 (d::r)).2)):Option (LX (Int×za) (za×List UInt8)))
      =some (LX.out (((hexes 6 0 (d::r)).1:Int),sr s (unsp (hexes 6 0 (d::r)).2))):=by
     cases hh:(hexes 6 0 (d::r)).2 with
     |nil=>rfl
     |cons e t=>
      rw[hh]at hq;rw[show atS (e::t) 0=e from rfl,Gh hs hq];show _=some (LX.out (_,sr s (if spB e then t else e::t)))
      grind
    rw[hj,zh];simp only;by_cases h0:(hexes 6 0 (d::r)).1=0
    ·rw[h0,show((((0:Nat):Int))==0)=true from rfl,Ea,zh];simp only[Ll (show 65533<2147483648 by omega),show w32 (65533:Int)=65533 from Ll (n:=65533) (by omega),oO,Aa];rfl
    ·rw[show(((hexes 6 0 (d::r)).1:Int)==0)=false by grind,Ca,zh];simp only[BS h0 hlt,Aa]
   ·simp only[jg hs hq,Aa,Gw,Cz];have hb6:decide ((i:Int)<6)=decide (i<6):=by rw[decide_eq_decide];omega
    rw[hb6];cases decide (i<6)with
    |false=>rfl
    |true=>
     rw[Ea,Cb];cases hx2:Qg (atS q 0)with
     |false=>rfl
     |true=>
      cases q with
      |nil=>exact absurd hx2 (by decide)
      |cons e t=>
       have hI:hexI (atS (e::t) 0)=(hexN (atS (e::t) 0):Int):=by unfold hexI;rw[Ga hx2]
       rw[hI,jI hn (dx hx2),Gh hs hq,Zd (by omega) (by omega)];rfl
theorem su:badS []=[]:=by rw[badS]
theorem Jv(c:UInt8)(r:Str):badS (c::r)=if c==41 then r else if escS (c::r)then badS (zq r).2 else badS r:=by rw[badS]
theorem gy(l:Str):badS l<:+l:=by
 match l with
 |[]=>rw[su];grind
 |c::r=>
  rw[Jv];have a:=Ud c r;split
  ·exact a
  ·split
   ·have:=z8 r;exact(gy (zq r).2).trans ((Z7 r).trans a)
   ·exact(gy r).trans a
termination_by l.length
decreasing_by
 all_goals grind
theorem zBA{s t:Str}{c:UInt8}(e:s.length<=big)(h:c::t<:+s):geti s (w64 ((beh s t:Int) - 1))=some c:=by
 have f:big=4194304:=rfl;have b:=h.length_le;rw[Ka]at b;have d:=fq h;have g:beh s t=beh s (c::t)+1:=by unfold beh;rw[Ka];omega
 have a:beh s (c::t)<s.length:=by unfold beh;rw[Ka];omega
 rw[Zd (by omega) (by omega),show(beh s t:Int) - 1=((beh s (c::t):Nat):Int) by omega,Z8 a];rw[Db a]at d
 grind
theorem badR{s q:Str}(e:s.length<=big)(j:q<:+s):Zy (sr s q)=some (⟨8,[],0,[],false⟩,sr s (badS q)):=by
 unfold Zy;refine kF ?_;refine ZV (fun z=> ∃(p:Str),z=(sr s p,(⟨0,[],0,[],false⟩:ze))/\p<:+s/\badS q=badS p) (fun z=>s.length - z.1.at_.toNat) _ ?_ ⟨q,rfl,j,rfl⟩;rintro _ ⟨p,rfl,b,g⟩;simp only[zg,jg e b,Aa,Tm];cases p with
 |nil=>exact .inr (.inr ⟨_,rfl,by rw[g,su]⟩)
 |cons c t=>
  have d:=b.length_le;rw[Ka]at d;have i:=Li b;have f: ∀u:Str,u.length<=t.length->u<:+s->s.length - beh s u<s.length - beh s (c::t):=by intro u l k;unfold beh;rw[Ka];omega
  rw[show(c::t).isEmpty=false from rfl,Ca,PE e b];rw[Jv]at g;simp only[Aa];cases a:escS (c::t)with
  |true=>
   have h:(c==41)=false:=by unfold escS at a;rw[Da,Fb]at a;rw[show c=92 from a.1];decide
   rw[a,h,Fa (by decide),Ga rfl]at g;rw[Ea,MZ e b];exact .inl ⟨_,rfl,⟨_,rfl,(Z7 t).trans i,g⟩,f _ (z8 t) ((Z7 t).trans i)⟩
  |false=>
   rw[Ca,Gh e b,zBA e b];simp only[Aa];rw[show((c.toNat:Int)==41)=(c==41)from kD c 41]
   grind
theorem Nn:urlS []=(some [],[]):=by rw[urlS]
theorem Dk(c:UInt8)(r:Str):urlS (c::r)=if c==41 then(some [],r)
  else if spB c then(match past spB r with
   |[]=>(some [],[])
   |d::a=>if d==41 then(some [],a)else(none,badS (d::a)))
  else if c==34||c==39||c==40||unB c||c==92&& !escS (c::r)then(none,badS (c::r))
  else if c==92 then((urlS (zq r).2).1.map ((zq r).1++ ·),(urlS (zq r).2).2)
  else((urlS r).1.map (c:: ·),(urlS r).2):=by rw[urlS];grind
theorem Hq(l:Str):(urlS l).2<:+l:=by
 match l with
 |[]=>rw[Nn];grind
 |c::r=>
  rw[Dk];have a:=Ud c r;split
  ·exact a
  ·split
   ·have b:=(Yl spB r).trans a;cases e:past spB r with
    |nil=>grind
    |cons d f=>
     rw[e]at b;simp only;split
     ·exact(Ud d f).trans b
     ·exact(gy _).trans b
   ·split
    ·exact gy _
    ·split
     ·have:=z8 r;exact(Hq (zq r).2).trans ((Z7 r).trans a)
     ·exact(Hq r).trans a
termination_by l.length
decreasing_by
 all_goals grind
def mi:Option Str->ze
 |some t=>⟨7,t,0,[],false⟩
 |none=>⟨8,[],0,[],false⟩
theorem zAT(c:UInt8): ∃y,zA (!(bif bif bif bif (c.toNat:Int)==34 then true else(c.toNat:Int)==39 then true else(c.toNat:Int)==40 then true else decide ((c.toNat:Int)<=8)then true else(c.toNat:Int)==11)) (ZT ((c.toNat:Int),14,31)) (default:Bool)=some y/\
  (bif bif bif bif bif bif (c.toNat:Int)==34 then true else(c.toNat:Int)==39 then true else(c.toNat:Int)==40 then true else decide ((c.toNat:Int)<=8)then true else(c.toNat:Int)==11 then true else y then true else(c.toNat:Int)==127)=(c==34||c==39||c==40||unB c):=by
 have a: ∀n:Nat,n<256->((zA (!(bif bif bif bif (n:Int)==34 then true else(n:Int)==39 then true else(n:Int)==40 then true else decide ((n:Int)<=8)then true else(n:Int)==11)) (ZT ((n:Int),14,31)) (default:Bool)).elim false fun y=>
  (bif bif bif bif bif bif (n:Int)==34 then true else(n:Int)==39 then true else(n:Int)==40 then true else decide ((n:Int)<=8)then true else(n:Int)==11 then true else y then true else(n:Int)==127)==(UInt8.ofNat n==34||UInt8.ofNat n==39||UInt8.ofNat n==40||unB (UInt8.ofNat n)))=true:=by decide+kernel
 have h:=a c.toNat (Jb c);rw[Pd]at h;cases b:zA (!(bif bif bif bif (c.toNat:Int)==34 then true else(c.toNat:Int)==39 then true else(c.toNat:Int)==40 then true else decide ((c.toNat:Int)<=8)then true else(c.toNat:Int)==11)) (ZT ((c.toNat:Int),14,31)) (default:Bool)with
 |none=>grind
 |some y=>
  grind
theorem fH(c:UInt8)(t:Str):(pk (c::t) 0== -1)=false:=by rw[Tm];rfl
theorem urlR{s w:Str}(f:s.length<=big)(v:w<:+s):qb (sr s w)=some (mi (urlS (past spB w)).1,sr s (urlS (past spB w)).2):=by
 have L:big=4194304:=rfl;unfold qb;rw[jw f v];simp only[zg,Aa];have E:=Pn spB v;generalize past spB w=q at E ⊢;refine kF ?_;refine ZV (fun z=> ∃(p e:Str),z=(sr s p,(⟨0,[],0,[],false⟩:ze),e)/\p<:+s/\e.length+4*p.length<=4*s.length/\(urlS q).1=(urlS p).1.map (e++ ·)/\(urlS q).2=(urlS p).2) (fun z=>s.length - z.1.at_.toNat) _ ?_
  ⟨q,[],rfl,E,by grind,by simp,rfl⟩
 rintro _ ⟨p,e,rfl,h,G,b,a⟩;simp only[jg f h,Aa,Eu];cases p with
 |nil=> refine .inr (.inr ⟨_,rfl,?_⟩);rw[Nn]at b a;rw[b,a];simp only[ic,Ua,mi]
 |cons c t=>
  have m:=h.length_le;rw[Ka]at m G;have r:=Li h;have k: ∀u:Str,u.length<=t.length->u<:+s->s.length - beh s u<s.length - beh s (c::t):=by intro u M J;unfold beh;rw[Ka];omega
  rw[Dk]at b a;rw[show atS (c::t) 0=c from rfl];cases j:spB c with
  |true=>
   have i:(c==41)=false:=by rw[Ha];rintro rfl;exact absurd j (by decide)
   rw[i,j,Fa (by decide),Ga rfl]at b a;have D:past spB (c::t)=past spB t:=by rw[past,Ga j]
   have g:past spB t<:+s:=Pn spB r;rw[Ea,jw f h,D];simp only[Aa,jg f g];cases o:past spB t with
   |nil=> rw[o]at b a;refine .inr (.inr ⟨_,rfl,?_⟩);simp only at b a;rw[b,a];simp only[ic,Ua,mi]
   |cons d F=>
    rw[o]at b a g;simp only at b a;unfold bne;rw[jH,fH,show atS (d::F) 0=d from rfl];cases C:d==41 with
    |true=> rw[C,Ga rfl]at b a;refine .inr (.inr ⟨_,?_,rfl⟩);simp only[Lb,Ca,zh,fH,jH,show atS (d::F) 0=d from rfl,C,Ea,Gh f g];rw[b,a];simp only[ic,Ua,mi]
    |false=> rw[C,Fa (by decide)]at b a;refine .inr (.inr ⟨_,?_,rfl⟩);simp only[ja,Ea,badR f g,Aa,zuA];rw[b,a];rfl
  |false=>
   rw[Ca,zh];simp only[fH,jH,show atS (c::t) 0=c from rfl,Ca,Gh f h];cases i:c==41 with
   |true=> rw[i,Ga rfl]at b a;refine .inr (.inr ⟨_,by rw[Ea],?_⟩);rw[b,a];simp only[ic,Ua,mi]
   |false=>
    rw[i,Fa (by decide),j,Fa (by decide)]at b a;rw[Ca];obtain⟨y,B,A⟩:=zAT c;rw[Gn,B];simp only[Aa];rw[A];cases x:(c==34||c==39||c==40||unB c)with
    |true=> rw[x,Je,Ga rfl]at b a;refine .inr (.inr ⟨_,?_,rfl⟩);rw[Ea,badR f h];simp only[Aa];rw[b,a];rfl
    |false=>
     rw[x,Ld]at b a;rw[Ca];unfold bne;rw[show((c.toNat:Int)==92)=(c==92)from kD c 92];cases n:c==92 with
     |false=> rw[n,Rb,Fa (by decide),Fa (by decide)]at b a;rw[ja,Ea,pu];simp only[Aa];rw[zB (Tg (by omega))];exact .inl ⟨_,rfl,⟨t,e++[c],rfl,r,by grind,by rw[b,iK],a⟩,k t (Xa _) r⟩
     |true=>
      rw[n,Cb]at b a;rw[Lb,Ca,PE f h];simp only[Aa];cases l:escS (c::t)with
      |true=> rw[l,Lb,Fa (by decide),Ga rfl]at b a;have K:=Dv t;have H:=z8 t;refine .inl ⟨(sr s (zq t).2,⟨0,[],0,[],false⟩,e++(zq t).1),?_,⟨_,_,rfl,(Z7 _).trans r,by grind,by rw[b,xC],a⟩,k _ H ((Z7 _).trans r)⟩;simp only[Ea,YF f h (show e.length<=1000000000 by omega),Aa]
      |false=> rw[l,ja,Ga rfl]at b a;refine .inr (.inr ⟨_,?_,rfl⟩);rw[Ca,badR f h];simp only[Aa];rw[b,a];rfl
def hdB(b:UInt8):Bool:=b==45||fstB b||b==92
theorem Dm{q:Str}(h:nmS q=true):hdB (atS q 0)=true:=by
 unfold nmS at h;unfold hdB;cases a:atS q 0==45 with
 |true=>rfl
 |false=>
  rw[a,Fa (by decide),Kc]at h;rcases h with h|h
  ·rw[h];rfl
  ·unfold escS at h
   grind
theorem Ep{b:UInt8}(h:hdB b=true):spB b=false/\(b==34)=false/\(b==39)=false/\(b==35)=false/\(b==64)=false/\(b==47)=false/\(b==60)=false/\(b==43)=false/\(b==46)=false/\digB b=false/\b≠0:=by
 have: ∀n:Nat,n<256->hdB (UInt8.ofNat n)=true->spB (UInt8.ofNat n)=false/\(UInt8.ofNat n==34)=false/\(UInt8.ofNat n==39)=false/\(UInt8.ofNat n==35)=false/\(UInt8.ofNat n==64)=false/\(UInt8.ofNat n==47)=false/\(UInt8.ofNat n==60)=false/\(UInt8.ofNat n==43)=false/\(UInt8.ofNat n==46)=false/\digB (UInt8.ofNat n)=false/\UInt8.ofNat n≠0:=by decide+kernel
 have:=this b.toNat (Jb b);simp_all
theorem aS{q:Str}(h:nmS q=true):nbS q=false:=by
 obtain⟨_,_,_,_,_,_,_,a,j,f,_⟩:=Ep (Dm h);unfold nbS unsign Rf;rw[a,Ld];cases b:atS q 0==45 with
 |false=>
  rw[Fa (by decide)];unfold undot
  grind
 |true=>
  rw[Ga rfl];unfold nmS at h;rw[b,Ga rfl]at h;have i:hdB (atS q 1)=true:=by
   unfold hdB;cases e:fstB (atS q 1)with
   |true=>simp
   |false=>
    cases g:atS q 1==45 with
    |true=>rfl
    |false=> rw[e,g,Ld,Ld]at h;unfold escS at h;rw[Da,Qu]at h;rw[h.1];rfl
  obtain⟨_,_,_,_,_,_,_,_,d,c,_⟩:=Ep i;unfold undot;rw[Qu,d,Fa (by decide),Qu,c]
theorem VS{s r:Str}:(decide ((0:Int)<=(beh s r:Int))&&decide ((beh s r:Int)<=(s.length:Int)))=true:=by
 have:=Pj s r
 grind
theorem WC{s r:Str}(a:r<:+s):List.drop ((beh s r:Int)).toNat s=r:=by rw[Bb,fq a]
theorem Dq{a b:UInt8}{m t:Str}(h:(b==a)=false):(a::m).isPrefixOf (b::t)=false:=by
 grind
theorem CJ{a:UInt8}{m q:Str}(c:a≠0)(h:(atS q 0==a)=false):(a::m).isPrefixOf q=false:=by
 cases q with
 |nil=>rfl
 |cons b t=>exact Dq h
def capF(cap:Nat):Nat->Str->Nat
 |n,[]=>n
 |n,c::r=>capF cap (min cap (decN n c)) r
theorem sN(cap:Nat): ∀(l:Str) (n:Nat) (c:UInt8),capF cap n (l++[c])=min cap (decN (capF cap n l) c)
 |[],_,_=>rfl
 |d::l,n,c=>by show capF cap (min cap (decN n d)) (l++[c])=_;rw[sN cap l];rfl
theorem ay(cap:Nat): ∀(l:Str) (n:Nat),n<=cap->capF cap n l<=cap
 |[],_,h=>h
 |c::l,n,_=>ay cap l _ (Nat.min_le_left ..)
theorem yL {R:Type} {step:Int×Int->Option (LO (Int×Int) Int R)} {l:Str} {cap:Nat} (b:l.all digB=true) (j:l.length<=100000) (f:cap<=1000000000000)
  (a: ∀(v:Int) (i:Nat) (hi:i<l.length),step (v,(i:Int))=some (.again (if(cap:Int)<w64 (w64 (10*v)+w64 (wu8 ((l[i].toNat:Int) - 48)))then(cap:Int)else w64 (w64 (10*v)+w64 (wu8 ((l[i].toNat:Int) - 48))),w64 ((i:Int)+1))))
  (h2: ∀v:Int,step (v,(l.length:Int))=some (.out v)):Lg step (0,0)=some (.out ((capF cap 0 l:Nat):Int)):=by
 refine ZV (fun s=> ∃i:Nat,i<=l.length/\s=(((capF cap 0 (l.take i):Nat):Int),(i:Int))) (fun s=>l.length - s.2.toNat) _ ?_ ⟨0,by omega,rfl⟩;rintro _ ⟨i,hi,rfl⟩;rcases Gd i l.length with h|h
 ·refine .inl ⟨_,a _ i h,⟨i+1,by omega,?_⟩,by simp only;rw[Zd (by omega) (by omega)];omega⟩;have e:=rq (Pb.1 b _ (Jc h));have d:capF cap 0 (l.take (i+1))=min cap (decN (capF cap 0 (l.take i)) l[i]):=by rw[Dc h,sN]
  have g:=ay cap (l.take i) 0 (ib _);have c:wu8 ((l[i].toNat:Int) - 48)=((l[i].toNat - 48:Nat):Int):=by show IntKind.u8.wrap _=_;rw[IntKind.wrap_u8];omega
  unfold decN at d;rw[c,Zd (n:=10*_) (by omega) (by omega),Zd (n:=((l[i].toNat - 48:Nat):Int)) (by omega) (by omega),Zd (n:=(i:Int)+1) (by omega) (by omega),Zd (by omega) (by omega)];refine Prod.ext ?_ ?_
  ·grind
  ·grind
 grind
theorem kM: ∀(k n:Nat),n<=Jh->mh k n<=Jh
 |0,_,h=>h
 |k+1,n,h=>by
  unfold mh;split
  ·exact h
  ·exact kM k _ (Nat.min_le_left ..)
theorem V3 {R:Type} {step:Int×Int->Option (LO (Int×Int) Int R)} {v:Nat} {p:Int} (n:p<=4000000) (d: -4000000<=p) (i:v<=1000000000000)
  (h: ∀(a b:Int),step (a,b)=bif bif bif decide (a>0)then decide (b>0)else false then decide (b<1000000000000)else false then some (.again (w64 (a - 1),if 1000000000000<w64 (10*b)then 1000000000000 else w64 (10*b)))else some (.out b)):
  Lg step (p,(v:Int))=some (.out ((mh p.toNat v:Nat):Int)):=by
 have o:Jh=1000000000000:=rfl;refine ZV (fun s=> ∃(a:Int) (b:Nat),s=(a,(b:Int))/\a<=4000000/\ -4000000<=a/\b<=1000000000000/\mh a.toNat b=mh p.toNat v) (fun s=>s.1.toNat) _ ?_ ⟨p,v,rfl,n,d,i,rfl⟩;rintro _ ⟨a,b,rfl,r,f,q,c⟩;rw[h];by_cases e:a>0
 ·obtain⟨k,l⟩: ∃k,a.toNat=k+1:=⟨a.toNat - 1,by omega⟩;rw[l,mh]at c;rw[Ia e,Ea];by_cases g:b=0\/Jh<=b
  ·grind
  ·rw[Fa g]at c;have m:decide (((b:Nat):Int)>0)=true:=Ia (by omega);have j:decide (((b:Nat):Int)<1000000000000)=true:=Ia (by omega);rw[m,Ea,j,Ea];refine .inl ⟨_,rfl,⟨a - 1,min Jh (10*b),?_,by omega,by omega,by omega,?_⟩,by simp only;rw[Zd (by omega) (by omega)];omega⟩
   ·rw[Zd (by omega) (by omega),Zd (by omega) (by omega)]
    grind
   grind
 ·rw[Ya e,Ca];refine .inr (.inl ⟨_,rfl,?_⟩);rw[<-c,show a.toNat=0 by omega];rfl
structure NumP where
 sg:Str
 D:Str
 F:Option Str
 X:Option (UInt8×Str×Str)
def dotS:Option Str->Str
 |none=>[]
 |some f=>46::f
def expT:Option (UInt8×Str×Str)->Str
 |none=>[]
 |some (e,s,x)=>e::(s++x)
def NumP.txt(n:NumP):Str:=n.sg++(n.D++(dotS n.F++expT n.X))
def sgB(s:Str):Bool:=s==[]||s==[43]||s==[45]
def NumP.ok(n:NumP):Bool:=sgB n.sg&&n.D.all digB&&(match n.F with|none=> !n.D.isEmpty|some f=> !f.isEmpty&&f.all digB)&&
 (match n.X with|none=>true|some (e,s,x)=>(e==101||e==69)&&sgB s&& !x.isEmpty&&x.all digB)
def expV:Option (UInt8×Str×Str)->Int
 |none=>0
 |some (_,s,x)=>if s==[45]then -((capF 1048576 0 x:Nat):Int)else((capF 1048576 0 x:Nat):Int)
def thoV(A:Str)(p:Int):Nat:=mh p.toNat (capF Jh 0 (if p<0 then A.take ((A.length:Int)+p).toNat else A))
def NumP.val(n:NumP):Int:=
 let v:=thoV (n.D++n.F.getD []) (3+expV n.X - ((n.F.getD []).length:Int))
 if n.sg==[45]then -(v:Int)else(v:Int)
theorem Vz{s:Str}(h:sgB s=true):s=[]\/s=[43]\/s=[45]:=by
 unfold sgB at h
 grind
theorem vI{s q:Str}(h:sgB s=true)(b: ∀c r,q=c::r->List.contains [43,45] c=false):Lib.trimLeftS (s++q) [43,45]=q:=by
 have a:Lib.trimLeftS q [43,45]=q:=by
  unfold Lib.trimLeftS;cases q with
  |nil=>rfl
  |cons c r=>simp_all
 rcases Vz h with rfl|rfl|rfl
 ·exact a
 ·show List.dropWhile _ (43::q)=_;rw[Xd];exact a
 ·show List.dropWhile _ (45::q)=_;rw[Xd];exact a
theorem EK{e:UInt8}(he:e=101\/e=69)(t:Str): ∀(l:Str),(l.all fun b=>digB b||b==46)=true->Lib.indexAny (l++e::t) [101,69]=(l.length:Int)
 |[],_=>by
  rw[Nb,Lib.indexAny]
  grind
 |c::l,h=>by
  rw[Rc,Da]at h;have hc:List.contains [101,69] c=false:=by
   have: ∀n:Nat,n<256->(digB (UInt8.ofNat n)||UInt8.ofNat n==46)=true->List.contains [101,69] (UInt8.ofNat n)=false:=by decide+kernel
   have:=this c.toNat (Jb c);rw[Pd]at this;exact this h.1
  rw[Ra,Lib.indexAny,hc,EK he t l h.2]
  grind
theorem WI{l:Str}(h:l.all digB=true):(l.all fun b=>digB b||b==46)=true:=by
 grind
theorem fu{l:Str}(h: ∀b∈l,b.toNat<128):ng l=true:=by
 unfold ng
 grind
theorem MX{l:Str}(h:ng l=true): ∀b∈l,b.toNat<128:=by
 unfold ng at h
 grind
theorem TU{D:Str}(a:D.all digB=true)(F:Option Str): ∃f,Lib.cut (D++dotS F) [46]=(D,F.getD [],f):=by
 unfold Lib.cut;rw[EA];cases F with
 |none=> rw[show dotS none=[]from rfl,Ua,rD _ a,Fa (by decide)];simp_all
 |some g=> rw[show dotS (some g)=46::g from rfl,TD _ _ a,Ga (by omega)];simp_all
theorem nL {D:Str} {F:Option Str} {E:Int} (w:D.all digB=true) (y:(F.getD []).all digB=true) (R:D.length+(F.getD []).length<=50000) (Q:E<=2000000) (C: -2000000<=E) (s:UInt8) (r:Str)
  (M:((s.toNat:Int)==45)=(r==[45])) (u:short (D++dotS F)=true):
  (zg (cutF (D++dotS F,[46])) fun c=>
 need (df c.1.length c.2.1.length)<|
 zW (X:=Str×Int) (
   bif decide (w64 ((3+E) - (c.2.1.length:Int))<0)then
    need (decide (0<=(if w64 (((c.1++c.2.1).length:Int)+w64 ((3+E) - (c.2.1.length:Int)))>0 then w64 (((c.1++c.2.1).length:Int)+w64 ((3+E) - (c.2.1.length:Int)))else 0))&&decide ((if w64 (((c.1++c.2.1).length:Int)+w64 ((3+E) - (c.2.1.length:Int)))>0 then w64 (((c.1++c.2.1).length:Int)+w64 ((3+E) - (c.2.1.length:Int)))else 0)<=((c.1++c.2.1).length:Int)))<|
    some (LX.out (List.take (if w64 (((c.1++c.2.1).length:Int)+w64 ((3+E) - (c.2.1.length:Int)))>0 then w64 (((c.1++c.2.1).length:Int)+w64 ((3+E) - (c.2.1.length:Int)))else 0).toNat (c.1++c.2.1),w64 ((3+E) - (c.2.1.length:Int))))
   else
    some (LX.out (c.1++c.2.1,w64 ((3+E) - (c.2.1.length:Int))))) fun j=>
 need (decide (j.1.length<=maxLen))<|
 ZE (fun(d:Int×Int)=>
   bif decide (d.2<(j.1.length:Int))then
    need (decide (0<=d.2)&&decide (d.2<(j.1.length:Int)))<|
    zg j.1[d.2.toNat]? fun g=>
    some (LO.again (if 1000000000000<w64 (w64 (10*d.1)+w64 (wu8 ((g.toNat:Int) - 48)))then 1000000000000 else w64 (w64 (10*d.1)+w64 (wu8 ((g.toNat:Int) - 48))),w64 (d.2+1)))
   else
    some (LO.out d.1):Int×Int->Option (LO (Int×Int) (Int) _)) (0,0) fun l=>
 ZE (fun(e:Int×Int)=>
   bif bif bif decide (e.1>0)then decide (e.2>0)else false then decide (e.2<1000000000000)else false then
    some (LO.again (w64 (e.1 - 1),if 1000000000000<w64 (10*e.2)then 1000000000000 else w64 (10*e.2)))
   else
    some (LO.out e.2):Int×Int->Option (LO (Int×Int) (Int) _)) (j.2,l) fun h=>
 zW (X:=Int) (
   bif (s.toNat:Int)==45 then
    some (LX.out (w64 (0 - h)))
   else
    some (LX.out h)) fun k=>
 some k)=some (if r==[45]then -((thoV (D++F.getD []) (3+E - ((F.getD []).length:Int)):Nat):Int)else((thoV (D++F.getD []) (3+E - ((F.getD []).length:Int)):Nat):Int)):=by
 obtain⟨f,m⟩:=TU w F;have O:cutF (D++dotS F,[46])=some (D,F.getD [],f):=by unfold cutF;rw[zB (by exact u)];exact congrArg some m
 have x:maxLen=9223372036854775807:=rfl;have t:Jh=1000000000000:=rfl;simp only[zg,O,Aa];generalize F.getD []=G at*;rw[zB (QH.2 (by omega))];obtain⟨p,L⟩: ∃p:Int,p=3+E - (G.length:Int):=⟨_,rfl⟩;rw[<-L,Zd (n:=p) (by omega) (by omega)];have S:(D++G).all digB=true:=by rw[List.all_append,w,y];rfl
 have K:(D++G).length<=50000:=by rw[Ja];omega
 generalize D++G=A at*;have H: ∀B:Str,B.all digB=true->B.length<=50000->(need (decide (B.length<=maxLen))<|
 ZE (fun(d:Int×Int)=>
   bif decide (d.2<(B.length:Int))then
    need (decide (0<=d.2)&&decide (d.2<(B.length:Int)))<|
    (B[d.2.toNat]?).bind fun g=>
    some (LO.again (if 1000000000000<w64 (w64 (10*d.1)+w64 (wu8 ((g.toNat:Int) - 48)))then 1000000000000 else w64 (w64 (10*d.1)+w64 (wu8 ((g.toNat:Int) - 48))),w64 (d.2+1)))
   else
    some (LO.out d.1):Int×Int->Option (LO (Int×Int) (Int) _)) (0,0) fun l=>
 ZE (fun(e:Int×Int)=>
   bif bif bif decide (e.1>0)then decide (e.2>0)else false then decide (e.2<1000000000000)else false then
    some (LO.again (w64 (e.1 - 1),if 1000000000000<w64 (10*e.2)then 1000000000000 else w64 (10*e.2)))
   else
    some (LO.out e.2):Int×Int->Option (LO (Int×Int) (Int) _)) (p,l) fun h=>
 zW (X:=Int) (
   bif (s.toNat:Int)==45 then
    some (LX.out (w64 (0 - h)))
   else
    some (LX.out h)) fun k=>
 some k)=some (if r==[45]then -((mh p.toNat (capF Jh 0 B):Nat):Int)else((mh p.toNat (capF Jh 0 B):Nat):Int)):=by
  intro B J z;have o:=ay Jh B 0 (ib _);rw[zB (Ia (by omega))];rw[qM (yL (cap:=Jh) J (by omega) (by omega) (fun v i U=> ?_) (fun v=> ?_))]
  ·have N:=kM p.toNat _ o;rw[qM (V3 (by omega) (by omega) (by omega) (fun a b=> ?_)),M]
   ·cases T:r==[45]with
    |true=> rw[Ea,zh,Zd (by omega) (by omega),Ga rfl];congr 1;omega
    |false=>simp_all
   ·simp only
  ·simp_all
  ·grind
 unfold thoV;by_cases q:p<0
 ·rw[Ia q,Ea,Ga q];have P:(if w64 ((A.length:Int)+p)>0 then w64 ((A.length:Int)+p)else 0)=((((A.length:Int)+p).toNat:Nat):Int):=by rw[Zd (by omega) (by omega)];split<;>omega
  rw[P,zB (by grind),zh,Bb]
  grind
 ·rw[Ya q,Ca,Fa q,zh]
  grind
theorem bQ{n:NumP}(h:n.ok=true)(hl:n.txt.length<=40000):Zz n.txt=some n.val:=by
 obtain⟨sg,D,F,X⟩:=n;unfold NumP.ok at h;simp only[Da]at h;obtain⟨⟨⟨hsg,hD⟩,hFo⟩,hX⟩:=h;have hF:(F.getD []).all digB=true:=by
  cases F with
  |none=>rfl
  |some f=>grind
 have hne:D++dotS F≠[]:=by
  cases F with
  |none=>simp_all
  |some f=>simp[dotS]
 have hpar:((D++dotS F).all fun b=>digB b||b==46)=true:=by
  rw[List.all_append,WI hD];cases F with
  |none=>rfl
  |some f=>rw[show dotS (some f)=46::f from rfl,Rc,WI (show f.all digB=true from hF)];rfl
 have hlen:sg.length+(D.length+((dotS F).length+(expT X).length))<=40000:=by
  have:(NumP.txt ⟨sg,D,F,X⟩).length=sg.length+(D.length+((dotS F).length+(expT X).length)):=by unfold NumP.txt;simp only[Ja]
  omega
 have hFl:(F.getD []).length<=(dotS F).length:=by
  cases F with
  |none=>grind
  |some f=>show f.length<=(46::f).length;grind
 have hhead: ∀c r,D++(dotS F++expT X)=c::r->List.contains [43,45] c=false:=by
  rw[<-La];intro c r e;cases hq:D++dotS F with
  |nil=>grind
  |cons d q=>
   rw[hq,Ra]at e;injection e with e1 _;subst e1;rw[hq,Rc,Da,Kc]at hpar;rcases hpar.1 with hd|hd
   ·exact(Q4 hd).2.2.2.2
   grind
 have hy1: ∃b,geti (NumP.txt ⟨sg,D,F,X⟩) 0=some b/\(((b.toNat:Int)==45)=(sg==[45])):=by
  unfold NumP.txt;show∃b,geti (sg++(D++(dotS F++expT X))) 0=some b/\_;rcases Vz hsg with rfl|rfl|rfl
  ·cases hq:D++(dotS F++expT X)with
   |nil=>simp_all
   |cons c r=>
    refine⟨c,rfl,?_⟩;have:=hhead c r hq;refine Ha.2 (fun e=> ?_);have:c=45:=Ue.1 (by grind)
    grind
  ·exact⟨43,rfl,rfl⟩
  ·exact⟨45,rfl,rfl⟩
 obtain⟨y1,hg,hyy⟩:=hy1;have t1:lh (NumP.txt ⟨sg,D,F,X⟩,[43,45])=some (D++(dotS F++expT X)):=by unfold lh;rw[zB (show(short ([43,45]:Str)&&ng [43,45])=true by decide)];exact congrArg some (vI hsg hhead)
 unfold Zz;simp only[zg,hg,t1,Aa];have hsh:short (D++dotS F)=true:=Ia (by grind);have hasc:ng (D++dotS F)=true:=CK hpar;cases X with
 |none=>
  have t2:QD (D++(dotS F++expT none),[101,69])=some (-1):=by show QD (D++(dotS F++[]),[101,69])=_;rw[Ua];unfold QD;rw[zB (by simp only[hsh,hasc,Vb,Cb];decide)];exact congrArg some (RD _ hpar)
  simp only[t2,Aa,show decide ((-1:Int)>=0)=false from rfl,Ca,zh];rw[show D++(dotS F++expT none)=D++dotS F by show D++(dotS F++[])=_;grind];have:=nL (E:=0) hD hF (by omega) (by omega) (by omega) y1 sg hyy hsh;exact this
 |some ex=>
  obtain⟨e,s,x⟩:=ex;simp only[Da]at hX;obtain⟨⟨⟨he,hs⟩,hxne⟩,hx⟩:=hX;have he':e=101\/e=69:=by rw[Kc,Fb,Fb]at he;exact he
  have hexl:(expT (some (e,s,x))).length=1+(s.length+x.length):=by show(e::(s++x)).length=_;rw[Ka,Ja];omega
  have hass:D++(dotS F++expT (some (e,s,x)))=(D++dotS F)++e::(s++x):=by rw[<-La];rfl
  have hasx:ng ((D++dotS F)++e::(s++x))=true:=by
   refine fu (fun b hb=> ?_);rcases Tc.1 hb with hb|hb
   ·exact MX hasc b hb
   ·rcases Ab.1 hb with hb|hb
    ·subst hb;rcases he' with rfl|rfl<;>decide
    ·rcases Tc.1 hb with hb|hb
     ·rcases Vz hs with rfl|rfl|rfl
      ·cases hb
      ·simp_all
      simp_all
     ·have:=rq (Pb.1 hx b hb);omega
  have hlt:((D++dotS F)++e::(s++x)).length<=40000:=by rw[Ja,Ka,Ja,Ja];omega
  have t2:QD (D++(dotS F++expT (some (e,s,x))),[101,69])=some ((D++dotS F).length:Int):=by rw[hass];unfold QD;show need (short ((D++dotS F)++e::(s++x))&&short [101,69]&&ng ((D++dotS F)++e::(s++x))&&ng [101,69]) _=_;rw[show short ((D++dotS F)++e::(s++x))=true from Ia (by omega),hasx];exact congrArg some (EK he' (s++x) _ hpar)
  have hdrop:List.drop (D++dotS F).length ((D++dotS F)++e::(s++x))=e::(s++x):=List.drop_left;have hdrop1:List.drop ((D++dotS F).length+1) ((D++dotS F)++e::(s++x))=s++x:=by rw[<-Te,hdrop];rfl
  have hd0:(D++dotS F).length<=40000:=by rw[Ja];omega
  have hw1:w64 (((D++dotS F).length:Int)+1)=(((D++dotS F).length+1:Nat):Int):=by rw[Zd (by omega) (by omega)];omega
  simp only[t2,Aa];rw[Ia (show(((D++dotS F).length:Nat):Int)>=0 by omega),Ea,hw1,hass];have hlt2:(D++dotS F).length+1<=((D++dotS F)++e::(s++x)).length:=by rw[Ja (bs:=e::(s++x)),Ka];omega
  rw[zB (by grind),Bb,hdrop1];have hxh: ∀c r,x=c::r->List.contains [43,45] c=false:=by intro c r e;subst e;rw[Rc,Da]at hx;exact(Q4 hx.1).2.2.2.2
  have t4:lh (s++x,[43,45])=some x:=by unfold lh;rw[zB (show(short ([43,45]:Str)&&ng [43,45])=true by decide)];exact congrArg some (vI hs hxh)
  have hxl:x.length<=40000:=by omega
  have hml:maxLen=9223372036854775807:=rfl;simp only[t4,Aa];rw[zB (Ia (by omega))];have hcap:=ay 1048576 x 0 (ib _);rw[qM (yL (cap:=1048576) hx (by omega) (by omega) (fun v i hi=> ?_) (fun v=> ?_))]
  ·have hg8: ∃y8,geti ((D++dotS F)++e::(s++x)) (((D++dotS F).length+1:Nat):Int)=some y8/\(((y8.toNat:Int)==45)=(s==[45])):=by
    have hgg: ∀(b:UInt8) (r:Str),s++x=b::r->geti ((D++dotS F)++e::(s++x)) (((D++dotS F).length+1:Nat):Int)=some b:=by
     intro b r e1;unfold geti;have:((D++dotS F)++e::(s++x))[(D++dotS F).length+1]? =some b:=by rw[List.getElem?_append_right (by omega),show(D++dotS F).length+1 - (D++dotS F).length=1 by omega,je,e1];rfl
     rw[Bb,this,Ia (by omega)];rfl
    rcases Vz hs with rfl|rfl|rfl
    ·cases hxx:x with
     |nil=>grind
     |cons c r=>
      refine⟨c,by grind,?_⟩;have:=hxh c r hxx;refine Ha.2 (fun e=> ?_);have h45:c=45:=Ue.1 (by grind)
      grind
    ·grind
    ·grind
   obtain⟨y8,h8,h8'⟩:=hg8;simp only[h8,Aa];rw[h8'];have hj:(bif s==[45]then(some (LX.out ((D++dotS F)++e::(s++x),3,w64 (0 - ((capF 1048576 0 x:Nat):Int)))):Option (LX (Str×Int×Int) (LX (Str×Int) Int)))else some (LX.out ((D++dotS F)++e::(s++x),3,((capF 1048576 0 x:Nat):Int))))
     =some (LX.out ((D++dotS F)++e::(s++x),3,expV (some (e,s,x)))):=by
    unfold expV;simp only;cases s==[45]with
    |true=>rw[Ea,Ga rfl,Zd (by omega) (by omega)];simp
    |false=>grind
   have hEb:expV (some (e,s,x))<=1048576/\ -1048576<=expV (some (e,s,x)):=by unfold expV;simp only;split<;>omega
   refine(congrArg (fun o=>zW (zW o _) _) hj).trans ?_;simp only[zh];rw[show decide ((((D++dotS F).length:Nat):Int)<=((((D++dotS F)++e::(s++x)).length:Nat):Int))=true from Ia (by omega),zB (by rfl)];simp only[zh,Bb,List.take_left];rw[Zd (by omega) (by omega)];exact nL (E:=expV (some (e,s,x))) hD hF (by omega) (by omega) (by omega) y1 sg hyy hsh
  ·simp_all
  ·grind
theorem mq {S X R:Type} {step:S->Option (LO S X R)} {k:X->Option R} (Inv:S->Prop) (b:S->Nat) (y:R)
  (h: ∀s,Inv s->(∃s',step s=some (.again s')/\Inv s'/\b s'<b s)\/(∃x,step s=some (.out x)/\k x=some y)\/step s=some (.ret y)) {s:S} (d:Inv s):ZE step s k=some y:=by
 have c: ∀(m:Nat) (s:S),b s<m->Inv s-> ∃r:LX X R,qL step m s=some r/\r.go k=some y:=by
  intro m
  induction m with
  |zero=>intro s h;omega
  |succ m i=>
   intro s f d;simp only[qL];rcases h s d with⟨s',a,e,g⟩|⟨x,a,e⟩|a
   ·grind
   ·simp_all
   simp_all
 obtain⟨r,a,e⟩:=c (b s+1) s (by omega) d;rw[QW (Aj a)];exact e
theorem yM(p:UInt8->Bool): ∀l:Str,past p l=l.dropWhile p
 |[]=>rfl
 |c::r=>by
  rw[past,Xd];cases h:p c with
  |true=>exact yM p r
  |false=>rfl
theorem Yu(p:UInt8->Bool)(l:Str):l.takeWhile p++past p l=l:=by rw[yM,List.takeWhile_append_dropWhile]
theorem ax(p:UInt8->Bool): ∀l:Str,(l.takeWhile p).all p=true
 |[]=>rfl
 |c::r=>by simp_all
def sgOf(l:Str):Str:=if Rf (atS l 0)then [atS l 0]else []
theorem eH(l:Str):sgOf l++unsign l=l:=by
 unfold sgOf unsign;cases h:Rf (atS l 0)with
 |false=>rfl
 |true=>
  rw[Ga rfl,Ga rfl];cases l with
  |nil=>exact absurd h (by decide)
  |cons c r=>rfl
theorem wR(l:Str):sgB (sgOf l)=true:=by
 unfold sgOf;cases h:Rf (atS l 0)with
 |false=>rfl
 |true=> rw[Ga rfl];unfold Rf at h;rw[Kc,Fb,Fb]at h;rcases h with h|h<;>rw[h]<;>rfl
def dotP(q:Str):Option Str:=if atS q 0==46&&digB (atS q 1)then some ((q.drop 1).takeWhile digB)else none
def expP(q:Str):Option (UInt8×Str×Str):=
 if(atS q 0==101||atS q 0==69)&&digB (atS (unsign (q.drop 1)) 0)then some (atS q 0,sgOf (q.drop 1),(unsign (q.drop 1)).takeWhile digB)else none
def numP(l:Str):NumP:=⟨sgOf l,(unsign l).takeWhile digB,dotP (past digB (unsign l)),expP (zY (past digB (unsign l))).1⟩
theorem OZ(q:Str):dotS (dotP q)++(zY q).1=q/\(zY q).2=(dotP q).isNone:=by
 unfold dotP zY;cases h:atS q 0==46&&digB (atS q 1)with
 |false=>exact⟨rfl,rfl⟩
 |true=>
  rw[Ga rfl,Ga rfl];cases q with
  |nil=>exact absurd h (by decide)
  |cons c r=> rw[Da,Fb]at h;refine⟨?_,rfl⟩;show(46::List.takeWhile digB r)++past digB r=c::r;rw[Ra,Yu,show c=46 from h.1]
theorem VX(q:Str):expT (expP q)++(match expS q with|some r=>r|none=>q)=q:=by
 unfold expP expS;cases a:atS q 0==101||atS q 0==69 with
 |false=>rfl
 |true=>
  cases b:digB (atS (unsign (q.drop 1)) 0)with
  |false=>rfl
  |true=>
   simp only[Bool.and_self,Ce];cases q with
   |nil=>exact absurd a (by decide)
   |cons c r=> show(c::(sgOf r++List.takeWhile digB (unsign r)))++past digB (unsign r)=c::r;rw[Ra,La,Yu,eH]
theorem jF(l:Str):(numP l).txt++(zK l).1=l:=by
 have c:=(OZ (past digB (unsign l))).1;have b:=VX (zY (past digB (unsign l))).1;have a:(zK l).1=(match expS (zY (past digB (unsign l))).1 with|some r=>r|none=>(zY (past digB (unsign l))).1):=by unfold zK;simp only;cases expS (zY (past digB (unsign l))).1<;>rfl
 rw[a];show(sgOf l++(List.takeWhile digB (unsign l)++(dotS (dotP (past digB (unsign l)))++expT (expP (zY (past digB (unsign l))).1))))++_=l;rw[La,La,La,b,c,Yu,eH]
theorem eB{p:UInt8->Bool}{q:Str}(h:p (atS q 0)=true)(a:p 0=false):(q.takeWhile p).isEmpty=false:=by
 cases q with
 |nil=>rw[show atS [] 0=0 from rfl,a]at h;cases h
 |cons c r=>rw[List.takeWhile_cons,Ga (show p c=true from h)];rfl
theorem IC{l:Str}(h:nbS l=true):(numP l).ok=true:=by
 unfold NumP.ok numP;simp only[wR,ax,Cb,Da];refine⟨?_,?_⟩
 ·unfold dotP;cases a:atS (past digB (unsign l)) 0==46&&digB (atS (past digB (unsign l)) 1)with
  |true=> rw[Ga rfl];simp only[ax,Vb];rw[Da]at a;rw[eB (p:=digB) (by rw[Qu];exact a.2) (by decide)];rfl
  |false=>
   rw[Fa (by decide)];simp only;cases b:digB (atS (unsign l) 0)with
   |true=>rw[eB b (by decide)];rfl
   |false=>
    exfalso;have f:past digB (unsign l)=unsign l:=by
     cases e:unsign l with
     |nil=>rfl
     |cons c r=>rw[e]at b;rw[past,Fa (by rw[show digB c=false from b];decide)]
    rw[f]at a;unfold nbS undot at h;cases d:atS (unsign l) 0==46 with
    |false=>grind
    |true=>
     rw[d,Ga rfl,Qu]at h
     grind
 ·unfold expP;cases a:(atS (zY (past digB (unsign l))).1 0==101||atS (zY (past digB (unsign l))).1 0==69)&&digB (atS (unsign ((zY (past digB (unsign l))).1.drop 1)) 0)with
  |false=>rfl
  |true=> rw[Ga rfl];rw[Da]at a;simp only[a.1,wR,ax,Vb,Cb];rw[eB a.2 (by decide)];rfl
theorem zCC{n:NumP}(h:n.ok=true):n.txt≠[]:=by
 obtain⟨c,D,F,X⟩:=n;unfold NumP.ok at h;simp only[Da]at h;intro e;unfold NumP.txt at e;simp only[List.append_eq_nil_iff]at e;obtain⟨g,b,a,d⟩:=e;subst b;cases F with
 |none=>grind
 |some f=>cases a
theorem aP{c:UInt8}{r:Str}(h:nbS (c::r)=true):(zK (c::r)).1<:+r:=by
 have e:=jF (c::r);have b:=zCC (IC h);cases a:(numP (c::r)).txt with
 |nil=>grind
 |cons d t=>
  grind
def zG(l:Str):ze×Str:=
 if nmS (zK l).1 then(⟨12,[],(numP l).val,(zm (zK l).1).1,(zK l).2⟩,(zm (zK l).1).2)
 else if atS (zK l).1 0==37 then(⟨11,[],(numP l).val,[],false⟩,(zK l).1.drop 1)
 else(⟨10,[],(numP l).val,[],(zK l).2⟩,(zK l).1)
theorem RU{s l t e:Str}(a:l<:+s)(h:t++e=l):List.drop (beh s l) (List.take (beh s e) s)=t:=by
 obtain⟨p,rfl⟩:=a;subst h;have c:beh (p++(t++e)) (t++e)=p.length:=by unfold beh;simp only[Ja];omega
 have b:beh (p++(t++e)) e=(p++t).length:=by unfold beh;simp only[Ja];omega
 grind
theorem rV{s l:Str}(hs:s.length<=40000)(hl:l<:+s)(h:nbS l=true):Zf (sr s l)=some ((zG l).1,sr s (zG l).2):=by
 have hsb:s.length<=big:=by unfold big;omega
 have he:=nZ hl;have hle:=hl.length_le;have hsp:=jF l;have hel:(zK l).1.length<=l.length:=by have:=congrArg List.length hsp;rw[Ja]at this;omega
 have htl:(numP l).txt.length<=40000:=by have:=congrArg List.length hsp;rw[Ja]at this;omega
 unfold Zf;rw[UX hsb hl];simp only[zg,Aa];have h1:(beh s l:Int)<=(beh s (zK l).1:Int):=by unfold beh;omega
 have h2:=Pj s (zK l).1;rw[zB (by simp_all),Bb,Bb,RU hl hsp,bQ (IC h) htl];simp only[Aa];rw[show zy (0,sr s (zK l).1)=some (nmS (zK l).1)from aH (k:=0) hsb he (by omega)];simp only[Aa];unfold zG;cases hn:nmS (zK l).1 with
 |true=> rw[Ea,Ew hsb he,Ga rfl];rfl
 |false=>
  rw[Ca,jg hsb he,Fa (by decide)];simp only[Aa,zCX];cases h37:atS (zK l).1 0==37 with
  |true=> rw[Ea,zh,Ps hsb he (by grind),Ga rfl]
  |false=>simp_all
theorem wC(l:Str):(zm l).1.length<=4*l.length:=by
 match l with
 |[]=>rw[qH];grind
 |c::r=>
  rw[zN];split
  ·have:=wC r
   grind
  ·split
   ·have b:=z8 r;have a:=Dv r;have:=wC (zq r).2
    grind
   grind
termination_by l.length
decreasing_by
 all_goals grind
def qE(l:Str):ze×Str:=
 if atS (zm l).2 0==40 then
  (if(lowS (zm l).1==[117,114,108])&& !(atS (past spB ((zm l).2.drop 1)) 0==34||atS (past spB ((zm l).2.drop 1)) 0==39)
  then(mi (urlS (past spB ((zm l).2.drop 1))).1,(urlS (past spB ((zm l).2.drop 1))).2)
  else(⟨2,(zm l).1,0,[],false⟩,(zm l).2.drop 1))
 else(⟨1,(zm l).1,0,[],false⟩,(zm l).2)
theorem vT{s q:Str}(m:s.length<=40000)(g:q<:+s):Zj (sr s q)=some ((qE q).1,sr s (qE q).2):=by
 have a:s.length<=big:=by unfold big;omega
 have e:(zm q).2<:+s:=(Ik q).trans g;have l:=wC q;have i:=g.length_le;have f:(zm q).1.length<=big:=by unfold big;omega
 unfold Zj;rw[Ew a g];simp only[zg,Aa,jg a e];unfold bne qE;rw[zCY];cases d:atS (zm q).2 0==40 with
 |false=>rfl
 |true=>
  have c:atS (zm q).2 0≠0:=by rw[Fb.1 d];decide
  rw[Lb,Ca,Ga rfl,Ps a e c,yz f (by decide),Ky];simp only[Aa];have b:=yj e 1;cases n:lowS (zm q).1==[117,114,108]with
  |false=>rfl
  |true=>
   rw[Ea,jw a b,Cb];have k:=Pn spB b;simp only[Aa,jg a k];rw[MS,KS];cases j:atS (past spB ((zm q).2.drop 1)) 0==34 with
   |true=>rfl
   |false=>
    cases h:atS (past spB ((zm q).2.drop 1)) 0==39 with
    |true=>rfl
    |false=> rw[urlR a b];rfl
theorem yV{c:UInt8}{r:Str}(h:letB c=true\/escS (c::r)=true):(zm (c::r)).2<:+r:=by
 rw[zN];split
 ·exact Ik r
 ·rename_i a;rw[Ga (h.resolve_left a)];exact(Ik _).trans (Z7 r)
theorem lL{c:UInt8}{r:Str}(h:nmS (c::r)=true):letB c=true\/escS (c::r)=true:=by
 unfold nmS at h;cases a:atS (c::r) 0==45 with
 |true=> left;rw[show c=45 from Fb.1 a];decide
 |false=>
  rw[a,Fa (by decide),Kc]at h;rcases h with h|h
  ·left;unfold letB;rw[show fstB c=true from h];rfl
  ·exact .inr h
theorem DY{c:UInt8}{r:Str}(h:nmS (c::r)=true):(qE (c::r)).2<:+r:=by
 have b:=yV (lL h);have a:(zm (c::r)).2.drop 1<:+r:=(Ie 1 _).trans b;unfold qE;split
 ·split
  ·exact(Hq _).trans ((Yl spB _).trans a)
  ·exact a
 ·exact b
def nxU(c:UInt8)(r:Str):ze×Str:=
  if nmS (c::r)then qE (c::r)
  else if Ig c==0 then(⟨9,[c],0,[],false⟩,r)
  else(Mg (Ig c),r)
def nxT(c:UInt8)(r:Str):ze×Str:=
  if nbS (c::r)then zG (c::r)
  else if [45,45,62].isPrefixOf (c::r)then(Mg 15,(c::r).drop 3)
  else if [60,33,45,45].isPrefixOf (c::r)then(Mg 14,(c::r).drop 4)
  else if c==64&&nmS r then(⟨3,(zm r).1,0,[],false⟩,(zm r).2)
  else nxU c r
def Zk:Str->ze×Str
 |[]=>(⟨0,[],0,[],false⟩,[])
 |c::r=>
  if spB c then(Mg 13,past spB (c::r))
  else if c==34||c==39 then(ni (zZ c r).1,(zZ c r).2)
  else if c==35&&(letB (atS r 0)||escS r)then(⟨4,(zm r).1,0,[],nmS r⟩,(zm r).2)
  else nxT c r
theorem Jo(c:UInt8)(r:Str):Zk (c::r)=
  if spB c then(Mg 13,past spB (c::r))
  else if c==34||c==39 then(ni (zZ c r).1,(zZ c r).2)
  else if c==35&&(letB (atS r 0)||escS r)then(⟨4,(zm r).1,0,[],nmS r⟩,(zm r).2)
  else if nbS (c::r)then zG (c::r)
  else if [45,45,62].isPrefixOf (c::r)then(Mg 15,(c::r).drop 3)
  else if [60,33,45,45].isPrefixOf (c::r)then(Mg 14,(c::r).drop 4)
  else if c==64&&nmS r then(⟨3,(zm r).1,0,[],false⟩,(zm r).2)
  else if nmS (c::r)then qE (c::r)
  else if Ig c==0 then(⟨9,[c],0,[],false⟩,r)
  else(Mg (Ig c),r):=rfl
theorem K3{c:UInt8}{r:Str}(h:nbS (c::r)=true):(zG (c::r)).2<:+r:=by
 have a:=aP h;unfold zG;split
 ·exact(Ik _).trans a
 ·split
  ·exact(Ie 1 _).trans a
  ·exact a
theorem ui(c:UInt8)(r:Str):(Zk (c::r)).2<:+r:=by
 rw[Jo];split
 ·rename_i h;show past spB (c::r)<:+r;rw[past,Ga h];exact Yl spB r
 ·split
  ·exact Dr c r
  ·split
   ·exact Ik r
   ·split
    ·rename_i h;exact K3 h
    ·split
     ·exact Ie 2 r
     ·split
      ·exact Ie 3 r
      ·split
       ·exact Ik r
       ·split
        ·rename_i h;exact DY h
        grind
theorem FV(c:UInt8):decide (Lib.indexByte [58,59,44,91,93,40,41,123,125] c>=0)= !(Ig c==0)/\(Ig c≠0->wu8 (16+wu8 (Lib.indexByte [58,59,44,91,93,40,41,123,125] c))=Ig c):=by
 have: ∀n:Nat,n<256->decide (Lib.indexByte [58,59,44,91,93,40,41,123,125] (UInt8.ofNat n)>=0)= !(Ig (UInt8.ofNat n)==0)/\(Ig (UInt8.ofNat n)≠0->wu8 (16+wu8 (Lib.indexByte [58,59,44,91,93,40,41,123,125] (UInt8.ofNat n)))=Ig (UInt8.ofNat n)):=by decide+kernel
 have:=this c.toNat (Jb c);simp_all
theorem Ol{m q:Str}(h:m.isPrefixOf q=true):m.length<=q.length:=by
 grind
def Ms(s:Str)(X:ze×Str):Option (ze×za):=some (X.1,sr s X.2)
theorem zCR{s q:Str}{c:UInt8}{r:Str}(y:s.length<=40000)(b:q<:+s)(D:q=c::r):ZJ (sr s q)=some ((Zk q).1,sr s (Zk q).2):=by
 subst D;have a:s.length<=big:=by unfold big;omega
 have A:=Li b;have J:(c::r).drop 1=r:=rfl;rw[show Zk (c::r)=if spB c then(Mg 13,past spB (c::r))else if c==34||c==39 then(ni (zZ c r).1,(zZ c r).2)else if c==35&&(letB (atS r 0)||escS r)then(⟨4,(zm r).1,0,[],nmS r⟩,(zm r).2)else nxT c r from rfl];unfold ZJ;simp only[zg,jg a b,Aa];rw[zB VS];simp only[Eu,Aa,MS,KS,zCW,zCZ,WC b,Qc,show atS (c::r) 0=c from rfl,VH];cases Q:spB c with
 |true=> rw[Ea,jw a b,Ga rfl];rfl
 |false=>
  rw[Ca,Fa (by decide)];cases H:c==34||c==39 with
  |true=> rw[Ea,zAG a b,Ga rfl];rfl
  |false=>
   rw[Ca,Fa (by decide)];have p:zt (1,sr s (c::r))=some (escS r):=Ez (k:=1) a b (by omega);have g:zy (1,sr s (c::r))=some (nmS r):=aH (k:=1) a b (by omega);have l:zy (0,sr s (c::r))=some (nmS (c::r)):=aH (k:=0) a b (by omega);have u:(⟨s,w64 ((beh s (c::r):Int)+1)⟩:za)=sr s r:=by rw[Gh a b]
   rw[u];have o:((Zo (sr s (c::r))).bind fun w=>
    bif w then
     (Zf (sr s (c::r))).bind fun j=>
     some (j.1,j.2)
    else
     (some ([45,45,62].isPrefixOf (c::r))).bind fun v=>
     bif v then
      some ((⟨15,[],0,[],false⟩:ze),(⟨s,w64 ((beh s (c::r):Int)+3)⟩:za))
     else
      (some ([60,33,45,45].isPrefixOf (c::r))).bind fun t=>
      bif t then
       some ((⟨14,[],0,[],false⟩:ze),(⟨s,w64 ((beh s (c::r):Int)+4)⟩:za))
      else
       (zA (c==64) (zy (1,sr s (c::r))) (default:Bool)).bind fun h=>
       bif bif c==64 then h else false then
        (zP (sr s r)).bind fun f=>
        some ((⟨3,f.1,0,[],false⟩:ze),f.2)
       else
        (zy (0,sr s (c::r))).bind fun i=>
        bif i then
         (Zj (sr s (c::r))).bind fun d=>
         some (d.1,d.2)
        else
         (strings_IndexByte ([58,59,44,91,93,40,41,123,125],wu8 (pk (c::r) 0))).bind fun e=>
         bif decide (e>=0)then
          some ((⟨wu8 (16+wu8 e),[],0,[],false⟩:ze),sr s r)
         else
          need (decide (1<=((c::r).length:Int)))<|
          some ((⟨9,List.take 1 (c::r),0,[],false⟩:ze),sr s r))=
    Ms s (nxT c r):=by
    unfold nxT;simp only[zAl a b,Aa];cases x:nbS (c::r)with
    |true=> rw[Ea,rV y b x,Ga rfl];rfl
    |false=>
     rw[Ca,Fa (by decide)];cases O:[45,45,62].isPrefixOf (c::r)with
     |true=> rw[Ea,Ga rfl,show(3:Int)=((3:Nat):Int)from rfl,Rw (n:=3) a b (Ol O)];rfl
     |false=>
      rw[Ca,Fa (by decide)];cases L:[60,33,45,45].isPrefixOf (c::r)with
      |true=> rw[Ea,Ga rfl,show(4:Int)=((4:Nat):Int)from rfl,Rw (n:=4) a b (Ol L)];rfl
      |false=>
       rw[Ca,Fa (by decide),g,l];have m: ∀z:Bool,((some z).bind fun h=>bif h then
        (zP (sr s r)).bind fun f=>
        some ((⟨3,f.1,0,[],false⟩:ze),f.2)
       else
        (some (nmS (c::r))).bind fun i=>
        bif i then
         (Zj (sr s (c::r))).bind fun d=>
         some (d.1,d.2)
        else
         (strings_IndexByte ([58,59,44,91,93,40,41,123,125],wu8 (pk (c::r) 0))).bind fun e=>
         bif decide (e>=0)then
          some ((⟨wu8 (16+wu8 e),[],0,[],false⟩:ze),sr s r)
         else
          need (decide (1<=((c::r).length:Int)))<|
          some ((⟨9,List.take 1 (c::r),0,[],false⟩:ze),sr s r))=Ms s (if z then(⟨3,(zm r).1,0,[],false⟩,(zm r).2)else nxU c r):=by
        intro z;unfold nxU;simp only[Aa];cases z with
        |true=> rw[Ea,Ew a A];rfl
        |false=>
         rw[Ca,Fa (by decide)];cases G:nmS (c::r)with
         |true=>rw[Ea,vT y b];rfl
         |false=>
          rw[Ca,Fa (by decide),Gn,Xr];have R:(wu8 (c.toNat:Int)).toNat.toUInt8=c:=by rw[Fu,mf (Jb c),Bb];exact Pd
          rw[R];obtain⟨K,S⟩:=FV c;simp only[Aa,K];cases M:Ig c==0 with
          |true=> rw[Lb,Ca,zB (Ia (by grind))];rfl
          |false=> rw[ja,Ea,S (Ha.1 M)];rfl
       cases N:c==64 with
       |false=> simp_all
       |true=> have:=m (nmS r);simp_all
   cases C:c==35 with
   |false=> simp only[Zt,Aa,Ca,Uc,Rb];exact o
   |true=>
    simp only[zQ,Aa,Ea,Vb,Cb,Wt a b,uL];have E:atS (c::r) 1=atS r 0:=rfl;rw[E,p];have F:(bif letB (atS r 0)||escS r then(zy (1,sr s (c::r))).bind fun P=>(zP (sr s r)).bind fun B=>some ((⟨4,B.1,0,[],P⟩:ze),B.2)else Ms s (nxT c r))=Ms s (if(letB (atS r 0)||escS r)then(⟨4,(zm r).1,0,[],nmS r⟩,(zm r).2)else nxT c r):=by
     cases letB (atS r 0)||escS r with
     |false=>rfl
     |true=>rw[Ea,g,Ew a A];rfl
    show _=Ms s (if(letB (atS r 0)||escS r)then(⟨4,(zm r).1,0,[],nmS r⟩,(zm r).2)else nxT c r);rw[<-F];cases T:letB (atS r 0)with
    |true=>rfl
    |false=> simp_all
def clsS:Str->Option Str
 |[]=>none
 |c::r=>if c==42&&atS r 0==47 then some (r.drop 1)else clsS r
theorem Xj: ∀(l:Str) {r:Str},clsS l=some r->r<:+l/\r.length+2<=l.length
 |[],r,h=>by cases h
 |c::t,r,h=>by
  unfold clsS at h;split at h
  ·rename_i a;rw[Da,Fb,Fb]at a;injection h with h;subst h;have:=Dt (l:=t) (n:=0) (by rw[a.2];decide);exact⟨(Ie 1 t).trans (Ud c t),by grind⟩
  ·obtain⟨d,b⟩:=Xj t h
   grind
theorem pre2(b:UInt8)(l:Str):([42,47]:Str).isPrefixOf (b::l)=(b==42&&atS l 0==47):=by
 have c:((42:UInt8)==b)=(b==42):=by rw[Bool.eq_iff_iff,Fb,Fb];exact eq_comm
 rw[List.isPrefixOf,c];cases l with
 |nil=>rfl
 |cons d t=>
  have a:((47:UInt8)==d)=(d==47):=by rw[Bool.eq_iff_iff,Fb,Fb];exact eq_comm
  rw[List.isPrefixOf,a,List.isPrefixOf];rw[Vb];rfl
theorem wM: ∀l:Str,Lib.index l [42,47]=match clsS l with|none=> -1|some r=>((l.length - r.length - 2:Nat):Int)
 |[]=>rfl
 |b::l=>by
  rw[Lib.index,pre2,clsS];cases h:b==42&&atS l 0==47 with
  |true=>
   grind
  |false=>
   simp only[Sb,Od];rw[wM l];cases a:clsS l with
   |none=>rfl
   |some r=>
    have:=(Xj l a).2
    grind
def cmtS(l:Str):Str:=
 if([47,42]:Str).isPrefixOf l then
  (match h:clsS (l.drop 2)with
  |some q=>cmtS q
  |none=>[])
 else l
termination_by l.length
decreasing_by
 have:=(Xj _ h).2
 grind
theorem Ji(l:Str):cmtS l=if([47,42]:Str).isPrefixOf l then(match clsS (l.drop 2)with|some q=>cmtS q|none=>[])else l:=by
 rw[cmtS]
 grind
theorem Zr{l:Str}(h:([47,42]:Str).isPrefixOf l=false):cmtS l=l:=by rw[Ji,h];rfl
theorem uj(l:Str):cmtS l<:+l:=by
 rw[Ji];split
 ·split
  ·rename_i q b;have a:=Xj _ b;have c:=a.2;rw[Ub]at c;exact(uj q).trans (a.1.trans (Ie 2 l))
  grind
 grind
termination_by l.length
decreasing_by
 grind
theorem Sn(l:Str):cmtS (cmtS l)=cmtS l:=by
 rw[Ji l];split
 ·split
  ·rename_i q a;have b:=(Xj _ a).2;rw[Ub]at b;exact Sn q
  ·exact Zr rfl
 ·rename_i h;exact Zr (Bool.eq_false_iff.2 h)
termination_by l.length
decreasing_by
 grind
theorem Nq(l:Str):([47,42]:Str).isPrefixOf (cmtS l)=false:=by
 have h:=Sn l;cases b:([47,42]:Str).isPrefixOf (cmtS l)with
 |false=>rfl
 |true=>
  exfalso;rw[Ji (cmtS l),b,Ga rfl]at h;have c:=Ol b;rw[show([47,42]:Str).length=2 from rfl]at c;cases a:clsS ((cmtS l).drop 2)with
  |none=>grind
  |some q=>
   rw[a]at h;have d:=(Xj _ a).2;have e:=(uj q).length_le
   grind
theorem jN{s q:Str}(hs:s.length<=40000)(hq:q<:+s):Zb (sr s q)=some (sr s (cmtS q)):=by
 have hsb:s.length<=big:=by unfold big;omega
 unfold Zb;refine mq (fun z=> ∃p,z=sr s p/\p<:+s/\cmtS p=cmtS q) (fun z=>s.length - z.at_.toNat) _ ?_ ⟨q,rfl,hq,rfl⟩;rintro _ ⟨p,rfl,hp,he⟩;rw[zB VS];simp only[zg,WC hp,Qc,Aa];rw[Ji p]at he;cases hpre:([47,42]:Str).isPrefixOf p with
 |false=>
  grind
 |true=>
  rw[hpre,Ga rfl]at he;have hl:=Ol hpre;rw[show([47,42]:Str).length=2 from rfl]at hl;have hle:=hp.length_le;have hb:=BK hp hl;have hb2:=Pj s (p.drop 2);rw[Ea];have hw:w64 ((beh s p:Int)+2)=((beh s (p.drop 2):Nat):Int):=by rw[<-hb,Zd (by omega) (by omega)];omega
  rw[hw,zB (by grind),WC (yj hp 2)];have hlen:(p.drop 2).length<=40000:=by rw[Ub];omega
  have hi:di (p.drop 2,[42,47])=some (Lib.index (p.drop 2) [42,47]):=by unfold di;rw[zB (by exact Ia (show(p.drop 2).length<4294967281 by omega))]
  rw[hi,wM];simp only[Aa];cases hc:clsS (p.drop 2)with
  |none=>
   rw[hc]at he;refine .inr (.inr ?_);rw[<-he];show _=some (LO.ret (⟨s,(beh s []:Int)⟩:za));unfold beh
   grind
  |some r=>
   rw[hc]at he;obtain⟨h1,h2⟩:=Xj _ hc;have hrs:r<:+s:=h1.trans (yj hp 2);rw[Ub]at h2 hlen;simp only;rw[Ya (by omega),Ca];refine .inl ⟨sr s r,?_,⟨r,rfl,hrs,he⟩,?_⟩
   ·rw[Ub,Zd (n:=_+4) (by omega) (by omega)];have:(beh s p:Int)+(((p.length - 2 - r.length - 2:Nat):Int)+4)=((beh s r:Nat):Int):=by unfold beh;omega
    rw[this,Zd (by grind) (by grind)]
   ·show s.length - beh s r<s.length - beh s p;unfold beh;omega
def Ze(l:Str):List ze:=
 match h:cmtS l with
 |[]=>[]
 |c::r=>(Zk (c::r)).1::Ze (Zk (c::r)).2
termination_by l.length
decreasing_by
 have b:=(ui c r).length_le;have a:=(uj l).length_le
 grind
theorem Ql{l:Str}(h:cmtS l=[]):Ze l=[]:=by
 rw[Ze]
 grind
theorem qj{l:Str}{c:UInt8}{r:Str}(h:cmtS l=c::r):Ze l=(Zk (c::r)).1::Ze (Zk (c::r)).2:=by
 rw[Ze]
 grind
theorem Oz(l:Str):Ze (cmtS l)=Ze l:=by
 cases h:cmtS l with
 |nil=>rw[Ql h];exact Ql (Zr rfl)
 |cons c r=> rw[qj h];exact qj (by rw[<-h,Sn])
theorem lN: ∀l:Str,(Proofs.Cl.cleanS l).length<=3*l.length:=by
 have: ∀(n:Nat) (l:Str),l.length<=n->(Proofs.Cl.cleanS l).length<=3*l.length:=by
  intro n
  induction n with
  |zero=>
   intro l h;cases l with
   |nil=>rw[Proofs.Cl.cleanS];grind
   |cons c r=>grind
  |succ n ih=>
   intro l h;rw[Proofs.Cl.cleanS.eq_def]
   grind
 exact fun l=>this l.length l (Xa _)
def Qq(w:Str):List ze×Int:=if 4000<w.length then([],28)else if 1500<(Ze (Proofs.Cl.cleanS w)).length then([],4)else(Ze (Proofs.Cl.cleanS w),0)
theorem jT{n:Nat}(h:n<=100000):zF n 1 56=true:=by unfold zF;grind
theorem VN(w:Str):Qf w=some (Qq w):=by
 unfold Qf Qq;by_cases b:4000<w.length
 ·have e:ji w=some ([],28):=by unfold ji;rw[Ga b]
  unfold Po
  grind
 ·have e:ji w=some (Proofs.Cl.cleanS w,0):=by unfold ji;rw[Fa b]
  rw[Fa b];have x:=lN w;generalize Proofs.Cl.cleanS w=s at e x;have o:s.length<=40000:=by omega
  unfold Po;rw[e];simp only[zg,Aa];rw[show((0:Int) != 0)=false from rfl,Ca,sr_0,jN o (Re s)];simp only[Aa];have f: ∃z:Int×List ze,ZE (fun(d:Int×List ze×za)=>
    bif decide (d.2.2.at_<(s.length:Int))then
     bif decide (w64 (d.1+1)>1500)then
      some (LO.ret (4,d.2.1))
     else
      (ZJ d.2.2).bind fun t=>
      (qX ((t.1,d.2.2.at_,t.2.at_),d.2.1)).bind fun y=>
      (Zb t.2).bind fun A=>
      some (LO.again (w64 (d.1+1),y,A))
    else
     some (LO.out (d.2.1,d.2.2)):Int×List ze×za->Option (LO (Int×List ze×za) (List ze×za) (Int×List ze))) (0,[],sr s (cmtS s)) (fun C=>some (0,C.1))=some z/\
    z=(if 1500<(Ze s).length then(4,(Ze s).take 1500)else(0,Ze s)):=by
   refine⟨_,mq (fun z=> ∃(a:List ze) (q:Str),z=((a.length:Int),a,sr s q)/\q<:+s/\cmtS q=q/\a.length<=1500/\a++Ze q=Ze s) (fun z=>s.length - z.2.2.at_.toNat) (if 1500<(Ze s).length then(4,(Ze s).take 1500)else(0,Ze s)) ?_ ⟨[],cmtS s,rfl,uj s,Sn s,by simp,by rw[Nb,Oz]⟩,rfl⟩;rintro _ ⟨a,q,rfl,m,n,G,i⟩;simp only;have l:=m.length_le;cases q with
   |nil=>
    have B:((beh s []:Nat):Int)=(s.length:Int):=by unfold beh;rw[Ob];rfl
    have k:decide (((beh s []:Nat):Int)<(s.length:Int))=false:=Ya (by omega);simp only[k,Ca];rw[Ql (Zr rfl),Ua]at i
    grind
   |cons c r=>
    rw[Ka]at l;have B:beh s (c::r)<s.length:=by unfold beh;rw[Ka];omega
    have k:decide (((beh s (c::r):Nat):Int)<(s.length:Int))=true:=Ia (by omega);have v:w64 ((a.length:Int)+1)=(a.length:Int)+1:=Zd (by omega) (by omega);simp only[k,Ea,v];rw[qj n]at i;have g:=congrArg List.length i;rw[Ja,Ka]at g;by_cases j:a.length=1500
    ·grind
    ·have p:decide ((a.length:Int)+1>1500)=false:=Ya (by omega);simp only[p,Ca,zCR o m rfl,Aa];unfold qX;rw[zB (jT (by simp only;omega))];have h:(Zk (c::r)).2<:+s:=(ui c r).trans (Li m);simp only[Aa,jN o h];refine .inl ⟨_,rfl,⟨a++[(Zk (c::r)).1],cmtS (Zk (c::r)).2,?_,(uj _).trans h,Sn _,by grind,?_⟩,?_⟩
     ·grind
     ·rw[Oz,La];exact i
     ·have E:=(ui c r).length_le;have F:=(uj (Zk (c::r)).2).length_le;show s.length - beh s (cmtS (Zk (c::r)).2)<s.length - beh s (c::r);unfold beh at*
      grind
  obtain⟨z,D,u⟩:=f
  grind
end Go.Lv.VT
