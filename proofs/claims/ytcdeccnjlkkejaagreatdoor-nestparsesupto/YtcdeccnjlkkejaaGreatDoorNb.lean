/- The writing of names. -/
import Derived.Test.YtcdeccnjlkkejaaGreatDoorNam
set_option linter.unusedSimpArgs false
set_option linter.unusedVariables false
namespace Go.Lv.VT
set_option maxRecDepth 100000
def escC(c:UInt8):Str:=bif decide (32<c.toNat)&&decide (c.toNat<127)&& !digB c&& !alB c then [92,c]else 92::(hexS c.toNat++[32])
def pcW(dash:Bool)(k:Nat)(c:UInt8):Str:=bif letB c&&(k==0|| !digB c)&& !dash then [c]else escC c
def encW(dash:Bool):Nat->Str->Str
 |_,[]=>[]
 |k,c::r=>pcW dash k c++encW dash (k - 1) r
theorem OV(c:UInt8):namN c.toNat=letB c:=by
 have: ∀n:Nat,n<256->namN (UInt8.ofNat n).toNat=letB (UInt8.ofNat n):=by decide+kernel
 have h:=this c.toNat (aa c);simp_all
theorem IU(c:UInt8):nk (c.toNat:Int)=some (letB c):=by rw[FP,OV]
theorem pI(c:UInt8):qz (c.toNat:Int)=some (digB c):=IP c
theorem aV(c:UInt8):Tq (c.toNat:Int)=some (alB c):=of_n (by decide+kernel) c
theorem LW(c:UInt8):wu64 (c.toNat:Int)=(c.toNat:Int):=by
 have:=aa c;show IntKind.u64.wrap _=_;have h: ∀n:Int,IntKind.u64.wrap n=n%18446744073709551616:=fun n=>by simp[IntKind.wrap,IntKind.bits,IntKind.signed]
 rw[h];omega
theorem Mt(c:UInt8):ZO ((c.toNat:Nat):Int)=some c:=by simp_all
theorem fK(n:Nat):(hexS n).length<=2:=by unfold hexS;split<;>simp
theorem Hq(c:UInt8){acc:Str}(j:acc.length<=1000000000):ZZ ((c.toNat:Int),acc)=some (acc++escC c):=by
 have i:=aa c;unfold ZZ escC;simp only[ze,pI,aV];have g:decide ((c.toNat:Int)>32)=decide (32<c.toNat):=by rw[decide_eq_decide];omega
 have f:decide ((c.toNat:Int)<127)=decide (c.toNat<127):=by rw[decide_eq_decide];omega
 rw[g,f];have b:short (acc++[(92:UInt8)])=true:=Fa (by grind);have e:Rm ((wu64 (c.toNat:Int),16),acc++[(92:UInt8)])=some (acc++[(92:UInt8)]++hexS c.toNat):=by unfold Rm;simp only[LW,b];rw[zm (by simp;omega)];rfl
 have h:=fK c.toNat;have a:need (zQ acc.length 1 1) (ze (Rm ((wu64 (c.toNat:Int),16),acc++[(92:UInt8)])) fun d=>need (zQ d.length 1 1) (some (d++[(32:UInt8)])))=some (acc++92::(hexS c.toNat++[32])):=by rw[zm (Kg (by omega)),e];simp only[ze,Aa];rw[zm (Kg (by grind))];simp
 simp only[ze]at a;rw[a];cases decide (32<c.toNat)with
 |false=>rfl
 |true=>
  cases decide (c.toNat<127)with
  |false=>rfl
  |true=>
   cases digB c with
   |true=>rfl
   |false=>
    cases alB c with
    |true=>rfl
    |false=> simp only[zt,Ca,ma,Bool.and_self,Aa,Mt];rw[zm (Kg (by omega))]
theorem QY(c:UInt8):(escC c).length<=4:=by
 have:=fK c.toNat;unfold escC
 grind
theorem XD(dash:Bool)(k:Nat)(c:UInt8):(pcW dash k c).length<=4:=by
 have:=QY c;unfold pcW
 grind
theorem Gi(dash:Bool): ∀(k:Nat) (l:Str),(encW dash k l).length<=4*l.length
 |_,[]=>by unfold encW;simp
 |k,c::r=>by
  have:=XD dash k c;have:=Gi dash (k - 1) r;unfold encW
  grind
theorem OT{dash:Bool}{k i:Nat}{l:Str}(h:i<l.length):encW dash (k - i) (l.drop i)=pcW dash (k - i) l[i]++encW dash (k - (i+1)) (l.drop (i+1)):=by rw[ja h,encW,show k - i - 1=k - (i+1) by omega]
theorem WS {R:Type} {step:Int×List UInt8->Option (LO (Int×List UInt8) (List UInt8) R)} {l acc:Str} {k:Nat} {dash:Bool} (hl:l.length<=100000) (ha:acc.length<=100000000)
  (h1: ∀(i:Nat) (a:Str) (hi:i<l.length),a.length<=500000000->step ((i:Int),a)=some (.again (w64 ((i:Int)+1),a++pcW dash (k - i) l[i])))
  (h2: ∀a,step ((l.length:Int),a)=some (.out a)):Lf step (0,acc)=some (.out (acc++encW dash k l)):=by
 refine Zw (fun z=> ∃(i:Nat) (a:Str),z=((i:Int),a)/\i<=l.length/\a.length<=acc.length+4*i/\a++encW dash (k - i) (l.drop i)=acc++encW dash k l) (fun z=>l.length - z.1.toNat) _ ?_ ⟨0,acc,rfl,by omega,by omega,rfl⟩;rintro _ ⟨i,a,rfl,hi,hal,he⟩;rcases Yc i l.length with h|h
 ·refine .inl ⟨_,h1 i a h (by omega),⟨i+1,_,by rw[zK (by omega) (by omega)];rfl,by omega,?_,?_⟩,by simp only;rw[zK (by omega) (by omega)];omega⟩
  ·have:=XD dash (k - i) l[i]
   grind
  ·rw[<-he,OT h,Oa]
 ·have:i=l.length:=by omega
  subst this;refine .inr (.inl ⟨_,h2 a,?_⟩);rw[<-he,jd (Va _)];rw[show encW dash (k - l.length) []=[] by rw[encW],Xa]
def El(k:Nat)(l:Str):Bool:= !(k==0)&&l==[45]
def ZP(l:Str):Nat:=if [45].isPrefixOf l then 2 else 1
theorem Au(l:Str):QZ l=some ((ZP l:Nat):Int):=by
 unfold QZ ZP;simp only[ze,Xq,Aa]
 grind
def ZR(l:Str):Str:=encW (l==[45]) (ZP l) l
theorem Dt{n:Nat}(h:n<16):qA (hexD n)=true/\hexN (hexD n)=n/\(hexD n==10)=false/\letB (hexD n)=true:=by
 have: ∀n:Nat,n<16->qA (hexD n)=true/\hexN (hexD n)=n/\(hexD n==10)=false/\letB (hexD n)=true:=by decide+kernel
 exact this n h
theorem pz{k n:Nat}{c:UInt8}{r:Str}(h:qA c=true):hexes (k+1) n (c::r)=hexes k (16*n+hexN c) r:=by rw[hexes,Ka h]
theorem GJ{n:Nat}(h:n<256)(R:Str):hexes 6 0 (hexS n++32::R)=(n,32::R):=by
 unfold hexS;by_cases c:n<16
 ·obtain⟨a,b,_⟩:=Dt c;rw[Ka c,Lc,pz a,b,Ws _ _ (32::R) (show qA 32=false by decide)];simp
 ·obtain⟨a,b,_⟩:=Dt (show n / 16<16 by omega);obtain⟨e,d,_⟩:=Dt (show n%16<16 by omega);rw[Ja c,Ya,Lc,pz a,pz e,b,d,Ws _ _ (32::R) (show qA 32=false by decide)]
  grind
theorem YF{n:Nat}(h:n<256)(R:Str): ∃d t,hexS n++R=d::t/\qA d=true/\(d==10)=false:=by
 unfold hexS;by_cases c:n<16
 ·obtain⟨a,_,b,_⟩:=Dt c;simp_all
 ·obtain⟨a,_,b,_⟩:=Dt (show n / 16<16 by omega);exact⟨_,_,by rw[Ja c];rfl,a,b⟩
theorem xL{c:UInt8}(a:c≠0)(h:c.toNat<128):rf c.toNat=[c]:=by
 have b:c.toNat≠0:=by intro e;exact a (Fe.1 e)
 unfold rf;rw[Ja (by omega),Ka h,Kc]
theorem NL{r:Str}(h:escS (92::r)=true):zo (92::r)=((zq r).1++(zo (zq r).2).1,(zo (zq r).2).2):=by rw[zO,Ja (by decide),Ka h]
theorem tJ{c:UInt8}(h0:c≠0)(h:c.toNat<128)(R:Str):zo (escC c++R)=(c::(zo R).1,(zo R).2):=by
 unfold escC;cases hg:decide (32<c.toNat)&&decide (c.toNat<127)&& !digB c&& !alB c with
 |true=>
  rw[Ca];have hx:qA c=false/\(c==10)=false:=by
   have: ∀n:Nat,n<256->(decide (32<(UInt8.ofNat n).toNat)&&decide ((UInt8.ofNat n).toNat<127)&& !digB (UInt8.ofNat n)&& !alB (UInt8.ofNat n))=true->qA (UInt8.ofNat n)=false/\(UInt8.ofNat n==10)=false:=by decide+kernel
   have:=this c.toNat (aa c);rw[Kc]at this;exact this hg
  have he:zq (c::R)=([c],R):=by show(if qA c then _ else _)=_;rw[Ja (by rw[hx.1];decide)]
  rw[show [92,c]++R=92::c::R from rfl,NL (by unfold escS;rw[show atS (92::c::R) 0=92 from rfl,show atS (92::c::R) 1=c from rfl,hx.2];rfl),he];rfl
 |false=>
  rw[Ba,Ya,Oa];obtain⟨d,t,e,hd,h10⟩:=YF (n:=c.toNat) (aa c) ([32]++R);have he:zq (hexS c.toNat++([32]++R))=([c],R):=by have hh:=GJ (n:=c.toNat) (aa c) R;rw[show(32::R:Str)=[32]++R from rfl,e]at hh;rw[e];show(if qA d then(rf (hexes 6 0 (d::t)).1,unsp (hexes 6 0 (d::t)).2)else _)=_;rw[Ka hd,hh,xL h0 h];rfl
  rw[NL (by rw[e];unfold escS;rw[show atS (92::d::t) 0=92 from rfl,show atS (92::d::t) 1=d from rfl,h10];rfl),he];rfl
theorem jD{c:UInt8}(h: ¬c.toNat<128):letB c=true/\digB c=false:=by
 have: ∀n:Nat,n<256-> ¬(UInt8.ofNat n).toNat<128->letB (UInt8.ofNat n)=true/\digB (UInt8.ofNat n)=false:=by decide+kernel
 have:=this c.toNat (aa c);simp_all
theorem kI{dash:Bool}{k:Nat}{c:UInt8}(e:c≠0)(f:dash=true->c.toNat<128)(R:Str):zo (pcW dash k c++R)=(c::(zo R).1,(zo R).2):=by
 unfold pcW;cases d:letB c&&(k==0|| !digB c)&& !dash with
 |true=> rw[Ea,Ea]at d;rw[Ca,Lc,zO,Ka d.1.1]
 |false=>
  rw[Ba];refine tJ e ?_ R;by_cases h:c.toNat<128
  ·exact h
  ·obtain⟨a,b⟩:=jD h
   grind
theorem uJ{dash:Bool}: ∀(k:Nat) (l:Str),Zp l=true->(dash=true-> ∀c∈l,c.toNat<128)->zo (encW dash k l)=(l,[])
 |_,[],_,_=>by rw[encW,qB]
 |k,c::r,h,a=>by unfold Zp at h;rw[Uc,Ea]at h;rw[encW,kI (by grind) (fun e=>a e c (Vb ..)),uJ (k - 1) r h.2 (fun e x b=>a e x (Rb _ b))]
theorem gX{l:Str}(h:Zp l=true):zo (ZR l)=(l,[]):=by refine uJ _ _ h (fun e c a=> ?_);simp_all
theorem Dz{dash:Bool}{k:Nat}(hk:0<k)(c:UInt8)(R:Str): ∃d t,pcW dash k c++R=d::t/\(d=92/\escS (d::t)=true\/(d=c/\dash=false/\letB d=true/\digB d=false/\t=R)):=by
 have hk0:(k==0)=false:=by rw[Ga];omega
 unfold pcW;rw[hk0,Jc];cases hg:letB c&& !digB c&& !dash with
 |true=> rw[Ea,Ea,Ee,Ee]at hg;exact⟨c,R,rfl, .inr ⟨rfl,hg.2,hg.1.1,hg.1.2,rfl⟩⟩
 |false=>
  rw[Ba];unfold escC;cases hg2:decide (32<c.toNat)&&decide (c.toNat<127)&& !digB c&& !alB c with
  |true=>
   refine⟨92,c::R,rfl, .inl ⟨rfl,?_⟩⟩;have:c≠10:=by rintro rfl;revert hg2;decide
   unfold escS;rw[show atS (92::c::R) 1=c from rfl,Ga.2 this];rfl
  |false=> obtain⟨d,t,e,hd,h10⟩:=YF (n:=c.toNat) (aa c) ([32]++R);refine⟨92,_,by rw[Ba,Ya,Oa], .inl ⟨rfl,?_⟩⟩;rw[e];unfold escS;rw[show atS (92::d::t) 1=d from rfl,h10];rfl
theorem WL{d:UInt8}(h:letB d=true)(h2:digB d=false):fstB d=true\/d=45:=by
 unfold letB at h
 grind
theorem xH{d:UInt8}{t:Str}(a:d=92)(h:escS (d::t)=true):nmS (d::t)=true:=by subst a;unfold nmS;rw[show atS (92::t) 0=92 from rfl,Ja (by decide),h,ae]
theorem Bj{l:Str}(h:l≠[]):nmS (ZR l)=true:=by
 cases l with
 |nil=>grind
 |cons c r=>
  unfold ZR encW;obtain⟨d,t,e,u⟩:=Dz (dash:=(c::r:Str)==[45]) (k:=ZP (c::r)) (by unfold ZP;split<;>omega) c (encW ((c::r:Str)==[45]) (ZP (c::r) - 1) r);rw[e];rcases u with⟨q,j⟩|⟨rfl,j,x,v,o⟩
  ·exact xH q j
  ·rcases WL x v with p|rfl
   ·by_cases m:d=45
    ·subst m;exact absurd p (by decide)
    ·unfold nmS;rw[show atS (d::t) 0=d from rfl,Ja (by grind),p,Wd]
   ·have C:r≠[]:=by rintro rfl;exact absurd j (by decide)
    cases r with
    |nil=>grind
    |cons f g=>
     have A:ZP (45::f::g)=2:=rfl;rw[A]at o;obtain⟨a,b,y,n⟩:=Dz (dash:=(45::f::g:Str)==[45]) (k:=2 - 1) (by omega) f (encW ((45::f::g:Str)==[45]) (2 - 1 - 1) g);have z:t=a::b:=by rw[o,encW,y]
     rw[z];unfold nmS;rw[show atS (45::a::b) 0=45 from rfl,Ka (show((45:UInt8)==45)=true from rfl),show atS (45::a::b) 1=a from rfl,show(45::a::b:Str).drop 1=a::b from rfl];rcases n with⟨_,B⟩|⟨_,_,s,w,_⟩
     ·grind
     ·rcases WL s w with i|rfl
      ·rw[i];rfl
      ·simp
theorem Qq(m:UInt8):zY m []=(some [],[]):=by rw[zY]
theorem qP(m c:UInt8)(r:Str):zY m (c::r)=if c==m then(some [],r)
  else if c==10 then(none,c::r)
  else if c==92 then
   (if r.isEmpty then(some [],[])
   else if atS r 0==10 then zY m (r.drop 1)
   else((zY m (zq r).2).1.map ((zq r).1++ ·),(zY m (zq r).2).2))
  else((zY m r).1.map (c:: ·),(zY m r).2):=by rw[zY]
theorem gz(m:UInt8)(l:Str):(zY m l).2<:+l:=by
 match l with
 |[]=>rw[Qq];grind
 |c::r=>
  rw[qP];have a:=lc c r;split
  ·exact a
  ·split
   ·grind
   ·split
    ·split
     ·grind
     ·split
      ·exact(gz m (r.drop 1)).trans ((Xd 1 r).trans a)
      ·have:=Zf r;exact(gz m (zq r).2).trans ((Zh r).trans a)
    ·exact(gz m r).trans a
termination_by l.length
decreasing_by
 all_goals grind
theorem Lt(a b:Str)(x:Option Str):(x.map (b++ ·)).map (a++ ·)=x.map ((a++b)++ ·):=by
 cases x with
 |none=>rfl
 |some t=>grind
theorem Ty(a:Str)(b:UInt8)(x:Option Str):(x.map (b:: ·)).map (a++ ·)=x.map ((a++[b])++ ·):=Lt a [b] x
def xh:Option Str->zb
 |some t=>⟨5,t,0,[],false⟩
 |none=>⟨6,[],0,[],false⟩
theorem uR{s q:Str}{m:UInt8}(k:s.length<=big)(w:m::q<:+s):qj (sr s (m::q))=some (xh (zY m q).1,sr s (zY m q).2):=by
 have J:big=4194304:=rfl;have D:=z8 w;unfold qj;simp only[ze,Lg k w,Aa,Im,bg k w]
 let g:LX (za×zb×List UInt8) (zb×za):=match(zY m q).1 with
  |some t=> .out (sr s (zY m q).2,⟨0,[],0,[],false⟩,t)
  |none=> .ret (⟨6,[],0,[],false⟩,sr s (zY m q).2)
 rw[Jj (r:=g)]
 ·show LX.go g _=_;cases h:(zY m q).1 with
  |some t=>simp only[g,h];rfl
  |none=>simp only[g,h];rfl
 refine Zw (fun z=> ∃(p e:Str),z=(sr s p,⟨0,[],0,[],false⟩,e)/\p<:+s/\e.length+4*p.length<=4*s.length/\(zY m q).1=(zY m p).1.map (e++ ·)/\(zY m q).2=(zY m p).2) (fun z=>s.length - z.1.at_.toNat) _ ?_
  ⟨q,[],rfl,D,by grind,by simp,rfl⟩
 rintro _ ⟨p,e,rfl,j,C,b,a⟩;simp only[Lg k j,Aa,ll,xA,IR];cases p with
 |nil=>
  refine .inr (.inl ⟨_,rfl,?_⟩);rw[Qq]at b a
  grind
 |cons c t=>
  have i:=j.length_le;rw[Ia]at i C;have n:=z8 j;rw[qP]at b a;rw[show(c::t).isEmpty=false from rfl,Ba,Im,show((c.toNat:Int)==(m.toNat:Int))=(c==m)from Qb c m,show atS (c::t) 0=c from rfl,bg k j];have f: ∀u:Str,u.length<=t.length->u<:+s->s.length - beh s u<s.length - beh s (c::t):=by intro u A F;unfold beh;rw[Ia];omega
  cases v:c==m with
  |true=>
   grind
  |false=>
   rw[v,Ja (by decide)]at b a;rw[Ba];cases y:c==10 with
   |true=>
    grind
   |false=>
    rw[y,Ja (by decide)]at b a;rw[Ba];cases l:c==92 with
    |false=> rw[l,Ja (by decide)]at b a;simp only[zt,Ba,Aa,Be,Xt];rw[zm (Kg (by omega))];exact .inl ⟨_,rfl,⟨t,e++[c],rfl,n,by grind,by rw[b,Ty],a⟩,f t (by omega) n⟩
    |true=>
     rw[l,Ka rfl]at b a;simp only[zt,Ca,Lr k j,Aa,Ib];have x:pk (c::t) 1=pk t 0:=rfl;rw[x,ll];cases t with
     |nil=>
      rw[show([]:Str).isEmpty=true from rfl,Ka rfl]at b a;have o:beh s [c]=s.length - 1:=rfl;have G:(if((s.length:Int)<w64 ((beh s [c]:Int)+2))then(s.length:Int)else w64 ((beh s [c]:Int)+2))=((beh s []:Nat):Int):=by rw[zK (by omega) (by omega),Ka (by omega)];unfold beh;rw[Kb];omega
      refine .inl ⟨(sr s [],⟨0,[],0,[],false⟩,e),?_,⟨[],e,rfl,List.nil_suffix,by grind,by rw[b,Qq],by rw[a,Qq]⟩,f [] (by simp) List.nil_suffix⟩
      grind
     |cons d u=>
      rw[show(d::u).isEmpty=false from rfl,Ja (by decide)]at b a;simp only[show(d::u).isEmpty=false from rfl,ma,Ca,Ba,Aa,xA];cases B:atS (d::u) 0==10 with
      |true=>
       rw[B,Ka rfl]at b a;have A:=z8 n;rw[Ia]at i C;have o:beh s (c::d::u)=s.length - (u.length+1+1):=by unfold beh;rw[Ia,Ia]
       have G:(if((s.length:Int)<w64 ((beh s (c::d::u):Int)+2))then(s.length:Int)else w64 ((beh s (c::d::u):Int)+2))=((beh s u:Nat):Int):=by rw[zK (by omega) (by omega),Ja (by omega)];unfold beh;rw[Ia,Ia];omega
       refine .inl ⟨(sr s u,⟨0,[],0,[],false⟩,e),?_,⟨u,e,rfl,A,by omega,b,a⟩,f u (by grind) A⟩
       grind
      |false=> rw[B,Ja (by decide)]at b a;have H:=dm (d::u);have E:=Zf (d::u);refine .inl ⟨(sr s (zq (d::u)).2,⟨0,[],0,[],false⟩,e++(zq (d::u)).1),?_,⟨_,_,rfl,(Zh _).trans n,by grind,by rw[b,Lt],a⟩,f _ E ((Zh _).trans n)⟩;simp only[Ba,eF k j (show e.length<=1000000000 by omega),Aa]
theorem CR{n:Nat}(l:n≠0)(h:n<16777216):ZV (w32 (n:Int))=some (rf n):=by
 have j:zQ 0 1 1=true:=Kg (by omega);have f:zQ 0 2 1=true:=Kg (by omega);have d:zQ 0 3 1=true:=Kg (by omega);have g:zQ 0 4 1=true:=Kg (by omega);have c:(128+n%64)<256:=by omega
 have a:(128+n / 64%64)<256:=by omega
 have b:(128+n / 4096%64)<256:=by omega
 unfold ZV Z4 rf;simp only[Sk (show n<2147483648 by omega),CK (show n<2147483648 by omega),ze,shr6,WR,VR,cK,Zu c,Zu a,Zu b,Aa];by_cases e:n<128
 ·rw[Fa (by omega),Ca,mo,Zu (by omega),Aa,zm j,Ja (by omega),Ka e,Ue (by omega)]
 ·rw[Ua (by omega),Ba];by_cases i:n<2048
  ·rw[Fa (by omega),Ca,PR (by omega),Zu (by omega)];simp only[Aa];rw[zm f,Ja (by omega),Ja (by omega),Ka i];rfl
  ·rw[Ua (by omega),Ba];by_cases m:n<55296
   ·rw[Fa (by omega),Ca,zh];simp only[Ca];rw[Jw (by omega),Zu (by omega)];simp only[Aa];rw[zm d,Ja (by omega),Ja (by omega),Ja (by omega),Ka (by omega)];rfl
   ·rw[Ua (by omega),Ba,zh];simp only[bH];by_cases k:57343<n/\n<65536
    ·rw[Fa (by omega),Fa (by omega),Ib,Ca,Jw (by omega),Zu (by omega)];simp only[Aa];rw[zm d,Ja (by omega),Ja (by omega),Ja (by omega),Ka (by omega)];rfl
    ·rw[show(decide ((57343:Int)<(n:Int))&&decide ((n:Int)<=65535))=false by grind,Ba];by_cases o:65535<n/\n<=1114111
     ·rw[Fa (by omega),Fa (by omega),Ib,Ca,NR (by omega),Zu (by omega)];simp only[Aa];rw[zm g,Ja (by omega),Ja (by omega),Ja (by omega),Ja (by omega)];rfl
     ·rw[show(decide ((n:Int)>65535)&&decide ((n:Int)<=1114111))=false by grind,Ba,zm d,Ka (by omega)];rfl
theorem TN:ZV 65533=some Ji:=by have h:=CR (n:=65533) (by omega) (by omega);rw[Sk (by omega)]at h;exact h
theorem GY{s l:Str}{c:UInt8}(hs:s.length<=big)(hr:c::l<:+s):
  ZH (sr s (c::l))=some (sr s (zq l).2,(zq l).1):=by
 have hl:=z8 hr;unfold ZH;simp only[bg hs hr,ze,Lg hs hl,Aa,ll];cases l with
 |nil=> rw[show([]:Str).isEmpty=true from rfl,Ca,TN];rfl
 |cons d r=>
  rw[show(d::r).isEmpty=false from rfl,Ba,vv];simp only[Aa,Xp];cases hx:qA (atS (d::r) 0)with
  |false=>
   rw[ma,Ca,Im,Xt];simp only[Aa,bg hs hl];rw[zm (Kg (n:=0) (by omega))];have:zq (d::r)=([d],r):=by show(if qA d then _ else _)=_;rw[Ja (by rw[show qA d=false from hx];decide)]
   rw[this]
  |true=>
   rw[Db,Ba];have he:zq (d::r)=(rf (hexes 6 0 (d::r)).1,unsp (hexes 6 0 (d::r)).2):=by show(if qA d then _ else _)=_;rw[Ka (show qA d=true from hx)]
   rw[he];rw[Za (oK (l:=d::r) hl (fun n i q hq hn hi=> ?_))]
   ·have hq:(hexes 6 0 (d::r)).2<:+s:=(Tu 6 0 _).trans hl;have hlt:=Vy 6 0 (d::r);rw[show 16 ^ 6*(0+1)=16777216 from rfl]at hlt;simp only[Lg hs hq,Aa,Ps];have hj:(bif spB (atS (hexes 6 0 (d::r)).2 0)then some (LX.out (((hexes 6 0 (d::r)).1:Int),(⟨s,w64 ((beh s (hexes 6 0 (d::r)).2:Int)+1)⟩:za)))else some (LX.out (((hexes 6 0 (d::r)).1:Int),sr s (hexes 6 0 (d::r)).2)):Option (LX (Int×za) (za×List UInt8)))
      =some (LX.out (((hexes 6 0 (d::r)).1:Int),sr s (unsp (hexes 6 0 (d::r)).2))):=by
     cases hh:(hexes 6 0 (d::r)).2 with
     |nil=>rfl
     |cons e t=>
      rw[hh]at hq;rw[show atS (e::t) 0=e from rfl,bg hs hq];show _=some (LX.out (_,sr s (if spB e then t else e::t)))
      grind
    rw[hj,zh];simp only;by_cases h0:(hexes 6 0 (d::r)).1=0
    ·rw[h0,show((((0:Nat):Int))==0)=true from rfl,Ca,zh];simp only[Sk (show 65533<2147483648 by omega),show w32 (65533:Int)=65533 from Sk (n:=65533) (by omega),TN,Aa];rfl
    ·rw[show(((hexes 6 0 (d::r)).1:Int)==0)=false by grind,Ba,zh];simp only[CR h0 hlt,Aa]
   ·simp only[Lg hs hq,Aa,vv,Xp];have hb6:decide ((i:Int)<6)=decide (i<6):=by rw[decide_eq_decide];omega
    rw[hb6];cases decide (i<6)with
    |false=>rfl
    |true=>
     rw[Ca,Eb];cases hx2:qA (atS q 0)with
     |false=>rfl
     |true=>
      cases q with
      |nil=>exact absurd hx2 (by decide)
      |cons e t=>
       have hI:hexI (atS (e::t) 0)=(hexN (atS (e::t) 0):Int):=by unfold hexI;rw[Ka hx2]
       rw[hI,jH hn (Bt hx2),bg hs hq,zK (by omega) (by omega)];rfl
theorem gp:badS []=[]:=by rw[badS]
theorem Iq(c:UInt8)(r:Str):badS (c::r)=if c==41 then r else if escS (c::r)then badS (zq r).2 else badS r:=by rw[badS]
theorem Hy(l:Str):badS l<:+l:=by
 match l with
 |[]=>rw[gp];grind
 |c::r=>
  rw[Iq];have a:=lc c r;split
  ·exact a
  ·split
   ·have:=Zf r;exact(Hy (zq r).2).trans ((Zh r).trans a)
   ·exact(Hy r).trans a
termination_by l.length
decreasing_by
 all_goals grind
theorem zAf{s t:Str}{c:UInt8}(e:s.length<=big)(h:c::t<:+s):geti s (w64 ((beh s t:Int) - 1))=some c:=by
 have f:big=4194304:=rfl;have b:=h.length_le;rw[Ia]at b;have d:=Pm h;have g:beh s t=beh s (c::t)+1:=by unfold beh;rw[Ia];omega
 have a:beh s (c::t)<s.length:=by unfold beh;rw[Ia];omega
 rw[zK (by omega) (by omega),show(beh s t:Int) - 1=((beh s (c::t):Nat):Int) by omega,Z8 a];rw[ja a]at d
 grind
theorem badR{s q:Str}(e:s.length<=big)(j:q<:+s):ZT (sr s q)=some (⟨8,[],0,[],false⟩,sr s (badS q)):=by
 unfold ZT;refine pF ?_;refine Zw (fun z=> ∃(p:Str),z=(sr s p,(⟨0,[],0,[],false⟩:zb))/\p<:+s/\badS q=badS p) (fun z=>s.length - z.1.at_.toNat) _ ?_ ⟨q,rfl,j,rfl⟩;rintro _ ⟨p,rfl,b,g⟩;simp only[ze,Lg e b,Aa,ll];cases p with
 |nil=>exact .inr (.inr ⟨_,rfl,by rw[g,gp]⟩)
 |cons c t=>
  have d:=b.length_le;rw[Ia]at d;have i:=z8 b;have f: ∀u:Str,u.length<=t.length->u<:+s->s.length - beh s u<s.length - beh s (c::t):=by intro u l k;unfold beh;rw[Ia];omega
  rw[show(c::t).isEmpty=false from rfl,Ba,LF e b];rw[Iq]at g;simp only[Aa];cases a:escS (c::t)with
  |true=>
   have h:(c==41)=false:=by unfold escS at a;rw[Ea,Ab]at a;rw[show c=92 from a.1];decide
   rw[a,h,Ja (by decide),Ka rfl]at g;rw[Ca,GY e b];exact .inl ⟨_,rfl,⟨_,rfl,(Zh t).trans i,g⟩,f _ (Zf t) ((Zh t).trans i)⟩
  |false=>
   rw[Ba,bg e b,zAf e b];simp only[Aa];rw[show((c.toNat:Int)==41)=(c==41)from Qb c 41]
   grind
theorem Gj:urlS []=(some [],[]):=by rw[urlS]
theorem Qv(c:UInt8)(r:Str):urlS (c::r)=if c==41 then(some [],r)
  else if spB c then(match past spB r with
   |[]=>(some [],[])
   |d::a=>if d==41 then(some [],a)else(none,badS (d::a)))
  else if c==34||c==39||c==40||unB c||c==92&& !escS (c::r)then(none,badS (c::r))
  else if c==92 then((urlS (zq r).2).1.map ((zq r).1++ ·),(urlS (zq r).2).2)
  else((urlS r).1.map (c:: ·),(urlS r).2):=by rw[urlS];grind
theorem uC(l:Str):(urlS l).2<:+l:=by
 match l with
 |[]=>rw[Gj];grind
 |c::r=>
  rw[Qv];have a:=lc c r;split
  ·exact a
  ·split
   ·have b:=(Tm spB r).trans a;cases e:past spB r with
    |nil=>grind
    |cons d f=>
     rw[e]at b;simp only;split
     ·exact(lc d f).trans b
     ·exact(Hy _).trans b
   ·split
    ·exact Hy _
    ·split
     ·have:=Zf r;exact(uC (zq r).2).trans ((Zh r).trans a)
     ·exact(uC r).trans a
termination_by l.length
decreasing_by
 all_goals grind
def ig:Option Str->zb
 |some t=>⟨7,t,0,[],false⟩
 |none=>⟨8,[],0,[],false⟩
theorem jS(c:UInt8): ∃y,zt (!(bif bif bif bif (c.toNat:Int)==34 then true else(c.toNat:Int)==39 then true else(c.toNat:Int)==40 then true else decide ((c.toNat:Int)<=8)then true else(c.toNat:Int)==11)) (ZM ((c.toNat:Int),14,31)) (default:Bool)=some y/\
  (bif bif bif bif bif bif (c.toNat:Int)==34 then true else(c.toNat:Int)==39 then true else(c.toNat:Int)==40 then true else decide ((c.toNat:Int)<=8)then true else(c.toNat:Int)==11 then true else y then true else(c.toNat:Int)==127)=(c==34||c==39||c==40||unB c):=by
 have a: ∀n:Nat,n<256->((zt (!(bif bif bif bif (n:Int)==34 then true else(n:Int)==39 then true else(n:Int)==40 then true else decide ((n:Int)<=8)then true else(n:Int)==11)) (ZM ((n:Int),14,31)) (default:Bool)).elim false fun y=>
  (bif bif bif bif bif bif (n:Int)==34 then true else(n:Int)==39 then true else(n:Int)==40 then true else decide ((n:Int)<=8)then true else(n:Int)==11 then true else y then true else(n:Int)==127)==(UInt8.ofNat n==34||UInt8.ofNat n==39||UInt8.ofNat n==40||unB (UInt8.ofNat n)))=true:=by decide+kernel
 have h:=a c.toNat (aa c);rw[Kc]at h;cases b:zt (!(bif bif bif bif (c.toNat:Int)==34 then true else(c.toNat:Int)==39 then true else(c.toNat:Int)==40 then true else decide ((c.toNat:Int)<=8)then true else(c.toNat:Int)==11)) (ZM ((c.toNat:Int),14,31)) (default:Bool)with
 |none=>grind
 |some y=>
  grind
theorem jA(c:UInt8)(t:Str):(pk (c::t) 0== -1)=false:=by rw[ll];rfl
theorem urlR{s w:Str}(f:s.length<=big)(v:w<:+s):Qg (sr s w)=some (ig (urlS (past spB w)).1,sr s (urlS (past spB w)).2):=by
 have L:big=4194304:=rfl;unfold Qg;rw[jw f v];simp only[ze,Aa];have E:=Ci spB v;generalize past spB w=q at E ⊢;refine pF ?_;refine Zw (fun z=> ∃(p e:Str),z=(sr s p,(⟨0,[],0,[],false⟩:zb),e)/\p<:+s/\e.length+4*p.length<=4*s.length/\(urlS q).1=(urlS p).1.map (e++ ·)/\(urlS q).2=(urlS p).2) (fun z=>s.length - z.1.at_.toNat) _ ?_
  ⟨q,[],rfl,E,by grind,by simp,rfl⟩
 rintro _ ⟨p,e,rfl,h,G,b,a⟩;simp only[Lg f h,Aa,Ps];cases p with
 |nil=> refine .inr (.inr ⟨_,rfl,?_⟩);rw[Gj]at b a;rw[b,a];simp only[Ec,Xa,ig]
 |cons c t=>
  have m:=h.length_le;rw[Ia]at m G;have r:=z8 h;have k: ∀u:Str,u.length<=t.length->u<:+s->s.length - beh s u<s.length - beh s (c::t):=by intro u M J;unfold beh;rw[Ia];omega
  rw[Qv]at b a;rw[show atS (c::t) 0=c from rfl];cases j:spB c with
  |true=>
   have i:(c==41)=false:=by rw[Ga];rintro rfl;exact absurd j (by decide)
   rw[i,j,Ja (by decide),Ka rfl]at b a;have D:past spB (c::t)=past spB t:=by rw[past,Ka j]
   have g:past spB t<:+s:=Ci spB r;rw[Ca,jw f h,D];simp only[Aa,Lg f g];cases o:past spB t with
   |nil=> rw[o]at b a;refine .inr (.inr ⟨_,rfl,?_⟩);simp only at b a;rw[b,a];simp only[Ec,Xa,ig]
   |cons d F=>
    rw[o]at b a g;simp only at b a;unfold bne;rw[uA,jA,show atS (d::F) 0=d from rfl];cases C:d==41 with
    |true=> rw[C,Ka rfl]at b a;refine .inr (.inr ⟨_,?_,rfl⟩);simp only[Db,Ba,zh,jA,uA,show atS (d::F) 0=d from rfl,C,Ca,bg f g];rw[b,a];simp only[Ec,Xa,ig]
    |false=> rw[C,Ja (by decide)]at b a;refine .inr (.inr ⟨_,?_,rfl⟩);simp only[ma,Ca,badR f g,Aa,ztN];rw[b,a];rfl
  |false=>
   rw[Ba,zh];simp only[jA,uA,show atS (c::t) 0=c from rfl,Ba,bg f h];cases i:c==41 with
   |true=> rw[i,Ka rfl]at b a;refine .inr (.inr ⟨_,by rw[Ca],?_⟩);rw[b,a];simp only[Ec,Xa,ig]
   |false=>
    rw[i,Ja (by decide),j,Ja (by decide)]at b a;rw[Ba];obtain⟨y,B,A⟩:=jS c;rw[Im,B];simp only[Aa];rw[A];cases x:(c==34||c==39||c==40||unB c)with
    |true=> rw[x,Wd,Ka rfl]at b a;refine .inr (.inr ⟨_,?_,rfl⟩);rw[Ca,badR f h];simp only[Aa];rw[b,a];rfl
    |false=>
     rw[x,Jc]at b a;rw[Ba];unfold bne;rw[show((c.toNat:Int)==92)=(c==92)from Qb c 92];cases n:c==92 with
     |false=> rw[n,Ac,Ja (by decide),Ja (by decide)]at b a;rw[ma,Ca,Xt];simp only[Aa];rw[zm (Kg (by omega))];exact .inl ⟨_,rfl,⟨t,e++[c],rfl,r,by grind,by rw[b,Ty],a⟩,k t (Va _) r⟩
     |true=>
      rw[n,Eb]at b a;rw[Db,Ba,LF f h];simp only[Aa];cases l:escS (c::t)with
      |true=> rw[l,Db,Ja (by decide),Ka rfl]at b a;have K:=dm t;have H:=Zf t;refine .inl ⟨(sr s (zq t).2,⟨0,[],0,[],false⟩,e++(zq t).1),?_,⟨_,_,rfl,(Zh _).trans r,by grind,by rw[b,Lt],a⟩,k _ H ((Zh _).trans r)⟩;simp only[Ca,eF f h (show e.length<=1000000000 by omega),Aa]
      |false=> rw[l,ma,Ka rfl]at b a;refine .inr (.inr ⟨_,?_,rfl⟩);rw[Ba,badR f h];simp only[Aa];rw[b,a];rfl
def hdB(b:UInt8):Bool:=b==45||fstB b||b==92
theorem Yn{q:Str}(h:nmS q=true):hdB (atS q 0)=true:=by
 unfold nmS at h;unfold hdB;cases a:atS q 0==45 with
 |true=>rfl
 |false=>
  rw[a,Ja (by decide),Gc]at h;rcases h with h|h
  ·rw[h];rfl
  ·unfold escS at h
   grind
theorem Gs{b:UInt8}(h:hdB b=true):spB b=false/\(b==34)=false/\(b==39)=false/\(b==35)=false/\(b==64)=false/\(b==47)=false/\(b==60)=false/\(b==43)=false/\(b==46)=false/\digB b=false/\b≠0:=by
 have: ∀n:Nat,n<256->hdB (UInt8.ofNat n)=true->spB (UInt8.ofNat n)=false/\(UInt8.ofNat n==34)=false/\(UInt8.ofNat n==39)=false/\(UInt8.ofNat n==35)=false/\(UInt8.ofNat n==64)=false/\(UInt8.ofNat n==47)=false/\(UInt8.ofNat n==60)=false/\(UInt8.ofNat n==43)=false/\(UInt8.ofNat n==46)=false/\digB (UInt8.ofNat n)=false/\UInt8.ofNat n≠0:=by decide+kernel
 have:=this b.toNat (aa b);simp_all
theorem pQ{q:Str}(h:nmS q=true):nbS q=false:=by
 obtain⟨_,_,_,_,_,_,_,a,j,f,_⟩:=Gs (Yn h);unfold nbS unsign Jf;rw[a,Jc];cases b:atS q 0==45 with
 |false=>
  rw[Ja (by decide)];unfold undot
  grind
 |true=>
  rw[Ka rfl];unfold nmS at h;rw[b,Ka rfl]at h;have i:hdB (atS q 1)=true:=by
   unfold hdB;cases e:fstB (atS q 1)with
   |true=>simp
   |false=>
    cases g:atS q 1==45 with
    |true=>rfl
    |false=> rw[e,g,Jc,Jc]at h;unfold escS at h;rw[Ea,Qk]at h;rw[h.1];rfl
  obtain⟨_,_,_,_,_,_,_,_,d,c,_⟩:=Gs i;unfold undot;rw[Qk,d,Ja (by decide),Qk,c]
theorem JH{s r:Str}:(decide ((0:Int)<=(beh s r:Int))&&decide ((beh s r:Int)<=(s.length:Int)))=true:=by
 have:=ng s r
 grind
theorem LC{s r:Str}(a:r<:+s):List.drop ((beh s r:Int)).toNat s=r:=by rw[Ra,Pm a]
theorem cB{a b:UInt8}{m t:Str}(h:(b==a)=false):(a::m).isPrefixOf (b::t)=false:=by
 grind
theorem xR{a:UInt8}{m q:Str}(c:a≠0)(h:(atS q 0==a)=false):(a::m).isPrefixOf q=false:=by
 cases q with
 |nil=>rfl
 |cons b t=>exact cB h
def capF(cap:Nat):Nat->Str->Nat
 |n,[]=>n
 |n,c::r=>capF cap (min cap (decN n c)) r
theorem CG(cap:Nat): ∀(l:Str) (n:Nat) (c:UInt8),capF cap n (l++[c])=min cap (decN (capF cap n l) c)
 |[],_,_=>rfl
 |d::l,n,c=>by show capF cap (min cap (decN n d)) (l++[c])=_;rw[CG cap l];rfl
theorem Ri(cap:Nat): ∀(l:Str) (n:Nat),n<=cap->capF cap n l<=cap
 |[],_,h=>h
 |c::l,n,_=>Ri cap l _ (Nat.min_le_left ..)
theorem LK {R:Type} {step:Int×Int->Option (LO (Int×Int) Int R)} {l:Str} {cap:Nat} (b:l.all digB=true) (j:l.length<=100000) (f:cap<=1000000000000)
  (a: ∀(v:Int) (i:Nat) (hi:i<l.length),step (v,(i:Int))=some (.again (if(cap:Int)<w64 (w64 (10*v)+w64 (wu8 ((l[i].toNat:Int) - 48)))then(cap:Int)else w64 (w64 (10*v)+w64 (wu8 ((l[i].toNat:Int) - 48))),w64 ((i:Int)+1))))
  (h2: ∀v:Int,step (v,(l.length:Int))=some (.out v)):Lf step (0,0)=some (.out ((capF cap 0 l:Nat):Int)):=by
 refine Zw (fun s=> ∃i:Nat,i<=l.length/\s=(((capF cap 0 (l.take i):Nat):Int),(i:Int))) (fun s=>l.length - s.2.toNat) _ ?_ ⟨0,by omega,rfl⟩;rintro _ ⟨i,hi,rfl⟩;rcases Yc i l.length with h|h
 ·refine .inl ⟨_,a _ i h,⟨i+1,by omega,?_⟩,by simp only;rw[zK (by omega) (by omega)];omega⟩;have e:=jm (Sb.1 b _ (Xc h));have d:capF cap 0 (l.take (i+1))=min cap (decN (capF cap 0 (l.take i)) l[i]):=by rw[Pe h,CG]
  have g:=Ri cap (l.take i) 0 (Ub _);have c:wu8 ((l[i].toNat:Int) - 48)=((l[i].toNat - 48:Nat):Int):=by show IntKind.u8.wrap _=_;rw[IntKind.wrap_u8];omega
  unfold decN at d;rw[c,zK (n:=10*_) (by omega) (by omega),zK (n:=((l[i].toNat - 48:Nat):Int)) (by omega) (by omega),zK (n:=(i:Int)+1) (by omega) (by omega),zK (by omega) (by omega)];refine Prod.ext ?_ ?_
  ·grind
  ·grind
 grind
theorem RF: ∀(k n:Nat),n<=Mf->Fg k n<=Mf
 |0,_,h=>h
 |k+1,n,h=>by
  unfold Fg;split
  ·exact h
  ·exact RF k _ (Nat.min_le_left ..)
theorem UN {R:Type} {step:Int×Int->Option (LO (Int×Int) Int R)} {v:Nat} {p:Int} (n:p<=4000000) (d: -4000000<=p) (i:v<=1000000000000)
  (h: ∀(a b:Int),step (a,b)=bif bif bif decide (a>0)then decide (b>0)else false then decide (b<1000000000000)else false then some (.again (w64 (a - 1),if 1000000000000<w64 (10*b)then 1000000000000 else w64 (10*b)))else some (.out b)):
  Lf step (p,(v:Int))=some (.out ((Fg p.toNat v:Nat):Int)):=by
 have o:Mf=1000000000000:=rfl;refine Zw (fun s=> ∃(a:Int) (b:Nat),s=(a,(b:Int))/\a<=4000000/\ -4000000<=a/\b<=1000000000000/\Fg a.toNat b=Fg p.toNat v) (fun s=>s.1.toNat) _ ?_ ⟨p,v,rfl,n,d,i,rfl⟩;rintro _ ⟨a,b,rfl,r,f,q,c⟩;rw[h];by_cases e:a>0
 ·obtain⟨k,l⟩: ∃k,a.toNat=k+1:=⟨a.toNat - 1,by omega⟩;rw[l,Fg]at c;rw[Fa e,Ca];by_cases g:b=0\/Mf<=b
  ·grind
  ·rw[Ja g]at c;have m:decide (((b:Nat):Int)>0)=true:=Fa (by omega);have j:decide (((b:Nat):Int)<1000000000000)=true:=Fa (by omega);rw[m,Ca,j,Ca];refine .inl ⟨_,rfl,⟨a - 1,min Mf (10*b),?_,by omega,by omega,by omega,?_⟩,by simp only;rw[zK (by omega) (by omega)];omega⟩
   ·rw[zK (by omega) (by omega),zK (by omega) (by omega)]
    grind
   grind
 ·rw[Ua e,Ba];refine .inr (.inl ⟨_,rfl,?_⟩);rw[<-c,show a.toNat=0 by omega];rfl
structure NumP where
 sg:Str
 D:Str
 F:Option Str
 X:Option (UInt8×Str×Str)
def dotS:Option Str->Str
 |none=>[]
 |some f=>46::f
def expT:Option (UInt8×Str×Str)->Str
 |none=>[]
 |some (e,s,x)=>e::(s++x)
def NumP.txt(n:NumP):Str:=n.sg++(n.D++(dotS n.F++expT n.X))
def sgB(s:Str):Bool:=s==[]||s==[43]||s==[45]
def NumP.ok(n:NumP):Bool:=sgB n.sg&&n.D.all digB&&(match n.F with|none=> !n.D.isEmpty|some f=> !f.isEmpty&&f.all digB)&&
 (match n.X with|none=>true|some (e,s,x)=>(e==101||e==69)&&sgB s&& !x.isEmpty&&x.all digB)
def expV:Option (UInt8×Str×Str)->Int
 |none=>0
 |some (_,s,x)=>if s==[45]then -((capF 1048576 0 x:Nat):Int)else((capF 1048576 0 x:Nat):Int)
def thoV(A:Str)(p:Int):Nat:=Fg p.toNat (capF Mf 0 (if p<0 then A.take ((A.length:Int)+p).toNat else A))
def NumP.val(n:NumP):Int:=
 let v:=thoV (n.D++n.F.getD []) (3+expV n.X - ((n.F.getD []).length:Int))
 if n.sg==[45]then -(v:Int)else(v:Int)
theorem Np{s:Str}(h:sgB s=true):s=[]\/s=[43]\/s=[45]:=by
 unfold sgB at h
 grind
theorem OI{s q:Str}(h:sgB s=true)(b: ∀c r,q=c::r->List.contains [43,45] c=false):Lib.trimLeftS (s++q) [43,45]=q:=by
 have a:Lib.trimLeftS q [43,45]=q:=by
  unfold Lib.trimLeftS;cases q with
  |nil=>rfl
  |cons c r=>simp_all
 rcases Np h with rfl|rfl|rfl
 ·exact a
 ·show List.dropWhile _ (43::q)=_;rw[Eg];exact a
 ·show List.dropWhile _ (45::q)=_;rw[Eg];exact a
theorem MJ{e:UInt8}(he:e=101\/e=69)(t:Str): ∀(l:Str),(l.all fun b=>digB b||b==46)=true->Lib.indexAny (l++e::t) [101,69]=(l.length:Int)
 |[],_=>by
  rw[Yb,Lib.indexAny]
  grind
 |c::l,h=>by
  rw[Uc,Ea]at h;have hc:List.contains [101,69] c=false:=by
   have: ∀n:Nat,n<256->(digB (UInt8.ofNat n)||UInt8.ofNat n==46)=true->List.contains [101,69] (UInt8.ofNat n)=false:=by decide+kernel
   have:=this c.toNat (aa c);rw[Kc]at this;exact this h.1
  rw[Ya,Lib.indexAny,hc,MJ he t l h.2]
  grind
theorem SH{l:Str}(h:l.all digB=true):(l.all fun b=>digB b||b==46)=true:=by
 grind
theorem ut{l:Str}(h: ∀b∈l,b.toNat<128):Sg l=true:=by
 unfold Sg
 grind
theorem CX{l:Str}(h:Sg l=true): ∀b∈l,b.toNat<128:=by
 unfold Sg at h
 grind
theorem bT{D:Str}(a:D.all digB=true)(F:Option Str): ∃f,Lib.cut (D++dotS F) [46]=(D,F.getD [],f):=by
 unfold Lib.cut;rw[oz];cases F with
 |none=> rw[show dotS none=[]from rfl,Xa,mD _ a,Ja (by decide)];simp_all
 |some g=> rw[show dotS (some g)=46::g from rfl,nD _ _ a,Ka (by omega)];simp_all
theorem fJ {D:Str} {F:Option Str} {E:Int} (w:D.all digB=true) (y:(F.getD []).all digB=true) (R:D.length+(F.getD []).length<=50000) (Q:E<=2000000) (C: -2000000<=E) (s:UInt8) (r:Str)
  (M:((s.toNat:Int)==45)=(r==[45])) (u:short (D++dotS F)=true):
  (ze (cutF (D++dotS F,[46])) fun c=>
 need (Zt c.1.length c.2.1.length)<|
 zX (X:=Str×Int) (
   bif decide (w64 ((3+E) - (c.2.1.length:Int))<0)then
    need (decide (0<=(if w64 (((c.1++c.2.1).length:Int)+w64 ((3+E) - (c.2.1.length:Int)))>0 then w64 (((c.1++c.2.1).length:Int)+w64 ((3+E) - (c.2.1.length:Int)))else 0))&&decide ((if w64 (((c.1++c.2.1).length:Int)+w64 ((3+E) - (c.2.1.length:Int)))>0 then w64 (((c.1++c.2.1).length:Int)+w64 ((3+E) - (c.2.1.length:Int)))else 0)<=((c.1++c.2.1).length:Int)))<|
    some (LX.out (List.take (if w64 (((c.1++c.2.1).length:Int)+w64 ((3+E) - (c.2.1.length:Int)))>0 then w64 (((c.1++c.2.1).length:Int)+w64 ((3+E) - (c.2.1.length:Int)))else 0).toNat (c.1++c.2.1),w64 ((3+E) - (c.2.1.length:Int))))
   else
    some (LX.out (c.1++c.2.1,w64 ((3+E) - (c.2.1.length:Int))))) fun j=>
 need (decide (j.1.length<=maxLen))<|
 Zg (fun(d:Int×Int)=>
   bif decide (d.2<(j.1.length:Int))then
    need (decide (0<=d.2)&&decide (d.2<(j.1.length:Int)))<|
    ze j.1[d.2.toNat]? fun g=>
    some (LO.again (if 1000000000000<w64 (w64 (10*d.1)+w64 (wu8 ((g.toNat:Int) - 48)))then 1000000000000 else w64 (w64 (10*d.1)+w64 (wu8 ((g.toNat:Int) - 48))),w64 (d.2+1)))
   else
    some (LO.out d.1):Int×Int->Option (LO (Int×Int) (Int) _)) (0,0) fun l=>
 Zg (fun(e:Int×Int)=>
   bif bif bif decide (e.1>0)then decide (e.2>0)else false then decide (e.2<1000000000000)else false then
    some (LO.again (w64 (e.1 - 1),if 1000000000000<w64 (10*e.2)then 1000000000000 else w64 (10*e.2)))
   else
    some (LO.out e.2):Int×Int->Option (LO (Int×Int) (Int) _)) (j.2,l) fun h=>
 zX (X:=Int) (
   bif (s.toNat:Int)==45 then
    some (LX.out (w64 (0 - h)))
   else
    some (LX.out h)) fun k=>
 some k)=some (if r==[45]then -((thoV (D++F.getD []) (3+E - ((F.getD []).length:Int)):Nat):Int)else((thoV (D++F.getD []) (3+E - ((F.getD []).length:Int)):Nat):Int)):=by
 obtain⟨f,m⟩:=bT w F;have O:cutF (D++dotS F,[46])=some (D,F.getD [],f):=by unfold cutF;rw[zm (by exact u)];exact congrArg some m
 have x:maxLen=9223372036854775807:=rfl;have t:Mf=1000000000000:=rfl;simp only[ze,O,Aa];generalize F.getD []=G at*;rw[zm (Ze.2 (by omega))];obtain⟨p,L⟩: ∃p:Int,p=3+E - (G.length:Int):=⟨_,rfl⟩;rw[<-L,zK (n:=p) (by omega) (by omega)];have S:(D++G).all digB=true:=by rw[List.all_append,w,y];rfl
 have K:(D++G).length<=50000:=by rw[Ha];omega
 generalize D++G=A at*;have H: ∀B:Str,B.all digB=true->B.length<=50000->(need (decide (B.length<=maxLen))<|
 Zg (fun(d:Int×Int)=>
   bif decide (d.2<(B.length:Int))then
    need (decide (0<=d.2)&&decide (d.2<(B.length:Int)))<|
    (B[d.2.toNat]?).bind fun g=>
    some (LO.again (if 1000000000000<w64 (w64 (10*d.1)+w64 (wu8 ((g.toNat:Int) - 48)))then 1000000000000 else w64 (w64 (10*d.1)+w64 (wu8 ((g.toNat:Int) - 48))),w64 (d.2+1)))
   else
    some (LO.out d.1):Int×Int->Option (LO (Int×Int) (Int) _)) (0,0) fun l=>
 Zg (fun(e:Int×Int)=>
   bif bif bif decide (e.1>0)then decide (e.2>0)else false then decide (e.2<1000000000000)else false then
    some (LO.again (w64 (e.1 - 1),if 1000000000000<w64 (10*e.2)then 1000000000000 else w64 (10*e.2)))
   else
    some (LO.out e.2):Int×Int->Option (LO (Int×Int) (Int) _)) (p,l) fun h=>
 zX (X:=Int) (
   bif (s.toNat:Int)==45 then
    some (LX.out (w64 (0 - h)))
   else
    some (LX.out h)) fun k=>
 some k)=some (if r==[45]then -((Fg p.toNat (capF Mf 0 B):Nat):Int)else((Fg p.toNat (capF Mf 0 B):Nat):Int)):=by
  intro B J z;have o:=Ri Mf B 0 (Ub _);rw[zm (Fa (by omega))];rw[Za (LK (cap:=Mf) J (by omega) (by omega) (fun v i U=> ?_) (fun v=> ?_))]
  ·have N:=RF p.toNat _ o;rw[Za (UN (by omega) (by omega) (by omega) (fun a b=> ?_)),M]
   ·cases T:r==[45]with
    |true=> rw[Ca,zh,zK (by omega) (by omega),Ka rfl];congr 1;omega
    |false=>simp_all
   ·simp only
  ·simp_all
  ·grind
 unfold thoV;by_cases q:p<0
 ·rw[Fa q,Ca,Ka q];have P:(if w64 ((A.length:Int)+p)>0 then w64 ((A.length:Int)+p)else 0)=((((A.length:Int)+p).toNat:Nat):Int):=by rw[zK (by omega) (by omega)];split<;>omega
  rw[P,zm (by grind),zh,Ra]
  grind
 ·rw[Ua q,Ba,Ja q,zh]
  grind
theorem JQ{n:NumP}(h:n.ok=true)(hl:n.txt.length<=40000):ZU n.txt=some n.val:=by
 obtain⟨sg,D,F,X⟩:=n;unfold NumP.ok at h;simp only[Ea]at h;obtain⟨⟨⟨hsg,hD⟩,hFo⟩,hX⟩:=h;have hF:(F.getD []).all digB=true:=by
  cases F with
  |none=>rfl
  |some f=>grind
 have hne:D++dotS F≠[]:=by
  cases F with
  |none=>simp_all
  |some f=>simp[dotS]
 have hpar:((D++dotS F).all fun b=>digB b||b==46)=true:=by
  rw[List.all_append,SH hD];cases F with
  |none=>rfl
  |some f=>rw[show dotS (some f)=46::f from rfl,Uc,SH (show f.all digB=true from hF)];rfl
 have hlen:sg.length+(D.length+((dotS F).length+(expT X).length))<=40000:=by
  have:(NumP.txt ⟨sg,D,F,X⟩).length=sg.length+(D.length+((dotS F).length+(expT X).length)):=by unfold NumP.txt;simp only[Ha]
  omega
 have hFl:(F.getD []).length<=(dotS F).length:=by
  cases F with
  |none=>grind
  |some f=>show f.length<=(46::f).length;grind
 have hhead: ∀c r,D++(dotS F++expT X)=c::r->List.contains [43,45] c=false:=by
  rw[<-Oa];intro c r e;cases hq:D++dotS F with
  |nil=>grind
  |cons d q=>
   rw[hq,Ya]at e;injection e with e1 _;subst e1;rw[hq,Uc,Ea,Gc]at hpar;rcases hpar.1 with hd|hd
   ·exact(Qc hd).2.2.2.2
   grind
 have hy1: ∃b,geti (NumP.txt ⟨sg,D,F,X⟩) 0=some b/\(((b.toNat:Int)==45)=(sg==[45])):=by
  unfold NumP.txt;show∃b,geti (sg++(D++(dotS F++expT X))) 0=some b/\_;rcases Np hsg with rfl|rfl|rfl
  ·cases hq:D++(dotS F++expT X)with
   |nil=>simp_all
   |cons c r=>
    refine⟨c,rfl,?_⟩;have:=hhead c r hq;refine Ga.2 (fun e=> ?_);have:c=45:=Fe.1 (by grind)
    grind
  ·exact⟨43,rfl,rfl⟩
  ·exact⟨45,rfl,rfl⟩
 obtain⟨y1,hg,hyy⟩:=hy1;have t1:yh (NumP.txt ⟨sg,D,F,X⟩,[43,45])=some (D++(dotS F++expT X)):=by unfold yh;rw[zm (show(short ([43,45]:Str)&&Sg [43,45])=true by decide)];exact congrArg some (OI hsg hhead)
 unfold ZU;simp only[ze,hg,t1,Aa];have hsh:short (D++dotS F)=true:=Fa (by grind);have hasc:Sg (D++dotS F)=true:=VJ hpar;cases X with
 |none=>
  have t2:QL (D++(dotS F++expT none),[101,69])=some (-1):=by show QL (D++(dotS F++[]),[101,69])=_;rw[Xa];unfold QL;rw[zm (by simp only[hsh,hasc,Ib,Eb];decide)];exact congrArg some (xD _ hpar)
  simp only[t2,Aa,show decide ((-1:Int)>=0)=false from rfl,Ba,zh];rw[show D++(dotS F++expT none)=D++dotS F by show D++(dotS F++[])=_;grind];have:=fJ (E:=0) hD hF (by omega) (by omega) (by omega) y1 sg hyy hsh;exact this
 |some ex=>
  obtain⟨e,s,x⟩:=ex;simp only[Ea]at hX;obtain⟨⟨⟨he,hs⟩,hxne⟩,hx⟩:=hX;have he':e=101\/e=69:=by rw[Gc,Ab,Ab]at he;exact he
  have hexl:(expT (some (e,s,x))).length=1+(s.length+x.length):=by show(e::(s++x)).length=_;rw[Ia,Ha];omega
  have hass:D++(dotS F++expT (some (e,s,x)))=(D++dotS F)++e::(s++x):=by rw[<-Oa];rfl
  have hasx:Sg ((D++dotS F)++e::(s++x))=true:=by
   refine ut (fun b hb=> ?_);rcases Od.1 hb with hb|hb
   ·exact CX hasc b hb
   ·rcases Lb.1 hb with hb|hb
    ·subst hb;rcases he' with rfl|rfl<;>decide
    ·rcases Od.1 hb with hb|hb
     ·rcases Np hs with rfl|rfl|rfl
      ·cases hb
      ·simp_all
      simp_all
     ·have:=jm (Sb.1 hx b hb);omega
  have hlt:((D++dotS F)++e::(s++x)).length<=40000:=by rw[Ha,Ia,Ha,Ha];omega
  have t2:QL (D++(dotS F++expT (some (e,s,x))),[101,69])=some ((D++dotS F).length:Int):=by rw[hass];unfold QL;show need (short ((D++dotS F)++e::(s++x))&&short [101,69]&&Sg ((D++dotS F)++e::(s++x))&&Sg [101,69]) _=_;rw[show short ((D++dotS F)++e::(s++x))=true from Fa (by omega),hasx];exact congrArg some (MJ he' (s++x) _ hpar)
  have hdrop:List.drop (D++dotS F).length ((D++dotS F)++e::(s++x))=e::(s++x):=List.drop_left;have hdrop1:List.drop ((D++dotS F).length+1) ((D++dotS F)++e::(s++x))=s++x:=by rw[<-Ae,hdrop];rfl
  have hd0:(D++dotS F).length<=40000:=by rw[Ha];omega
  have hw1:w64 (((D++dotS F).length:Int)+1)=(((D++dotS F).length+1:Nat):Int):=by rw[zK (by omega) (by omega)];omega
  simp only[t2,Aa];rw[Fa (show(((D++dotS F).length:Nat):Int)>=0 by omega),Ca,hw1,hass];have hlt2:(D++dotS F).length+1<=((D++dotS F)++e::(s++x)).length:=by rw[Ha (bs:=e::(s++x)),Ia];omega
  rw[zm (by grind),Ra,hdrop1];have hxh: ∀c r,x=c::r->List.contains [43,45] c=false:=by intro c r e;subst e;rw[Uc,Ea]at hx;exact(Qc hx.1).2.2.2.2
  have t4:yh (s++x,[43,45])=some x:=by unfold yh;rw[zm (show(short ([43,45]:Str)&&Sg [43,45])=true by decide)];exact congrArg some (OI hs hxh)
  have hxl:x.length<=40000:=by omega
  have hml:maxLen=9223372036854775807:=rfl;simp only[t4,Aa];rw[zm (Fa (by omega))];have hcap:=Ri 1048576 x 0 (Ub _);rw[Za (LK (cap:=1048576) hx (by omega) (by omega) (fun v i hi=> ?_) (fun v=> ?_))]
  ·have hg8: ∃y8,geti ((D++dotS F)++e::(s++x)) (((D++dotS F).length+1:Nat):Int)=some y8/\(((y8.toNat:Int)==45)=(s==[45])):=by
    have hgg: ∀(b:UInt8) (r:Str),s++x=b::r->geti ((D++dotS F)++e::(s++x)) (((D++dotS F).length+1:Nat):Int)=some b:=by
     intro b r e1;unfold geti;have:((D++dotS F)++e::(s++x))[(D++dotS F).length+1]? =some b:=by rw[Tg (by omega),show(D++dotS F).length+1 - (D++dotS F).length=1 by omega,We,e1];rfl
     rw[Ra,this,Fa (by omega)];rfl
    rcases Np hs with rfl|rfl|rfl
    ·cases hxx:x with
     |nil=>grind
     |cons c r=>
      refine⟨c,by grind,?_⟩;have:=hxh c r hxx;refine Ga.2 (fun e=> ?_);have h45:c=45:=Fe.1 (by grind)
      grind
    ·grind
    ·grind
   obtain⟨y8,h8,h8'⟩:=hg8;simp only[h8,Aa];rw[h8'];have hj:(bif s==[45]then(some (LX.out ((D++dotS F)++e::(s++x),3,w64 (0 - ((capF 1048576 0 x:Nat):Int)))):Option (LX (Str×Int×Int) (LX (Str×Int) Int)))else some (LX.out ((D++dotS F)++e::(s++x),3,((capF 1048576 0 x:Nat):Int))))
     =some (LX.out ((D++dotS F)++e::(s++x),3,expV (some (e,s,x)))):=by
    unfold expV;simp only;cases s==[45]with
    |true=>rw[Ca,Ka rfl,zK (by omega) (by omega)];simp
    |false=>grind
   have hEb:expV (some (e,s,x))<=1048576/\ -1048576<=expV (some (e,s,x)):=by unfold expV;simp only;split<;>omega
   refine(congrArg (fun o=>zX (zX o _) _) hj).trans ?_;simp only[zh];rw[show decide ((((D++dotS F).length:Nat):Int)<=((((D++dotS F)++e::(s++x)).length:Nat):Int))=true from Fa (by omega),zm (by rfl)];simp only[zh,Ra,List.take_left];rw[zK (by omega) (by omega)];exact fJ (E:=expV (some (e,s,x))) hD hF (by omega) (by omega) (by omega) y1 sg hyy hsh
  ·simp_all
  ·grind
theorem QM {S X R:Type} {step:S->Option (LO S X R)} {k:X->Option R} (Inv:S->Prop) (b:S->Nat) (y:R)
  (h: ∀s,Inv s->(∃s',step s=some (.again s')/\Inv s'/\b s'<b s)\/(∃x,step s=some (.out x)/\k x=some y)\/step s=some (.ret y)) {s:S} (d:Inv s):Zg step s k=some y:=by
 have c: ∀(m:Nat) (s:S),b s<m->Inv s-> ∃r:LX X R,qE step m s=some r/\r.go k=some y:=by
  intro m
  induction m with
  |zero=>intro s h;omega
  |succ m i=>
   intro s f d;simp only[qE];rcases h s d with⟨s',a,e,g⟩|⟨x,a,e⟩|a
   ·grind
   ·simp_all
   simp_all
 obtain⟨r,a,e⟩:=c (b s+1) s (by omega) d;rw[Jj (Wh a)];exact e
theorem tL(p:UInt8->Bool): ∀l:Str,past p l=l.dropWhile p
 |[]=>rfl
 |c::r=>by
  rw[past,Eg];cases h:p c with
  |true=>exact tL p r
  |false=>rfl
theorem Rp(p:UInt8->Bool)(l:Str):l.takeWhile p++past p l=l:=by rw[tL,List.takeWhile_append_dropWhile]
theorem yx(p:UInt8->Bool): ∀l:Str,(l.takeWhile p).all p=true
 |[]=>rfl
 |c::r=>by simp_all
def sgOf(l:Str):Str:=if Jf (atS l 0)then [atS l 0]else []
theorem iA(l:Str):sgOf l++unsign l=l:=by
 unfold sgOf unsign;cases h:Jf (atS l 0)with
 |false=>rfl
 |true=>
  rw[Ka rfl,Ka rfl];cases l with
  |nil=>exact absurd h (by decide)
  |cons c r=>rfl
theorem XR(l:Str):sgB (sgOf l)=true:=by
 unfold sgOf;cases h:Jf (atS l 0)with
 |false=>rfl
 |true=> rw[Ka rfl];unfold Jf at h;rw[Gc,Ab,Ab]at h;rcases h with h|h<;>rw[h]<;>rfl
def dotP(q:Str):Option Str:=if atS q 0==46&&digB (atS q 1)then some ((q.drop 1).takeWhile digB)else none
def expP(q:Str):Option (UInt8×Str×Str):=
 if(atS q 0==101||atS q 0==69)&&digB (atS (unsign (q.drop 1)) 0)then some (atS q 0,sgOf (q.drop 1),(unsign (q.drop 1)).takeWhile digB)else none
def numP(l:Str):NumP:=⟨sgOf l,(unsign l).takeWhile digB,dotP (past digB (unsign l)),expP (zT (past digB (unsign l))).1⟩
theorem HY(q:Str):dotS (dotP q)++(zT q).1=q/\(zT q).2=(dotP q).isNone:=by
 unfold dotP zT;cases h:atS q 0==46&&digB (atS q 1)with
 |false=>exact⟨rfl,rfl⟩
 |true=>
  rw[Ka rfl,Ka rfl];cases q with
  |nil=>exact absurd h (by decide)
  |cons c r=> rw[Ea,Ab]at h;refine⟨?_,rfl⟩;show(46::List.takeWhile digB r)++past digB r=c::r;rw[Ya,Rp,show c=46 from h.1]
theorem MX(q:Str):expT (expP q)++(match expS q with|some r=>r|none=>q)=q:=by
 unfold expP expS;cases a:atS q 0==101||atS q 0==69 with
 |false=>rfl
 |true=>
  cases b:digB (atS (unsign (q.drop 1)) 0)with
  |false=>rfl
  |true=>
   simp only[Bool.and_self,Jd];cases q with
   |nil=>exact absurd a (by decide)
   |cons c r=> show(c::(sgOf r++List.takeWhile digB (unsign r)))++past digB (unsign r)=c::r;rw[Ya,Oa,Rp,iA]
theorem Sz(l:Str):(numP l).txt++(zy l).1=l:=by
 have c:=(HY (past digB (unsign l))).1;have b:=MX (zT (past digB (unsign l))).1;have a:(zy l).1=(match expS (zT (past digB (unsign l))).1 with|some r=>r|none=>(zT (past digB (unsign l))).1):=by unfold zy;simp only;cases expS (zT (past digB (unsign l))).1<;>rfl
 rw[a];show(sgOf l++(List.takeWhile digB (unsign l)++(dotS (dotP (past digB (unsign l)))++expT (expP (zT (past digB (unsign l))).1))))++_=l;rw[Oa,Oa,Oa,b,c,Rp,iA]
theorem iB{p:UInt8->Bool}{q:Str}(h:p (atS q 0)=true)(a:p 0=false):(q.takeWhile p).isEmpty=false:=by
 cases q with
 |nil=>rw[show atS [] 0=0 from rfl,a]at h;cases h
 |cons c r=>rw[Dg,Ka (show p c=true from h)];rfl
theorem yw{l:Str}(h:nbS l=true):(numP l).ok=true:=by
 unfold NumP.ok numP;simp only[XR,yx,Eb,Ea];refine⟨?_,?_⟩
 ·unfold dotP;cases a:atS (past digB (unsign l)) 0==46&&digB (atS (past digB (unsign l)) 1)with
  |true=> rw[Ka rfl];simp only[yx,Ib];rw[Ea]at a;rw[iB (p:=digB) (by rw[Qk];exact a.2) (by decide)];rfl
  |false=>
   rw[Ja (by decide)];simp only;cases b:digB (atS (unsign l) 0)with
   |true=>rw[iB b (by decide)];rfl
   |false=>
    exfalso;have f:past digB (unsign l)=unsign l:=by
     cases e:unsign l with
     |nil=>rfl
     |cons c r=>rw[e]at b;rw[past,Ja (by rw[show digB c=false from b];decide)]
    rw[f]at a;unfold nbS undot at h;cases d:atS (unsign l) 0==46 with
    |false=>grind
    |true=>
     rw[d,Ka rfl,Qk]at h
     grind
 ·unfold expP;cases a:(atS (zT (past digB (unsign l))).1 0==101||atS (zT (past digB (unsign l))).1 0==69)&&digB (atS (unsign ((zT (past digB (unsign l))).1.drop 1)) 0)with
  |false=>rfl
  |true=> rw[Ka rfl];rw[Ea]at a;simp only[a.1,XR,yx,Ib,Eb];rw[iB a.2 (by decide)];rfl
theorem zBb{n:NumP}(h:n.ok=true):n.txt≠[]:=by
 obtain⟨c,D,F,X⟩:=n;unfold NumP.ok at h;simp only[Ea]at h;intro e;unfold NumP.txt at e;simp only[List.append_eq_nil_iff]at e;obtain⟨g,b,a,d⟩:=e;subst b;cases F with
 |none=>grind
 |some f=>cases a
theorem U0{c:UInt8}{r:Str}(h:nbS (c::r)=true):(zy (c::r)).1<:+r:=by
 have e:=Sz (c::r);have b:=zBb (yw h);cases a:(numP (c::r)).txt with
 |nil=>grind
 |cons d t=>
  grind
def zB(l:Str):zb×Str:=
 if nmS (zy l).1 then(⟨12,[],(numP l).val,(zo (zy l).1).1,(zy l).2⟩,(zo (zy l).1).2)
 else if atS (zy l).1 0==37 then(⟨11,[],(numP l).val,[],false⟩,(zy l).1.drop 1)
 else(⟨10,[],(numP l).val,[],(zy l).2⟩,(zy l).1)
theorem JD{s l t e:Str}(a:l<:+s)(h:t++e=l):List.drop (beh s l) (List.take (beh s e) s)=t:=by
 obtain⟨p,rfl⟩:=a;subst h;have c:beh (p++(t++e)) (t++e)=p.length:=by unfold beh;simp only[Ha];omega
 have b:beh (p++(t++e)) e=(p++t).length:=by unfold beh;simp only[Ha];omega
 grind
theorem sV{s l:Str}(hs:s.length<=40000)(hl:l<:+s)(h:nbS l=true):ZA (sr s l)=some ((zB l).1,sr s (zB l).2):=by
 have hsb:s.length<=big:=by unfold big;omega
 have he:=uM hl;have hle:=hl.length_le;have hsp:=Sz l;have hel:(zy l).1.length<=l.length:=by have:=congrArg List.length hsp;rw[Ha]at this;omega
 have htl:(numP l).txt.length<=40000:=by have:=congrArg List.length hsp;rw[Ha]at this;omega
 unfold ZA;rw[KX hsb hl];simp only[ze,Aa];have h1:(beh s l:Int)<=(beh s (zy l).1:Int):=by unfold beh;omega
 have h2:=ng s (zy l).1;rw[zm (by simp_all),Ra,Ra,JD hl hsp,JQ (yw h) htl];simp only[Aa];rw[show zN (0,sr s (zy l).1)=some (nmS (zy l).1)from RB (k:=0) hsb he (by omega)];simp only[Aa];unfold zB;cases hn:nmS (zy l).1 with
 |true=> rw[Ca,jv hsb he,Ka rfl];rfl
 |false=>
  rw[Ba,Lg hsb he,Ja (by decide)];simp only[Aa,zBp];cases h37:atS (zy l).1 0==37 with
  |true=> rw[Ca,zh,pq hsb he (by grind),Ka rfl]
  |false=>simp_all
theorem Ox(l:Str):(zo l).1.length<=4*l.length:=by
 match l with
 |[]=>rw[qB];grind
 |c::r=>
  rw[zO];split
  ·have:=Ox r
   grind
  ·split
   ·have b:=Zf r;have a:=dm r;have:=Ox (zq r).2
    grind
   grind
termination_by l.length
decreasing_by
 all_goals grind
def qh(l:Str):zb×Str:=
 if atS (zo l).2 0==40 then
  (if(lowS (zo l).1==[117,114,108])&& !(atS (past spB ((zo l).2.drop 1)) 0==34||atS (past spB ((zo l).2.drop 1)) 0==39)
  then(ig (urlS (past spB ((zo l).2.drop 1))).1,(urlS (past spB ((zo l).2.drop 1))).2)
  else(⟨2,(zo l).1,0,[],false⟩,(zo l).2.drop 1))
 else(⟨1,(zo l).1,0,[],false⟩,(zo l).2)
theorem EU{s q:Str}(m:s.length<=40000)(g:q<:+s):Zy (sr s q)=some ((qh q).1,sr s (qh q).2):=by
 have a:s.length<=big:=by unfold big;omega
 have e:(zo q).2<:+s:=(Vi q).trans g;have l:=Ox q;have i:=g.length_le;have f:(zo q).1.length<=big:=by unfold big;omega
 unfold Zy;rw[jv a g];simp only[ze,Aa,Lg a e];unfold bne qh;rw[zBq];cases d:atS (zo q).2 0==40 with
 |false=>rfl
 |true=>
  have c:atS (zo q).2 0≠0:=by rw[Ab.1 d];decide
  rw[Db,Ba,Ka rfl,pq a e c,OG f (by decide),Xo];simp only[Aa];have b:=Di e 1;cases n:lowS (zo q).1==[117,114,108]with
  |false=>rfl
  |true=>
   rw[Ca,jw a b,Eb];have k:=Ci spB b;simp only[Aa,Lg a k];rw[KR,JR];cases j:atS (past spB ((zo q).2.drop 1)) 0==34 with
   |true=>rfl
   |false=>
    cases h:atS (past spB ((zo q).2.drop 1)) 0==39 with
    |true=>rfl
    |false=> rw[urlR a b];rfl
theorem CV{c:UInt8}{r:Str}(h:letB c=true\/escS (c::r)=true):(zo (c::r)).2<:+r:=by
 rw[zO];split
 ·exact Vi r
 ·rename_i a;rw[Ka (h.resolve_left a)];exact(Vi _).trans (Zh r)
theorem FL{c:UInt8}{r:Str}(h:nmS (c::r)=true):letB c=true\/escS (c::r)=true:=by
 unfold nmS at h;cases a:atS (c::r) 0==45 with
 |true=> left;rw[show c=45 from Ab.1 a];decide
 |false=>
  rw[a,Ja (by decide),Gc]at h;rcases h with h|h
  ·left;unfold letB;rw[show fstB c=true from h];rfl
  ·exact .inr h
theorem PY{c:UInt8}{r:Str}(h:nmS (c::r)=true):(qh (c::r)).2<:+r:=by
 have b:=CV (FL h);have a:(zo (c::r)).2.drop 1<:+r:=(Xd 1 _).trans b;unfold qh;split
 ·split
  ·exact(uC _).trans ((Tm spB _).trans a)
  ·exact a
 ·exact b
def nxU(c:UInt8)(r:Str):zb×Str:=
  if nmS (c::r)then qh (c::r)
  else if bf c==0 then(⟨9,[c],0,[],false⟩,r)
  else(Ug (bf c),r)
def nxT(c:UInt8)(r:Str):zb×Str:=
  if nbS (c::r)then zB (c::r)
  else if [45,45,62].isPrefixOf (c::r)then(Ug 15,(c::r).drop 3)
  else if [60,33,45,45].isPrefixOf (c::r)then(Ug 14,(c::r).drop 4)
  else if c==64&&nmS r then(⟨3,(zo r).1,0,[],false⟩,(zo r).2)
  else nxU c r
def Zm:Str->zb×Str
 |[]=>(⟨0,[],0,[],false⟩,[])
 |c::r=>
  if spB c then(Ug 13,past spB (c::r))
  else if c==34||c==39 then(xh (zY c r).1,(zY c r).2)
  else if c==35&&(letB (atS r 0)||escS r)then(⟨4,(zo r).1,0,[],nmS r⟩,(zo r).2)
  else nxT c r
theorem Mq(c:UInt8)(r:Str):Zm (c::r)=
  if spB c then(Ug 13,past spB (c::r))
  else if c==34||c==39 then(xh (zY c r).1,(zY c r).2)
  else if c==35&&(letB (atS r 0)||escS r)then(⟨4,(zo r).1,0,[],nmS r⟩,(zo r).2)
  else if nbS (c::r)then zB (c::r)
  else if [45,45,62].isPrefixOf (c::r)then(Ug 15,(c::r).drop 3)
  else if [60,33,45,45].isPrefixOf (c::r)then(Ug 14,(c::r).drop 4)
  else if c==64&&nmS r then(⟨3,(zo r).1,0,[],false⟩,(zo r).2)
  else if nmS (c::r)then qh (c::r)
  else if bf c==0 then(⟨9,[c],0,[],false⟩,r)
  else(Ug (bf c),r):=rfl
theorem M0{c:UInt8}{r:Str}(h:nbS (c::r)=true):(zB (c::r)).2<:+r:=by
 have a:=U0 h;unfold zB;split
 ·exact(Vi _).trans a
 ·split
  ·exact(Xd 1 _).trans a
  ·exact a
theorem Ei(c:UInt8)(r:Str):(Zm (c::r)).2<:+r:=by
 rw[Mq];split
 ·rename_i h;show past spB (c::r)<:+r;rw[past,Ka h];exact Tm spB r
 ·split
  ·exact gz c r
  ·split
   ·exact Vi r
   ·split
    ·rename_i h;exact M0 h
    ·split
     ·exact Xd 2 r
     ·split
      ·exact Xd 3 r
      ·split
       ·exact Vi r
       ·split
        ·rename_i h;exact PY h
        grind
theorem IV(c:UInt8):decide (Lib.indexByte [58,59,44,91,93,40,41,123,125] c>=0)= !(bf c==0)/\(bf c≠0->wu8 (16+wu8 (Lib.indexByte [58,59,44,91,93,40,41,123,125] c))=bf c):=by
 have: ∀n:Nat,n<256->decide (Lib.indexByte [58,59,44,91,93,40,41,123,125] (UInt8.ofNat n)>=0)= !(bf (UInt8.ofNat n)==0)/\(bf (UInt8.ofNat n)≠0->wu8 (16+wu8 (Lib.indexByte [58,59,44,91,93,40,41,123,125] (UInt8.ofNat n)))=bf (UInt8.ofNat n)):=by decide+kernel
 have:=this c.toNat (aa c);simp_all
theorem Vh{m q:Str}(h:m.isPrefixOf q=true):m.length<=q.length:=by
 grind
def oq(s:Str)(X:zb×Str):Option (zb×za):=some (X.1,sr s X.2)
theorem zBj{s q:Str}{c:UInt8}{r:Str}(y:s.length<=40000)(b:q<:+s)(D:q=c::r):qf (sr s q)=some ((Zm q).1,sr s (Zm q).2):=by
 subst D;have a:s.length<=big:=by unfold big;omega
 have A:=z8 b;have J:(c::r).drop 1=r:=rfl;rw[show Zm (c::r)=if spB c then(Ug 13,past spB (c::r))else if c==34||c==39 then(xh (zY c r).1,(zY c r).2)else if c==35&&(letB (atS r 0)||escS r)then(⟨4,(zo r).1,0,[],nmS r⟩,(zo r).2)else nxT c r from rfl];unfold qf;simp only[ze,Lg a b,Aa];rw[zm JH];simp only[Ps,Aa,KR,JR,zBo,zBr,LC b,Xq,show atS (c::r) 0=c from rfl,Sn];cases Q:spB c with
 |true=> rw[Ca,jw a b,Ka rfl];rfl
 |false=>
  rw[Ba,Ja (by decide)];cases H:c==34||c==39 with
  |true=> rw[Ca,uR a b,Ka rfl];rfl
  |false=>
   rw[Ba,Ja (by decide)];have p:zu (1,sr s (c::r))=some (escS r):=Yy (k:=1) a b (by omega);have g:zN (1,sr s (c::r))=some (nmS r):=RB (k:=1) a b (by omega);have l:zN (0,sr s (c::r))=some (nmS (c::r)):=RB (k:=0) a b (by omega);have u:(⟨s,w64 ((beh s (c::r):Int)+1)⟩:za)=sr s r:=by rw[bg a b]
   rw[u];have o:((Zr (sr s (c::r))).bind fun w=>
    bif w then
     (ZA (sr s (c::r))).bind fun j=>
     some (j.1,j.2)
    else
     (some ([45,45,62].isPrefixOf (c::r))).bind fun v=>
     bif v then
      some ((⟨15,[],0,[],false⟩:zb),(⟨s,w64 ((beh s (c::r):Int)+3)⟩:za))
     else
      (some ([60,33,45,45].isPrefixOf (c::r))).bind fun t=>
      bif t then
       some ((⟨14,[],0,[],false⟩:zb),(⟨s,w64 ((beh s (c::r):Int)+4)⟩:za))
      else
       (zt (c==64) (zN (1,sr s (c::r))) (default:Bool)).bind fun h=>
       bif bif c==64 then h else false then
        (zS (sr s r)).bind fun f=>
        some ((⟨3,f.1,0,[],false⟩:zb),f.2)
       else
        (zN (0,sr s (c::r))).bind fun i=>
        bif i then
         (Zy (sr s (c::r))).bind fun d=>
         some (d.1,d.2)
        else
         (strings_IndexByte ([58,59,44,91,93,40,41,123,125],wu8 (pk (c::r) 0))).bind fun e=>
         bif decide (e>=0)then
          some ((⟨wu8 (16+wu8 e),[],0,[],false⟩:zb),sr s r)
         else
          need (decide (1<=((c::r).length:Int)))<|
          some ((⟨9,List.take 1 (c::r),0,[],false⟩:zb),sr s r))=
    oq s (nxT c r):=by
    unfold nxT;simp only[XU a b,Aa];cases x:nbS (c::r)with
    |true=> rw[Ca,sV y b x,Ka rfl];rfl
    |false=>
     rw[Ba,Ja (by decide)];cases O:[45,45,62].isPrefixOf (c::r)with
     |true=> rw[Ca,Ka rfl,show(3:Int)=((3:Nat):Int)from rfl,Bw (n:=3) a b (Vh O)];rfl
     |false=>
      rw[Ba,Ja (by decide)];cases L:[60,33,45,45].isPrefixOf (c::r)with
      |true=> rw[Ca,Ka rfl,show(4:Int)=((4:Nat):Int)from rfl,Bw (n:=4) a b (Vh L)];rfl
      |false=>
       rw[Ba,Ja (by decide),g,l];have m: ∀z:Bool,((some z).bind fun h=>bif h then
        (zS (sr s r)).bind fun f=>
        some ((⟨3,f.1,0,[],false⟩:zb),f.2)
       else
        (some (nmS (c::r))).bind fun i=>
        bif i then
         (Zy (sr s (c::r))).bind fun d=>
         some (d.1,d.2)
        else
         (strings_IndexByte ([58,59,44,91,93,40,41,123,125],wu8 (pk (c::r) 0))).bind fun e=>
         bif decide (e>=0)then
          some ((⟨wu8 (16+wu8 e),[],0,[],false⟩:zb),sr s r)
         else
          need (decide (1<=((c::r).length:Int)))<|
          some ((⟨9,List.take 1 (c::r),0,[],false⟩:zb),sr s r))=oq s (if z then(⟨3,(zo r).1,0,[],false⟩,(zo r).2)else nxU c r):=by
        intro z;unfold nxU;simp only[Aa];cases z with
        |true=> rw[Ca,jv a A];rfl
        |false=>
         rw[Ba,Ja (by decide)];cases G:nmS (c::r)with
         |true=>rw[Ca,EU y b];rfl
         |false=>
          rw[Ba,Ja (by decide),Im,GA];have R:(wu8 (c.toNat:Int)).toNat.toUInt8=c:=by rw[mo,Ue (aa c),Ra];exact Kc
          rw[R];obtain⟨K,S⟩:=IV c;simp only[Aa,K];cases M:bf c==0 with
          |true=> rw[Db,Ba,zm (Fa (by grind))];rfl
          |false=> rw[ma,Ca,S (Ga.1 M)];rfl
       cases N:c==64 with
       |false=> simp_all
       |true=> have:=m (nmS r);simp_all
   cases C:c==35 with
   |false=> simp only[Zb,Aa,Ba,Be,Ac];exact o
   |true=>
    simp only[zH,Aa,Ca,Ib,Eb,Lr a b,iJ];have E:atS (c::r) 1=atS r 0:=rfl;rw[E,p];have F:(bif letB (atS r 0)||escS r then(zN (1,sr s (c::r))).bind fun P=>(zS (sr s r)).bind fun B=>some ((⟨4,B.1,0,[],P⟩:zb),B.2)else oq s (nxT c r))=oq s (if(letB (atS r 0)||escS r)then(⟨4,(zo r).1,0,[],nmS r⟩,(zo r).2)else nxT c r):=by
     cases letB (atS r 0)||escS r with
     |false=>rfl
     |true=>rw[Ca,g,jv a A];rfl
    show _=oq s (if(letB (atS r 0)||escS r)then(⟨4,(zo r).1,0,[],nmS r⟩,(zo r).2)else nxT c r);rw[<-F];cases T:letB (atS r 0)with
    |true=>rfl
    |false=> simp_all
def clsS:Str->Option Str
 |[]=>none
 |c::r=>if c==42&&atS r 0==47 then some (r.drop 1)else clsS r
theorem Cj: ∀(l:Str) {r:Str},clsS l=some r->r<:+l/\r.length+2<=l.length
 |[],r,h=>by cases h
 |c::t,r,h=>by
  unfold clsS at h;split at h
  ·rename_i a;rw[Ea,Ab,Ab]at a;injection h with h;subst h;have:=Dr (l:=t) (n:=0) (by rw[a.2];decide);exact⟨(Xd 1 t).trans (lc c t),by grind⟩
  ·obtain⟨d,b⟩:=Cj t h
   grind
theorem pre2(b:UInt8)(l:Str):([42,47]:Str).isPrefixOf (b::l)=(b==42&&atS l 0==47):=by
 have c:((42:UInt8)==b)=(b==42):=by rw[yf,Ab,Ab];exact eq_comm
 rw[List.isPrefixOf,c];cases l with
 |nil=>rfl
 |cons d t=>
  have a:((47:UInt8)==d)=(d==47):=by rw[yf,Ab,Ab];exact eq_comm
  rw[List.isPrefixOf,a,List.isPrefixOf];rw[Ib];rfl
theorem kM: ∀l:Str,Lib.index l [42,47]=match clsS l with|none=> -1|some r=>((l.length - r.length - 2:Nat):Int)
 |[]=>rfl
 |b::l=>by
  rw[Lib.index,pre2,clsS];cases h:b==42&&atS l 0==47 with
  |true=>
   grind
  |false=>
   simp only[Ob,Ed];rw[kM l];cases a:clsS l with
   |none=>rfl
   |some r=>
    have:=(Cj l a).2
    grind
def cmtS(l:Str):Str:=
 if([47,42]:Str).isPrefixOf l then
  (match h:clsS (l.drop 2)with
  |some q=>cmtS q
  |none=>[])
 else l
termination_by l.length
decreasing_by
 have:=(Cj _ h).2
 grind
theorem Mh(l:Str):cmtS l=if([47,42]:Str).isPrefixOf l then(match clsS (l.drop 2)with|some q=>cmtS q|none=>[])else l:=by
 rw[cmtS]
 grind
theorem ZX{l:Str}(h:([47,42]:Str).isPrefixOf l=false):cmtS l=l:=by rw[Mh,h];rfl
theorem Lh(l:Str):cmtS l<:+l:=by
 rw[Mh];split
 ·split
  ·rename_i q b;have a:=Cj _ b;have c:=a.2;rw[ib]at c;exact(Lh q).trans (a.1.trans (Xd 2 l))
  grind
 grind
termination_by l.length
decreasing_by
 grind
theorem Nj(l:Str):cmtS (cmtS l)=cmtS l:=by
 rw[Mh l];split
 ·split
  ·rename_i q a;have b:=(Cj _ a).2;rw[ib]at b;exact Nj q
  ·exact ZX rfl
 ·rename_i h;exact ZX (Bool.eq_false_iff.2 h)
termination_by l.length
decreasing_by
 grind
theorem Jt(l:Str):([47,42]:Str).isPrefixOf (cmtS l)=false:=by
 have h:=Nj l;cases b:([47,42]:Str).isPrefixOf (cmtS l)with
 |false=>rfl
 |true=>
  exfalso;rw[Mh (cmtS l),b,Ka rfl]at h;have c:=Vh b;rw[show([47,42]:Str).length=2 from rfl]at c;cases a:clsS ((cmtS l).drop 2)with
  |none=>grind
  |some q=>
   rw[a]at h;have d:=(Cj _ a).2;have e:=(Lh q).length_le
   grind
theorem XM{s q:Str}(hs:s.length<=40000)(hq:q<:+s):Zl (sr s q)=some (sr s (cmtS q)):=by
 have hsb:s.length<=big:=by unfold big;omega
 unfold Zl;refine QM (fun z=> ∃p,z=sr s p/\p<:+s/\cmtS p=cmtS q) (fun z=>s.length - z.at_.toNat) _ ?_ ⟨q,rfl,hq,rfl⟩;rintro _ ⟨p,rfl,hp,he⟩;rw[zm JH];simp only[ze,LC hp,Xq,Aa];rw[Mh p]at he;cases hpre:([47,42]:Str).isPrefixOf p with
 |false=>
  grind
 |true=>
  rw[hpre,Ka rfl]at he;have hl:=Vh hpre;rw[show([47,42]:Str).length=2 from rfl]at hl;have hle:=hp.length_le;have hb:=PD hp hl;have hb2:=ng s (p.drop 2);rw[Ca];have hw:w64 ((beh s p:Int)+2)=((beh s (p.drop 2):Nat):Int):=by rw[<-hb,zK (by omega) (by omega)];omega
  rw[hw,zm (by grind),LC (Di hp 2)];have hlen:(p.drop 2).length<=40000:=by rw[ib];omega
  have hi:si (p.drop 2,[42,47])=some (Lib.index (p.drop 2) [42,47]):=by unfold si;rw[zm (by exact Fa (show(p.drop 2).length<4294967281 by omega))]
  rw[hi,kM];simp only[Aa];cases hc:clsS (p.drop 2)with
  |none=>
   rw[hc]at he;refine .inr (.inr ?_);rw[<-he];show _=some (LO.ret (⟨s,(beh s []:Int)⟩:za));unfold beh
   grind
  |some r=>
   rw[hc]at he;obtain⟨h1,h2⟩:=Cj _ hc;have hrs:r<:+s:=h1.trans (Di hp 2);rw[ib]at h2 hlen;simp only;rw[Ua (by omega),Ba];refine .inl ⟨sr s r,?_,⟨r,rfl,hrs,he⟩,?_⟩
   ·rw[ib,zK (n:=_+4) (by omega) (by omega)];have:(beh s p:Int)+(((p.length - 2 - r.length - 2:Nat):Int)+4)=((beh s r:Nat):Int):=by unfold beh;omega
    rw[this,zK (by grind) (by grind)]
   ·show s.length - beh s r<s.length - beh s p;unfold beh;omega
def ql(l:Str):List zb:=
 match h:cmtS l with
 |[]=>[]
 |c::r=>(Zm (c::r)).1::ql (Zm (c::r)).2
termination_by l.length
decreasing_by
 have b:=(Ei c r).length_le;have a:=(Lh l).length_le
 grind
theorem QG{l:Str}(h:cmtS l=[]):ql l=[]:=by
 rw[ql]
 grind
theorem Qu{l:Str}{c:UInt8}{r:Str}(h:cmtS l=c::r):ql l=(Zm (c::r)).1::ql (Zm (c::r)).2:=by
 rw[ql]
 grind
theorem Jp(l:Str):ql (cmtS l)=ql l:=by
 cases h:cmtS l with
 |nil=>rw[QG h];exact QG (ZX rfl)
 |cons c r=> rw[Qu h];exact Qu (by rw[<-h,Nj])
theorem EE(l:Str):(ql l).length<=l.length:=by
 cases h:cmtS l with
 |nil=>rw[QG h];grind
 |cons c r=>
  have b:(Zm (c::r)).2.length<l.length:=by have d:=(Ei c r).length_le;have a:=(Lh l).length_le;rw[h,Ia]at a;omega
  rw[Qu h,Ia];have:=EE (Zm (c::r)).2;omega
termination_by l.length
decreasing_by
 all_goals omega
theorem uY: ∀l:Str,(Proofs.Cl.cleanS l).length<=3*l.length:=by
 have: ∀(n:Nat) (l:Str),l.length<=n->(Proofs.Cl.cleanS l).length<=3*l.length:=by
  intro n
  induction n with
  |zero=>
   intro l h;cases l with
   |nil=>rw[Proofs.Cl.cleanS];grind
   |cons c r=>grind
  |succ n ih=>
   intro l h;rw[Proofs.Cl.cleanS.eq_def]
   grind
 exact fun l=>this l.length l (Va _)
def Cm(w:Str):List zb×Int:=if 4000<w.length then([],28)else if 1500<(ql (Proofs.Cl.cleanS w)).length then([],4)else(ql (Proofs.Cl.cleanS w),0)
theorem LJ{n:Nat}(h:n<=100000):zQ n 1 56=true:=by unfold zQ;grind
theorem WY(w:Str):Dv w=some (Cm w):=by
 unfold Dv Cm;by_cases b:4000<w.length
 ·have e:Aj w=some ([],28):=by unfold Aj;rw[Ka b]
  unfold Cv
  grind
 ·have e:Aj w=some (Proofs.Cl.cleanS w,0):=by unfold Aj;rw[Ja b]
  rw[Ja b];have x:=uY w;generalize Proofs.Cl.cleanS w=s at e x;have o:s.length<=40000:=by omega
  unfold Cv;rw[e];simp only[ze,Aa];rw[show((0:Int) != 0)=false from rfl,Ba,sr_0,XM o (Ad s)];simp only[Aa];have f: ∃z:Int×List zb,Zg (fun(d:Int×List zb×za)=>
    bif decide (d.2.2.at_<(s.length:Int))then
     bif decide (w64 (d.1+1)>1500)then
      some (LO.ret (4,d.2.1))
     else
      (qf d.2.2).bind fun t=>
      (Qt ((t.1,d.2.2.at_,t.2.at_),d.2.1)).bind fun y=>
      (Zl t.2).bind fun A=>
      some (LO.again (w64 (d.1+1),y,A))
    else
     some (LO.out (d.2.1,d.2.2)):Int×List zb×za->Option (LO (Int×List zb×za) (List zb×za) (Int×List zb))) (0,[],sr s (cmtS s)) (fun C=>some (0,C.1))=some z/\
    z=(if 1500<(ql s).length then(4,(ql s).take 1500)else(0,ql s)):=by
   refine⟨_,QM (fun z=> ∃(a:List zb) (q:Str),z=((a.length:Int),a,sr s q)/\q<:+s/\cmtS q=q/\a.length<=1500/\a++ql q=ql s) (fun z=>s.length - z.2.2.at_.toNat) (if 1500<(ql s).length then(4,(ql s).take 1500)else(0,ql s)) ?_ ⟨[],cmtS s,rfl,Lh s,Nj s,by simp,by rw[Yb,Jp]⟩,rfl⟩;rintro _ ⟨a,q,rfl,m,n,G,i⟩;simp only;have l:=m.length_le;cases q with
   |nil=>
    have B:((beh s []:Nat):Int)=(s.length:Int):=by unfold beh;rw[Kb];rfl
    have k:decide (((beh s []:Nat):Int)<(s.length:Int))=false:=Ua (by omega);simp only[k,Ba];rw[QG (ZX rfl),Xa]at i
    grind
   |cons c r=>
    rw[Ia]at l;have B:beh s (c::r)<s.length:=by unfold beh;rw[Ia];omega
    have k:decide (((beh s (c::r):Nat):Int)<(s.length:Int))=true:=Fa (by omega);have v:w64 ((a.length:Int)+1)=(a.length:Int)+1:=zK (by omega) (by omega);simp only[k,Ca,v];rw[Qu n]at i;have g:=congrArg List.length i;rw[Ha,Ia]at g;by_cases j:a.length=1500
    ·grind
    ·have p:decide ((a.length:Int)+1>1500)=false:=Ua (by omega);simp only[p,Ba,zBj o m rfl,Aa];unfold Qt;rw[zm (LJ (by simp only;omega))];have h:(Zm (c::r)).2<:+s:=(Ei c r).trans (z8 m);simp only[Aa,XM o h];refine .inl ⟨_,rfl,⟨a++[(Zm (c::r)).1],cmtS (Zm (c::r)).2,?_,(Lh _).trans h,Nj _,by grind,?_⟩,?_⟩
     ·grind
     ·rw[Jp,Oa];exact i
     ·have E:=(Ei c r).length_le;have F:=(Lh (Zm (c::r)).2).length_le;show s.length - beh s (cmtS (Zm (c::r)).2)<s.length - beh s (c::r);unfold beh at*
      grind
  obtain⟨z,D,u⟩:=f
  grind
end Go.Lv.VT
