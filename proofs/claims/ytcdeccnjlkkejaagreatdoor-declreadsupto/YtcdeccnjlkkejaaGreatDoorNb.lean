/- The writing of names. -/
import Derived.Test.YtcdeccnjlkkejaaGreatDoorNam
set_option linter.unusedSimpArgs false
set_option linter.unusedVariables false
namespace Go.Lv.VT
set_option maxRecDepth 100000
def escC(c:UInt8):Str:=bif decide (32<c.toNat)&&decide (c.toNat<127)&& !digB c&& !alB c then [92,c]else 92::(hexS c.toNat++[32])
def pcW(dash:Bool)(k:Nat)(c:UInt8):Str:=bif letB c&&(k==0|| !digB c)&& !dash then [c]else escC c
def encW(dash:Bool):Nat->Str->Str
 |_,[]=>[]
 |k,c::r=>pcW dash k c++encW dash (k - 1) r
def zB3(l:Str):Nat:=if [45].isPrefixOf l then 2 else 1
def Vp(l:Str):Str:=encW (l==[45]) (zB3 l) l
theorem tZ{k n:Nat}{c:UInt8}{r:Str}(h:Vf c=true):hexes (k+1) n (c::r)=hexes k (16*n+hexN c) r:=by rw[hexes,Na h]
theorem Vm(m:UInt8):zR m []=(some [],[]):=by rw[zR]
theorem ED(m c:UInt8)(r:Str):zR m (c::r)=if c==m then(some [],r)
  else if c==10 then(none,c::r)
  else if c==92 then
   (if r.isEmpty then(some [],[])
   else if atS r 0==10 then zR m (r.drop 1)
   else((zR m (zu r).2).1.map ((zu r).1++ ·),(zR m (zu r).2).2))
  else((zR m r).1.map (c:: ·),(zR m r).2):=by rw[zR]
theorem Ns(m:UInt8)(l:Str):(zR m l).2<:+l:=by
 match l with
 |[]=>rw[Vm];grind
 |c::r=>
  rw[ED];have a:=Ae c r;split
  ·exact a
  ·split
   ·grind
   ·split
    ·split
     ·grind
     ·split
      ·exact(Ns m (r.drop 1)).trans ((We 1 r).trans a)
      ·have:=zT r;exact(Ns m (zu r).2).trans ((Zc r).trans a)
    ·exact(Ns m r).trans a
termination_by l.length
decreasing_by
 all_goals grind
theorem Ov(a b:Str)(x:Option Str):(x.map (b++ ·)).map (a++ ·)=x.map ((a++b)++ ·):=by
 cases x with
 |none=>rfl
 |some t=>grind
theorem gB(a:Str)(b:UInt8)(x:Option Str):(x.map (b:: ·)).map (a++ ·)=x.map ((a++[b])++ ·):=Ov a [b] x
def Jn:Option Str->zf
 |some t=>⟨5,t,0,[],false⟩
 |none=>⟨6,[],0,[],false⟩
theorem zBx{s q:Str}{m:UInt8}(k:s.length<=big)(w:m::q<:+s):qB (sr s (m::q))=some (Jn (zR m q).1,sr s (zR m q).2):=by
 have J:big=4194304:=rfl;have D:=zX w;unfold qB;simp only[ze,ag k w,Aa,xn,Gh k w]
 let g:LX (za×zf×List UInt8) (zf×za):=match(zR m q).1 with
  |some t=> .out (sr s (zR m q).2,⟨0,[],0,[],false⟩,t)
  |none=> .ret (⟨6,[],0,[],false⟩,sr s (zR m q).2)
 rw[Qd (r:=g)]
 ·show LX.go g _=_;cases h:(zR m q).1 with
  |some t=>simp only[g,h];rfl
  |none=>simp only[g,h];rfl
 refine ZK (fun z=> ∃(p e:Str),z=(sr s p,⟨0,[],0,[],false⟩,e)/\p<:+s/\e.length+4*p.length<=4*s.length/\(zR m q).1=(zR m p).1.map (e++ ·)/\(zR m q).2=(zR m p).2) (fun z=>s.length - z.1.at_.toNat) _ ?_
  ⟨q,[],rfl,D,by grind,by simp,rfl⟩
 rintro _ ⟨p,e,rfl,j,C,b,a⟩;simp only[ag k j,Aa,Kn,fJ,XT];cases p with
 |nil=>
  refine .inr (.inl ⟨_,rfl,?_⟩);rw[Vm]at b a
  grind
 |cons c t=>
  have i:=j.length_le;rw[Ea]at i C;have n:=zX j;rw[ED]at b a;rw[show(c::t).isEmpty=false from rfl,Ba,xn,show((c.toNat:Int)==(m.toNat:Int))=(c==m)from qC c m,show atS (c::t) 0=c from rfl,Gh k j];have f: ∀u:Str,u.length<=t.length->u<:+s->s.length - beh s u<s.length - beh s (c::t):=by intro u A F;unfold beh;rw[Ea];omega
  cases v:c==m with
  |true=>
   grind
  |false=>
   rw[v,Ka (by decide)]at b a;rw[Ba];cases y:c==10 with
   |true=>
    grind
   |false=>
    rw[y,Ka (by decide)]at b a;rw[Ba];cases l:c==92 with
    |false=> rw[l,Ka (by decide)]at b a;simp only[zn,Ba,Aa,Md,Bw];rw[zC (Ni (by omega))];exact .inl ⟨_,rfl,⟨t,e++[c],rfl,n,by grind,by rw[b,gB],a⟩,f t (by omega) n⟩
    |true=>
     rw[l,Na rfl]at b a;simp only[zn,Ca,au k j,Aa,Mc];have x:pk (c::t) 1=pk t 0:=rfl;rw[x,Kn];cases t with
     |nil=>
      rw[show([]:Str).isEmpty=true from rfl,Na rfl]at b a;have o:beh s [c]=s.length - 1:=rfl;have G:(if((s.length:Int)<w64 ((beh s [c]:Int)+2))then(s.length:Int)else w64 ((beh s [c]:Int)+2))=((beh s []:Nat):Int):=by rw[Zf (by omega) (by omega),Na (by omega)];unfold beh;rw[Db];omega
      refine .inl ⟨(sr s [],⟨0,[],0,[],false⟩,e),?_,⟨[],e,rfl,Mg,by grind,by rw[b,Vm],by rw[a,Vm]⟩,f [] (by simp) Mg⟩
      grind
     |cons d u=>
      rw[show(d::u).isEmpty=false from rfl,Ka (by decide)]at b a;simp only[show(d::u).isEmpty=false from rfl,Ta,Ca,Ba,Aa,fJ];cases B:atS (d::u) 0==10 with
      |true=>
       rw[B,Na rfl]at b a;have A:=zX n;rw[Ea]at i C;have o:beh s (c::d::u)=s.length - (u.length+1+1):=by unfold beh;rw[Ea,Ea]
       have G:(if((s.length:Int)<w64 ((beh s (c::d::u):Int)+2))then(s.length:Int)else w64 ((beh s (c::d::u):Int)+2))=((beh s u:Nat):Int):=by rw[Zf (by omega) (by omega),Ka (by omega)];unfold beh;rw[Ea,Ea];omega
       refine .inl ⟨(sr s u,⟨0,[],0,[],false⟩,e),?_,⟨u,e,rfl,A,by omega,b,a⟩,f u (by grind) A⟩
       grind
      |false=> rw[B,Ka (by decide)]at b a;have H:=Xk (d::u);have E:=zT (d::u);refine .inl ⟨(sr s (zu (d::u)).2,⟨0,[],0,[],false⟩,e++(zu (d::u)).1),?_,⟨_,_,rfl,(Zc _).trans n,by grind,by rw[b,Ov],a⟩,f _ E ((Zc _).trans n)⟩;simp only[Ba,FH k j (show e.length<=1000000000 by omega),Aa]
theorem vT{n:Nat}(l:n≠0)(h:n<16777216):Z8 (w32 (n:Int))=some (wh n):=by
 have j:Zo 0 1 1=true:=Ni (by omega);have f:Zo 0 2 1=true:=Ni (by omega);have d:Zo 0 3 1=true:=Ni (by omega);have g:Zo 0 4 1=true:=Ni (by omega);have c:(128+n%64)<256:=by omega
 have a:(128+n / 64%64)<256:=by omega
 have b:(128+n / 4096%64)<256:=by omega
 unfold Z8 qd wh;simp only[Hm (show n<2147483648 by omega),bL (show n<2147483648 by omega),ze,shr6,nT,lT,WL,ZA c,ZA a,ZA b,Aa];by_cases e:n<128
 ·rw[La (by omega),Ca,Jr,ZA (by omega),Aa,zC j,Ka (by omega),Na e,Mf (by omega)]
 ·rw[Ya (by omega),Ba];by_cases i:n<2048
  ·rw[La (by omega),Ca,gT (by omega),ZA (by omega)];simp only[Aa];rw[zC f,Ka (by omega),Ka (by omega),Na i];rfl
  ·rw[Ya (by omega),Ba];by_cases m:n<55296
   ·rw[La (by omega),Ca,zh];simp only[Ca];rw[uy (by omega),ZA (by omega)];simp only[Aa];rw[zC d,Ka (by omega),Ka (by omega),Ka (by omega),Na (by omega)];rfl
   ·rw[Ya (by omega),Ba,zh];simp only[iU];by_cases k:57343<n/\n<65536
    ·rw[La (by omega),La (by omega),Mc,Ca,uy (by omega),ZA (by omega)];simp only[Aa];rw[zC d,Ka (by omega),Ka (by omega),Ka (by omega),Na (by omega)];rfl
    ·rw[show(decide ((57343:Int)<(n:Int))&&decide ((n:Int)<=65535))=false by grind,Ba];by_cases o:65535<n/\n<=1114111
     ·rw[La (by omega),La (by omega),Mc,Ca,fT (by omega),ZA (by omega)];simp only[Aa];rw[zC g,Ka (by omega),Ka (by omega),Ka (by omega),Ka (by omega)];rfl
     ·rw[show(decide ((n:Int)>65535)&&decide ((n:Int)<=1114111))=false by grind,Ba,zC d,Na (by omega)];rfl
theorem FO:Z8 65533=some Sl:=by have h:=vT (n:=65533) (by omega) (by omega);rw[Hm (by omega)]at h;exact h
theorem XY{s l:Str}{c:UInt8}(hs:s.length<=big)(hr:c::l<:+s):
  ZR (sr s (c::l))=some (sr s (zu l).2,(zu l).1):=by
 have hl:=zX hr;unfold ZR;simp only[Gh hs hr,ze,ag hs hl,Aa,Kn];cases l with
 |nil=> rw[show([]:Str).isEmpty=true from rfl,Ca,FO];rfl
 |cons d r=>
  rw[show(d::r).isEmpty=false from rfl,Ba,Dz];simp only[Aa,Xr];cases hx:Vf (atS (d::r) 0)with
  |false=>
   rw[Ta,Ca,xn,Bw];simp only[Aa,Gh hs hl];rw[zC (Ni (n:=0) (by omega))];have:zu (d::r)=([d],r):=by show(if Vf d then _ else _)=_;rw[Ka (by rw[show Vf d=false from hx];decide)]
   rw[this]
  |true=>
   rw[Cb,Ba];have he:zu (d::r)=(wh (hexes 6 0 (d::r)).1,unsp (hexes 6 0 (d::r)).2):=by show(if Vf d then _ else _)=_;rw[Na (show Vf d=true from hx)]
   rw[he];rw[qA (vL (l:=d::r) hl (fun n i q hq hn hi=> ?_))]
   ·have hq:(hexes 6 0 (d::r)).2<:+s:=(Sw 6 0 _).trans hl;have hlt:=uA 6 0 (d::r);rw[show 16 ^ 6*(0+1)=16777216 from rfl]at hlt;simp only[ag hs hq,Aa,Cv];have hj:(bif spB (atS (hexes 6 0 (d::r)).2 0)then some (LX.out (((hexes 6 0 (d::r)).1:Int),(⟨s,w64 ((beh s (hexes 6 0 (d::r)).2:Int)+1)⟩:za)))else some (LX.out (((hexes 6 0 (d::r)).1:Int),sr s (hexes 6 0 (d::r)).2)):Option (LX (Int×za) (za×List UInt8)))
      =some (LX.out (((hexes 6 0 (d::r)).1:Int),sr s (unsp (hexes 6 0 (d::r)).2))):=by
     cases hh:(hexes 6 0 (d::r)).2 with
     |nil=>rfl
     |cons e t=>
      rw[hh]at hq;rw[show atS (e::t) 0=e from rfl,Gh hs hq];show _=some (LX.out (_,sr s (if spB e then t else e::t)))
      grind
    rw[hj,zh];simp only;by_cases h0:(hexes 6 0 (d::r)).1=0
    ·rw[h0,show((((0:Nat):Int))==0)=true from rfl,Ca,zh];simp only[Hm (show 65533<2147483648 by omega),show w32 (65533:Int)=65533 from Hm (n:=65533) (by omega),FO,Aa];rfl
    ·rw[show(((hexes 6 0 (d::r)).1:Int)==0)=false by grind,Ba,zh];simp only[vT h0 hlt,Aa]
   ·simp only[ag hs hq,Aa,Dz,Xr];have hb6:decide ((i:Int)<6)=decide (i<6):=by rw[Lf];omega
    rw[hb6];cases decide (i<6)with
    |false=>rfl
    |true=>
     rw[Ca,Ob];cases hx2:Vf (atS q 0)with
     |false=>rfl
     |true=>
      cases q with
      |nil=>exact absurd hx2 (by decide)
      |cons e t=>
       have hI:hexI (atS (e::t) 0)=(hexN (atS (e::t) 0):Int):=by unfold hexI;rw[Na hx2]
       rw[hI,JU hn (Nv hx2),Gh hs hq,Zf (by omega) (by omega)];rfl
theorem CG:badS []=[]:=by rw[badS]
theorem NH(c:UInt8)(r:Str):badS (c::r)=if c==41 then r else if escS (c::r)then badS (zu r).2 else badS r:=by rw[badS]
theorem YA(l:Str):badS l<:+l:=by
 match l with
 |[]=>rw[CG];grind
 |c::r=>
  rw[NH];have a:=Ae c r;split
  ·exact a
  ·split
   ·have:=zT r;exact(YA (zu r).2).trans ((Zc r).trans a)
   ·exact(YA r).trans a
termination_by l.length
decreasing_by
 all_goals grind
theorem zCa{s t:Str}{c:UInt8}(e:s.length<=big)(h:c::t<:+s):geti s (w64 ((beh s t:Int) - 1))=some c:=by
 have f:big=4194304:=rfl;have b:=h.length_le;rw[Ea]at b;have d:=Ho h;have g:beh s t=beh s (c::t)+1:=by unfold beh;rw[Ea];omega
 have a:beh s (c::t)<s.length:=by unfold beh;rw[Ea];omega
 rw[Zf (by omega) (by omega),show(beh s t:Int) - 1=((beh s (c::t):Nat):Int) by omega,Zt a];rw[Pb a]at d
 grind
theorem badR{s q:Str}(e:s.length<=big)(j:q<:+s):Z7 (sr s q)=some (⟨8,[],0,[],false⟩,sr s (badS q)):=by
 unfold Z7;refine KH ?_;refine ZK (fun z=> ∃(p:Str),z=(sr s p,(⟨0,[],0,[],false⟩:zf))/\p<:+s/\badS q=badS p) (fun z=>s.length - z.1.at_.toNat) _ ?_ ⟨q,rfl,j,rfl⟩;rintro _ ⟨p,rfl,b,g⟩;simp only[ze,ag e b,Aa,Kn];cases p with
 |nil=>exact .inr (.inr ⟨_,rfl,by rw[g,CG]⟩)
 |cons c t=>
  have d:=b.length_le;rw[Ea]at d;have i:=zX b;have f: ∀u:Str,u.length<=t.length->u<:+s->s.length - beh s u<s.length - beh s (c::t):=by intro u l k;unfold beh;rw[Ea];omega
  rw[show(c::t).isEmpty=false from rfl,Ba,JG e b];rw[NH]at g;simp only[Aa];cases a:escS (c::t)with
  |true=>
   have h:(c==41)=false:=by unfold escS at a;rw[Fa,Uc]at a;rw[show c=92 from a.1];decide
   rw[a,h,Ka (by decide),Na rfl]at g;rw[Ca,XY e b];exact .inl ⟨_,rfl,⟨_,rfl,(Zc t).trans i,g⟩,f _ (zT t) ((Zc t).trans i)⟩
  |false=>
   rw[Ba,Gh e b,zCa e b];simp only[Aa];rw[show((c.toNat:Int)==41)=(c==41)from qC c 41]
   grind
theorem Nr:urlS []=(some [],[]):=by rw[urlS]
theorem Xo(c:UInt8)(r:Str):urlS (c::r)=if c==41 then(some [],r)
  else if spB c then(match past spB r with
   |[]=>(some [],[])
   |d::a=>if d==41 then(some [],a)else(none,badS (d::a)))
  else if c==34||c==39||c==40||unB c||c==92&& !escS (c::r)then(none,badS (c::r))
  else if c==92 then((urlS (zu r).2).1.map ((zu r).1++ ·),(urlS (zu r).2).2)
  else((urlS r).1.map (c:: ·),(urlS r).2):=by rw[urlS];grind
theorem tq(l:Str):(urlS l).2<:+l:=by
 match l with
 |[]=>rw[Nr];grind
 |c::r=>
  rw[Xo];have a:=Ae c r;split
  ·exact a
  ·split
   ·have b:=(Mm spB r).trans a;cases e:past spB r with
    |nil=>grind
    |cons d f=>
     rw[e]at b;simp only;split
     ·exact(Ae d f).trans b
     ·exact(YA _).trans b
   ·split
    ·exact YA _
    ·split
     ·have:=zT r;exact(tq (zu r).2).trans ((Zc r).trans a)
     ·exact(tq r).trans a
termination_by l.length
decreasing_by
 all_goals grind
def ji:Option Str->zf
 |some t=>⟨7,t,0,[],false⟩
 |none=>⟨8,[],0,[],false⟩
theorem zBL(c:UInt8): ∃y,zn (!(bif bif bif bif (c.toNat:Int)==34 then true else(c.toNat:Int)==39 then true else(c.toNat:Int)==40 then true else decide ((c.toNat:Int)<=8)then true else(c.toNat:Int)==11)) (ZY ((c.toNat:Int),14,31)) (default:Bool)=some y/\
  (bif bif bif bif bif bif (c.toNat:Int)==34 then true else(c.toNat:Int)==39 then true else(c.toNat:Int)==40 then true else decide ((c.toNat:Int)<=8)then true else(c.toNat:Int)==11 then true else y then true else(c.toNat:Int)==127)=(c==34||c==39||c==40||unB c):=by
 have a: ∀n:Nat,n<256->((zn (!(bif bif bif bif (n:Int)==34 then true else(n:Int)==39 then true else(n:Int)==40 then true else decide ((n:Int)<=8)then true else(n:Int)==11)) (ZY ((n:Int),14,31)) (default:Bool)).elim false fun y=>
  (bif bif bif bif bif bif (n:Int)==34 then true else(n:Int)==39 then true else(n:Int)==40 then true else decide ((n:Int)<=8)then true else(n:Int)==11 then true else y then true else(n:Int)==127)==(UInt8.ofNat n==34||UInt8.ofNat n==39||UInt8.ofNat n==40||unB (UInt8.ofNat n)))=true:=by decide+kernel
 have h:=a c.toNat (Xc c);rw[af]at h;cases b:zn (!(bif bif bif bif (c.toNat:Int)==34 then true else(c.toNat:Int)==39 then true else(c.toNat:Int)==40 then true else decide ((c.toNat:Int)<=8)then true else(c.toNat:Int)==11)) (ZY ((c.toNat:Int),14,31)) (default:Bool)with
 |none=>grind
 |some y=>
  grind
theorem YJ(c:UInt8)(t:Str):(pk (c::t) 0== -1)=false:=by rw[Kn];rfl
theorem urlR{s w:Str}(f:s.length<=big)(v:w<:+s):QB (sr s w)=some (ji (urlS (past spB w)).1,sr s (urlS (past spB w)).2):=by
 have L:big=4194304:=rfl;unfold QB;rw[Wz f v];simp only[ze,Aa];have E:=Nj spB v;generalize past spB w=q at E ⊢;refine KH ?_;refine ZK (fun z=> ∃(p e:Str),z=(sr s p,(⟨0,[],0,[],false⟩:zf),e)/\p<:+s/\e.length+4*p.length<=4*s.length/\(urlS q).1=(urlS p).1.map (e++ ·)/\(urlS q).2=(urlS p).2) (fun z=>s.length - z.1.at_.toNat) _ ?_
  ⟨q,[],rfl,E,by grind,by simp,rfl⟩
 rintro _ ⟨p,e,rfl,h,G,b,a⟩;simp only[ag f h,Aa,Cv];cases p with
 |nil=> refine .inr (.inr ⟨_,rfl,?_⟩);rw[Nr]at b a;rw[b,a];simp only[Bb,Lb,ji]
 |cons c t=>
  have m:=h.length_le;rw[Ea]at m G;have r:=zX h;have k: ∀u:Str,u.length<=t.length->u<:+s->s.length - beh s u<s.length - beh s (c::t):=by intro u M J;unfold beh;rw[Ea];omega
  rw[Xo]at b a;rw[show atS (c::t) 0=c from rfl];cases j:spB c with
  |true=>
   have i:(c==41)=false:=by rw[Ia];rintro rfl;exact absurd j (by decide)
   rw[i,j,Ka (by decide),Na rfl]at b a;have D:past spB (c::t)=past spB t:=by rw[past,Na j]
   have g:past spB t<:+s:=Nj spB r;rw[Ca,Wz f h,D];simp only[Aa,ag f g];cases o:past spB t with
   |nil=> rw[o]at b a;refine .inr (.inr ⟨_,rfl,?_⟩);simp only at b a;rw[b,a];simp only[Bb,Lb,ji]
   |cons d F=>
    rw[o]at b a g;simp only at b a;unfold bne;rw[dJ,YJ,show atS (d::F) 0=d from rfl];cases C:d==41 with
    |true=> rw[C,Na rfl]at b a;refine .inr (.inr ⟨_,?_,rfl⟩);simp only[Cb,Ba,zh,YJ,dJ,show atS (d::F) 0=d from rfl,C,Ca,Gh f g];rw[b,a];simp only[Bb,Lb,ji]
    |false=> rw[C,Ka (by decide)]at b a;refine .inr (.inr ⟨_,?_,rfl⟩);simp only[Ta,Ca,badR f g,Aa,zw4];rw[b,a];rfl
  |false=>
   rw[Ba,zh];simp only[YJ,dJ,show atS (c::t) 0=c from rfl,Ba,Gh f h];cases i:c==41 with
   |true=> rw[i,Na rfl]at b a;refine .inr (.inr ⟨_,by rw[Ca],?_⟩);rw[b,a];simp only[Bb,Lb,ji]
   |false=>
    rw[i,Ka (by decide),j,Ka (by decide)]at b a;rw[Ba];obtain⟨y,B,A⟩:=zBL c;rw[xn,B];simp only[Aa];rw[A];cases x:(c==34||c==39||c==40||unB c)with
    |true=> rw[x,Nf,Na rfl]at b a;refine .inr (.inr ⟨_,?_,rfl⟩);rw[Ca,badR f h];simp only[Aa];rw[b,a];rfl
    |false=>
     rw[x,Ve]at b a;rw[Ba];unfold bne;rw[show((c.toNat:Int)==92)=(c==92)from qC c 92];cases n:c==92 with
     |false=> rw[n,Rc,Ka (by decide),Ka (by decide)]at b a;rw[Ta,Ca,Bw];simp only[Aa];rw[zC (Ni (by omega))];exact .inl ⟨_,rfl,⟨t,e++[c],rfl,r,by grind,by rw[b,gB],a⟩,k t (ma _) r⟩
     |true=>
      rw[n,Ob]at b a;rw[Cb,Ba,JG f h];simp only[Aa];cases l:escS (c::t)with
      |true=> rw[l,Cb,Ka (by decide),Na rfl]at b a;have K:=Xk t;have H:=zT t;refine .inl ⟨(sr s (zu t).2,⟨0,[],0,[],false⟩,e++(zu t).1),?_,⟨_,_,rfl,(Zc _).trans r,by grind,by rw[b,Ov],a⟩,k _ H ((Zc _).trans r)⟩;simp only[Ca,FH f h (show e.length<=1000000000 by omega),Aa]
      |false=> rw[l,Ta,Na rfl]at b a;refine .inr (.inr ⟨_,?_,rfl⟩);rw[Ba,badR f h];simp only[Aa];rw[b,a];rfl
theorem yT{s r:Str}:(decide ((0:Int)<=(beh s r:Int))&&decide ((beh s r:Int)<=(s.length:Int)))=true:=by
 have:=Yh s r
 grind
theorem YE{s r:Str}(a:r<:+s):List.drop ((beh s r:Int)).toNat s=r:=by rw[Xa,Ho a]
def capF(cap:Nat):Nat->Str->Nat
 |n,[]=>n
 |n,c::r=>capF cap (min cap (decN n c)) r
theorem wG(cap:Nat): ∀(l:Str) (n:Nat) (c:UInt8),capF cap n (l++[c])=min cap (decN (capF cap n l) c)
 |[],_,_=>rfl
 |d::l,n,c=>by show capF cap (min cap (decN n d)) (l++[c])=_;rw[wG cap l];rfl
theorem Jk(cap:Nat): ∀(l:Str) (n:Nat),n<=cap->capF cap n l<=cap
 |[],_,h=>h
 |c::l,n,_=>Jk cap l _ (Nat.min_le_left ..)
theorem IM {R:Type} {step:Int×Int->Option (LO (Int×Int) Int R)} {l:Str} {cap:Nat} (b:l.all digB=true) (j:l.length<=100000) (f:cap<=1000000000000)
  (a: ∀(v:Int) (i:Nat) (hi:i<l.length),step (v,(i:Int))=some (.again (if(cap:Int)<w64 (w64 (10*v)+w64 (wu8 ((l[i].toNat:Int) - 48)))then(cap:Int)else w64 (w64 (10*v)+w64 (wu8 ((l[i].toNat:Int) - 48))),w64 ((i:Int)+1))))
  (h2: ∀v:Int,step (v,(l.length:Int))=some (.out v)):Vg step (0,0)=some (.out ((capF cap 0 l:Nat):Int)):=by
 refine ZK (fun s=> ∃i:Nat,i<=l.length/\s=(((capF cap 0 (l.take i):Nat):Int),(i:Int))) (fun s=>l.length - s.2.toNat) _ ?_ ⟨0,by omega,rfl⟩;rintro _ ⟨i,hi,rfl⟩;rcases Gc i l.length with h|h
 ·refine .inl ⟨_,a _ i h,⟨i+1,by omega,?_⟩,by simp only;rw[Zf (by omega) (by omega)];omega⟩;have e:=mr (Ua.1 b _ (Sc h));have d:capF cap 0 (l.take (i+1))=min cap (decN (capF cap 0 (l.take i)) l[i]):=by rw[Sd h,wG]
  have g:=Jk cap (l.take i) 0 (Kb _);have c:wu8 ((l[i].toNat:Int) - 48)=((l[i].toNat - 48:Nat):Int):=by show IntKind.u8.wrap _=_;rw[IntKind.wrap_u8];omega
  unfold decN at d;rw[c,Zf (n:=10*_) (by omega) (by omega),Zf (n:=((l[i].toNat - 48:Nat):Int)) (by omega) (by omega),Zf (n:=(i:Int)+1) (by omega) (by omega),Zf (by omega) (by omega)];refine Prod.ext ?_ ?_
  ·grind
  ·grind
 grind
theorem kG: ∀(k n:Nat),n<=uf->Ah k n<=uf
 |0,_,h=>h
 |k+1,n,h=>by
  unfold Ah;split
  ·exact h
  ·exact kG k _ (Nat.min_le_left ..)
theorem TP {R:Type} {step:Int×Int->Option (LO (Int×Int) Int R)} {v:Nat} {p:Int} (n:p<=4000000) (d: -4000000<=p) (i:v<=1000000000000)
  (h: ∀(a b:Int),step (a,b)=bif bif bif decide (a>0)then decide (b>0)else false then decide (b<1000000000000)else false then some (.again (w64 (a - 1),if 1000000000000<w64 (10*b)then 1000000000000 else w64 (10*b)))else some (.out b)):
  Vg step (p,(v:Int))=some (.out ((Ah p.toNat v:Nat):Int)):=by
 have o:uf=1000000000000:=rfl;refine ZK (fun s=> ∃(a:Int) (b:Nat),s=(a,(b:Int))/\a<=4000000/\ -4000000<=a/\b<=1000000000000/\Ah a.toNat b=Ah p.toNat v) (fun s=>s.1.toNat) _ ?_ ⟨p,v,rfl,n,d,i,rfl⟩;rintro _ ⟨a,b,rfl,r,f,q,c⟩;rw[h];by_cases e:a>0
 ·obtain⟨k,l⟩: ∃k,a.toNat=k+1:=⟨a.toNat - 1,by omega⟩;rw[l,Ah]at c;rw[La e,Ca];by_cases g:b=0\/uf<=b
  ·grind
  ·rw[Ka g]at c;have m:decide (((b:Nat):Int)>0)=true:=La (by omega);have j:decide (((b:Nat):Int)<1000000000000)=true:=La (by omega);rw[m,Ca,j,Ca];refine .inl ⟨_,rfl,⟨a - 1,min uf (10*b),?_,by omega,by omega,by omega,?_⟩,by simp only;rw[Zf (by omega) (by omega)];omega⟩
   ·rw[Zf (by omega) (by omega),Zf (by omega) (by omega)]
    grind
   grind
 ·rw[Ya e,Ba];refine .inr (.inl ⟨_,rfl,?_⟩);rw[<-c,show a.toNat=0 by omega];rfl
structure NumP where
 sg:Str
 D:Str
 F:Option Str
 X:Option (UInt8×Str×Str)
def dotS:Option Str->Str
 |none=>[]
 |some f=>46::f
def expT:Option (UInt8×Str×Str)->Str
 |none=>[]
 |some (e,s,x)=>e::(s++x)
def NumP.txt(n:NumP):Str:=n.sg++(n.D++(dotS n.F++expT n.X))
def sgB(s:Str):Bool:=s==[]||s==[43]||s==[45]
def NumP.ok(n:NumP):Bool:=sgB n.sg&&n.D.all digB&&(match n.F with|none=> !n.D.isEmpty|some f=> !f.isEmpty&&f.all digB)&&
 (match n.X with|none=>true|some (e,s,x)=>(e==101||e==69)&&sgB s&& !x.isEmpty&&x.all digB)
def expV:Option (UInt8×Str×Str)->Int
 |none=>0
 |some (_,s,x)=>if s==[45]then -((capF 1048576 0 x:Nat):Int)else((capF 1048576 0 x:Nat):Int)
def thoV(A:Str)(p:Int):Nat:=Ah p.toNat (capF uf 0 (if p<0 then A.take ((A.length:Int)+p).toNat else A))
def NumP.val(n:NumP):Int:=
 let v:=thoV (n.D++n.F.getD []) (3+expV n.X - ((n.F.getD []).length:Int))
 if n.sg==[45]then -(v:Int)else(v:Int)
theorem Ur{s:Str}(h:sgB s=true):s=[]\/s=[43]\/s=[45]:=by
 unfold sgB at h
 grind
theorem CK{s q:Str}(h:sgB s=true)(b: ∀c r,q=c::r->List.contains [43,45] c=false):Lib.trimLeftS (s++q) [43,45]=q:=by
 have a:Lib.trimLeftS q [43,45]=q:=by
  unfold Lib.trimLeftS;cases q with
  |nil=>rfl
  |cons c r=>simp_all
 rcases Ur h with rfl|rfl|rfl
 ·exact a
 ·show List.dropWhile _ (43::q)=_;rw[yc];exact a
 ·show List.dropWhile _ (45::q)=_;rw[yc];exact a
theorem wK{e:UInt8}(he:e=101\/e=69)(t:Str): ∀(l:Str),(l.all fun b=>digB b||b==46)=true->Lib.indexAny (l++e::t) [101,69]=(l.length:Int)
 |[],_=>by
  rw[Ad,Lib.indexAny]
  grind
 |c::l,h=>by
  rw[Ue,Fa]at h;have hc:List.contains [101,69] c=false:=by
   have: ∀n:Nat,n<256->(digB (UInt8.ofNat n)||UInt8.ofNat n==46)=true->List.contains [101,69] (UInt8.ofNat n)=false:=by decide+kernel
   have:=this c.toNat (Xc c);rw[af]at this;exact this h.1
  rw[Tc,Lib.indexAny,hc,wK he t l h.2]
  grind
theorem YU{l:Str}(h:l.all digB=true):(l.all fun b=>digB b||b==46)=true:=by
 grind
theorem Cw{l:Str}(h: ∀b∈l,b.toNat<128):yg l=true:=by
 unfold yg
 grind
theorem oW{l:Str}(h:yg l=true): ∀b∈l,b.toNat<128:=by
 unfold yg at h
 grind
theorem zAQ{D:Str}(a:D.all digB=true)(F:Option Str): ∃f,Lib.cut (D++dotS F) [46]=(D,F.getD [],f):=by
 unfold Lib.cut;rw[tH];cases F with
 |none=> rw[show dotS none=[]from rfl,Lb,kK _ a,Ka (by decide)];simp_all
 |some g=> rw[show dotS (some g)=46::g from rfl,lK _ _ a,Na (by omega)];simp_all
theorem yK {D:Str} {F:Option Str} {E:Int} (w:D.all digB=true) (y:(F.getD []).all digB=true) (R:D.length+(F.getD []).length<=50000) (Q:E<=2000000) (C: -2000000<=E) (s:UInt8) (r:Str)
  (M:((s.toNat:Int)==45)=(r==[45])) (u:short (D++dotS F)=true):
  (ze (cutF (D++dotS F,[46])) fun c=>
 need (Uf c.1.length c.2.1.length)<|
 zS (X:=Str×Int) (
   bif decide (w64 ((3+E) - (c.2.1.length:Int))<0)then
    need (decide (0<=(if w64 (((c.1++c.2.1).length:Int)+w64 ((3+E) - (c.2.1.length:Int)))>0 then w64 (((c.1++c.2.1).length:Int)+w64 ((3+E) - (c.2.1.length:Int)))else 0))&&decide ((if w64 (((c.1++c.2.1).length:Int)+w64 ((3+E) - (c.2.1.length:Int)))>0 then w64 (((c.1++c.2.1).length:Int)+w64 ((3+E) - (c.2.1.length:Int)))else 0)<=((c.1++c.2.1).length:Int)))<|
    some (LX.out (List.take (if w64 (((c.1++c.2.1).length:Int)+w64 ((3+E) - (c.2.1.length:Int)))>0 then w64 (((c.1++c.2.1).length:Int)+w64 ((3+E) - (c.2.1.length:Int)))else 0).toNat (c.1++c.2.1),w64 ((3+E) - (c.2.1.length:Int))))
   else
    some (LX.out (c.1++c.2.1,w64 ((3+E) - (c.2.1.length:Int))))) fun j=>
 need (decide (j.1.length<=maxLen))<|
 zY (fun(d:Int×Int)=>
   bif decide (d.2<(j.1.length:Int))then
    need (decide (0<=d.2)&&decide (d.2<(j.1.length:Int)))<|
    ze j.1[d.2.toNat]? fun g=>
    some (LO.again (if 1000000000000<w64 (w64 (10*d.1)+w64 (wu8 ((g.toNat:Int) - 48)))then 1000000000000 else w64 (w64 (10*d.1)+w64 (wu8 ((g.toNat:Int) - 48))),w64 (d.2+1)))
   else
    some (LO.out d.1):Int×Int->Option (LO (Int×Int) (Int) _)) (0,0) fun l=>
 zY (fun(e:Int×Int)=>
   bif bif bif decide (e.1>0)then decide (e.2>0)else false then decide (e.2<1000000000000)else false then
    some (LO.again (w64 (e.1 - 1),if 1000000000000<w64 (10*e.2)then 1000000000000 else w64 (10*e.2)))
   else
    some (LO.out e.2):Int×Int->Option (LO (Int×Int) (Int) _)) (j.2,l) fun h=>
 zS (X:=Int) (
   bif (s.toNat:Int)==45 then
    some (LX.out (w64 (0 - h)))
   else
    some (LX.out h)) fun k=>
 some k)=some (if r==[45]then -((thoV (D++F.getD []) (3+E - ((F.getD []).length:Int)):Nat):Int)else((thoV (D++F.getD []) (3+E - ((F.getD []).length:Int)):Nat):Int)):=by
 obtain⟨f,m⟩:=zAQ w F;have O:cutF (D++dotS F,[46])=some (D,F.getD [],f):=by unfold cutF;rw[zC (by exact u)];exact congrArg some m
 have x:maxLen=9223372036854775807:=rfl;have t:uf=1000000000000:=rfl;simp only[ze,O,Aa];generalize F.getD []=G at*;rw[zC (QT.2 (by omega))];obtain⟨p,L⟩: ∃p:Int,p=3+E - (G.length:Int):=⟨_,rfl⟩;rw[<-L,Zf (n:=p) (by omega) (by omega)];have S:(D++G).all digB=true:=by rw[List.all_append,w,y];rfl
 have K:(D++G).length<=50000:=by rw[Ha];omega
 generalize D++G=A at*;have H: ∀B:Str,B.all digB=true->B.length<=50000->(need (decide (B.length<=maxLen))<|
 zY (fun(d:Int×Int)=>
   bif decide (d.2<(B.length:Int))then
    need (decide (0<=d.2)&&decide (d.2<(B.length:Int)))<|
    (B[d.2.toNat]?).bind fun g=>
    some (LO.again (if 1000000000000<w64 (w64 (10*d.1)+w64 (wu8 ((g.toNat:Int) - 48)))then 1000000000000 else w64 (w64 (10*d.1)+w64 (wu8 ((g.toNat:Int) - 48))),w64 (d.2+1)))
   else
    some (LO.out d.1):Int×Int->Option (LO (Int×Int) (Int) _)) (0,0) fun l=>
 zY (fun(e:Int×Int)=>
   bif bif bif decide (e.1>0)then decide (e.2>0)else false then decide (e.2<1000000000000)else false then
    some (LO.again (w64 (e.1 - 1),if 1000000000000<w64 (10*e.2)then 1000000000000 else w64 (10*e.2)))
   else
    some (LO.out e.2):Int×Int->Option (LO (Int×Int) (Int) _)) (p,l) fun h=>
 zS (X:=Int) (
   bif (s.toNat:Int)==45 then
    some (LX.out (w64 (0 - h)))
   else
    some (LX.out h)) fun k=>
 some k)=some (if r==[45]then -((Ah p.toNat (capF uf 0 B):Nat):Int)else((Ah p.toNat (capF uf 0 B):Nat):Int)):=by
  intro B J z;have o:=Jk uf B 0 (Kb _);rw[zC (La (by omega))];rw[qA (IM (cap:=uf) J (by omega) (by omega) (fun v i U=> ?_) (fun v=> ?_))]
  ·have N:=kG p.toNat _ o;rw[qA (TP (by omega) (by omega) (by omega) (fun a b=> ?_)),M]
   ·cases T:r==[45]with
    |true=> rw[Ca,zh,Zf (by omega) (by omega),Na rfl];congr 1;omega
    |false=>simp_all
   ·simp only
  ·simp_all
  ·grind
 unfold thoV;by_cases q:p<0
 ·rw[La q,Ca,Na q];have P:(if w64 ((A.length:Int)+p)>0 then w64 ((A.length:Int)+p)else 0)=((((A.length:Int)+p).toNat:Nat):Int):=by rw[Zf (by omega) (by omega)];split<;>omega
  rw[P,zC (by grind),zh,Xa]
  grind
 ·rw[Ya q,Ba,Ka q,zh]
  grind
theorem zm2{n:NumP}(h:n.ok=true)(hl:n.txt.length<=40000):QC n.txt=some n.val:=by
 obtain⟨sg,D,F,X⟩:=n;unfold NumP.ok at h;simp only[Fa]at h;obtain⟨⟨⟨hsg,hD⟩,hFo⟩,hX⟩:=h;have hF:(F.getD []).all digB=true:=by
  cases F with
  |none=>rfl
  |some f=>grind
 have hne:D++dotS F≠[]:=by
  cases F with
  |none=>simp_all
  |some f=>simp[dotS]
 have hpar:((D++dotS F).all fun b=>digB b||b==46)=true:=by
  rw[List.all_append,YU hD];cases F with
  |none=>rfl
  |some f=>rw[show dotS (some f)=46::f from rfl,Ue,YU (show f.all digB=true from hF)];rfl
 have hlen:sg.length+(D.length+((dotS F).length+(expT X).length))<=40000:=by
  have:(NumP.txt ⟨sg,D,F,X⟩).length=sg.length+(D.length+((dotS F).length+(expT X).length)):=by unfold NumP.txt;simp only[Ha]
  omega
 have hFl:(F.getD []).length<=(dotS F).length:=by
  cases F with
  |none=>grind
  |some f=>show f.length<=(46::f).length;grind
 have hhead: ∀c r,D++(dotS F++expT X)=c::r->List.contains [43,45] c=false:=by
  rw[<-Ec];intro c r e;cases hq:D++dotS F with
  |nil=>grind
  |cons d q=>
   rw[hq,Tc]at e;injection e with e1 _;subst e1;rw[hq,Ue,Fa,Me]at hpar;rcases hpar.1 with hd|hd
   ·exact(Dv hd).2.2.2.2
   grind
 have hy1: ∃b,geti (NumP.txt ⟨sg,D,F,X⟩) 0=some b/\(((b.toNat:Int)==45)=(sg==[45])):=by
  unfold NumP.txt;show∃b,geti (sg++(D++(dotS F++expT X))) 0=some b/\_;rcases Ur hsg with rfl|rfl|rfl
  ·cases hq:D++(dotS F++expT X)with
   |nil=>simp_all
   |cons c r=>
    refine⟨c,rfl,?_⟩;have:=hhead c r hq;refine Ia.2 (fun e=> ?_);have:c=45:=Ef.1 (by grind)
    grind
  ·exact⟨43,rfl,rfl⟩
  ·exact⟨45,rfl,rfl⟩
 obtain⟨y1,hg,hyy⟩:=hy1;have t1:xk (NumP.txt ⟨sg,D,F,X⟩,[43,45])=some (D++(dotS F++expT X)):=by unfold xk;rw[zC (show(short ([43,45]:Str)&&yg [43,45])=true by decide)];exact congrArg some (CK hsg hhead)
 unfold QC;simp only[ze,hg,t1,Aa];have hsh:short (D++dotS F)=true:=La (by grind);have hasc:yg (D++dotS F)=true:=zAG hpar;cases X with
 |none=>
  have t2:Jl (D++(dotS F++expT none),[101,69])=some (-1):=by show Jl (D++(dotS F++[]),[101,69])=_;rw[Lb];unfold Jl;rw[zC (by simp only[hsh,hasc,Mc,Ob];decide)];exact congrArg some (vK _ hpar)
  simp only[t2,Aa,show decide ((-1:Int)>=0)=false from rfl,Ba,zh];rw[show D++(dotS F++expT none)=D++dotS F by show D++(dotS F++[])=_;grind];have:=yK (E:=0) hD hF (by omega) (by omega) (by omega) y1 sg hyy hsh;exact this
 |some ex=>
  obtain⟨e,s,x⟩:=ex;simp only[Fa]at hX;obtain⟨⟨⟨he,hs⟩,hxne⟩,hx⟩:=hX;have he':e=101\/e=69:=by rw[Me,Uc,Uc]at he;exact he
  have hexl:(expT (some (e,s,x))).length=1+(s.length+x.length):=by show(e::(s++x)).length=_;rw[Ea,Ha];omega
  have hass:D++(dotS F++expT (some (e,s,x)))=(D++dotS F)++e::(s++x):=by rw[<-Ec];rfl
  have hasx:yg ((D++dotS F)++e::(s++x))=true:=by
   refine Cw (fun b hb=> ?_);rcases Vb.1 hb with hb|hb
   ·exact oW hasc b hb
   ·rcases Jb.1 hb with hb|hb
    ·subst hb;rcases he' with rfl|rfl<;>decide
    ·rcases Vb.1 hb with hb|hb
     ·rcases Ur hs with rfl|rfl|rfl
      ·cases hb
      ·simp_all
      simp_all
     ·have:=mr (Ua.1 hx b hb);omega
  have hlt:((D++dotS F)++e::(s++x)).length<=40000:=by rw[Ha,Ea,Ha,Ha];omega
  have t2:Jl (D++(dotS F++expT (some (e,s,x))),[101,69])=some ((D++dotS F).length:Int):=by rw[hass];unfold Jl;show need (short ((D++dotS F)++e::(s++x))&&short [101,69]&&yg ((D++dotS F)++e::(s++x))&&yg [101,69]) _=_;rw[show short ((D++dotS F)++e::(s++x))=true from La (by omega),hasx];exact congrArg some (wK he' (s++x) _ hpar)
  have hdrop:List.drop (D++dotS F).length ((D++dotS F)++e::(s++x))=e::(s++x):=List.drop_left;have hdrop1:List.drop ((D++dotS F).length+1) ((D++dotS F)++e::(s++x))=s++x:=by rw[<-Jf,hdrop];rfl
  have hd0:(D++dotS F).length<=40000:=by rw[Ha];omega
  have hw1:w64 (((D++dotS F).length:Int)+1)=(((D++dotS F).length+1:Nat):Int):=by rw[Zf (by omega) (by omega)];omega
  simp only[t2,Aa];rw[La (show(((D++dotS F).length:Nat):Int)>=0 by omega),Ca,hw1,hass];have hlt2:(D++dotS F).length+1<=((D++dotS F)++e::(s++x)).length:=by rw[Ha (bs:=e::(s++x)),Ea];omega
  rw[zC (by grind),Xa,hdrop1];have hxh: ∀c r,x=c::r->List.contains [43,45] c=false:=by intro c r e;subst e;rw[Ue,Fa]at hx;exact(Dv hx.1).2.2.2.2
  have t4:xk (s++x,[43,45])=some x:=by unfold xk;rw[zC (show(short ([43,45]:Str)&&yg [43,45])=true by decide)];exact congrArg some (CK hs hxh)
  have hxl:x.length<=40000:=by omega
  have hml:maxLen=9223372036854775807:=rfl;simp only[t4,Aa];rw[zC (La (by omega))];have hcap:=Jk 1048576 x 0 (Kb _);rw[qA (IM (cap:=1048576) hx (by omega) (by omega) (fun v i hi=> ?_) (fun v=> ?_))]
  ·have hg8: ∃y8,geti ((D++dotS F)++e::(s++x)) (((D++dotS F).length+1:Nat):Int)=some y8/\(((y8.toNat:Int)==45)=(s==[45])):=by
    have hgg: ∀(b:UInt8) (r:Str),s++x=b::r->geti ((D++dotS F)++e::(s++x)) (((D++dotS F).length+1:Nat):Int)=some b:=by
     intro b r e1;unfold geti;have:((D++dotS F)++e::(s++x))[(D++dotS F).length+1]? =some b:=by rw[Vd (by omega),show(D++dotS F).length+1 - (D++dotS F).length=1 by omega,List.getElem?_cons_succ,e1];rfl
     rw[Xa,this,La (by omega)];rfl
    rcases Ur hs with rfl|rfl|rfl
    ·cases hxx:x with
     |nil=>grind
     |cons c r=>
      refine⟨c,by grind,?_⟩;have:=hxh c r hxx;refine Ia.2 (fun e=> ?_);have h45:c=45:=Ef.1 (by grind)
      grind
    ·grind
    ·grind
   obtain⟨y8,h8,h8'⟩:=hg8;simp only[h8,Aa];rw[h8'];have hj:(bif s==[45]then(some (LX.out ((D++dotS F)++e::(s++x),3,w64 (0 - ((capF 1048576 0 x:Nat):Int)))):Option (LX (Str×Int×Int) (LX (Str×Int) Int)))else some (LX.out ((D++dotS F)++e::(s++x),3,((capF 1048576 0 x:Nat):Int))))
     =some (LX.out ((D++dotS F)++e::(s++x),3,expV (some (e,s,x)))):=by
    unfold expV;simp only;cases s==[45]with
    |true=>rw[Ca,Na rfl,Zf (by omega) (by omega)];simp
    |false=>grind
   have hEb:expV (some (e,s,x))<=1048576/\ -1048576<=expV (some (e,s,x)):=by unfold expV;simp only;split<;>omega
   refine(congrArg (fun o=>zS (zS o _) _) hj).trans ?_;simp only[zh];rw[show decide ((((D++dotS F).length:Nat):Int)<=((((D++dotS F)++e::(s++x)).length:Nat):Int))=true from La (by omega),zC (by rfl)];simp only[zh,Xa,List.take_left];rw[Zf (by omega) (by omega)];exact yK (E:=expV (some (e,s,x))) hD hF (by omega) (by omega) (by omega) y1 sg hyy hsh
  ·simp_all
  ·grind
theorem Rj {S X R:Type} {step:S->Option (LO S X R)} {k:X->Option R} (Inv:S->Prop) (b:S->Nat) (y:R)
  (h: ∀s,Inv s->(∃s',step s=some (.again s')/\Inv s'/\b s'<b s)\/(∃x,step s=some (.out x)/\k x=some y)\/step s=some (.ret y)) {s:S} (d:Inv s):zY step s k=some y:=by
 have c: ∀(m:Nat) (s:S),b s<m->Inv s-> ∃r:LX X R,qm step m s=some r/\r.go k=some y:=by
  intro m
  induction m with
  |zero=>intro s h;omega
  |succ m i=>
   intro s f d;simp only[qm];rcases h s d with⟨s',a,e,g⟩|⟨x,a,e⟩|a
   ·grind
   ·simp_all
   simp_all
 obtain⟨r,a,e⟩:=c (b s+1) s (by omega) d;rw[Qd (Lj a)];exact e
theorem DN(p:UInt8->Bool): ∀l:Str,past p l=l.dropWhile p
 |[]=>rfl
 |c::r=>by
  rw[past,yc];cases h:p c with
  |true=>exact DN p r
  |false=>rfl
theorem VB(p:UInt8->Bool)(l:Str):l.takeWhile p++past p l=l:=by rw[DN,List.takeWhile_append_dropWhile]
theorem mE(p:UInt8->Bool): ∀l:Str,(l.takeWhile p).all p=true
 |[]=>rfl
 |c::r=>by simp_all
def sgOf(l:Str):Str:=if di (atS l 0)then [atS l 0]else []
theorem rT(l:Str):sgOf l++unsign l=l:=by
 unfold sgOf unsign;cases h:di (atS l 0)with
 |false=>rfl
 |true=>
  rw[Na rfl,Na rfl];cases l with
  |nil=>exact absurd h (by decide)
  |cons c r=>rfl
theorem tT(l:Str):sgB (sgOf l)=true:=by
 unfold sgOf;cases h:di (atS l 0)with
 |false=>rfl
 |true=> rw[Na rfl];unfold di at h;rw[Me,Uc,Uc]at h;rcases h with h|h<;>rw[h]<;>rfl
def dotP(q:Str):Option Str:=if atS q 0==46&&digB (atS q 1)then some ((q.drop 1).takeWhile digB)else none
def expP(q:Str):Option (UInt8×Str×Str):=
 if(atS q 0==101||atS q 0==69)&&digB (atS (unsign (q.drop 1)) 0)then some (atS q 0,sgOf (q.drop 1),(unsign (q.drop 1)).takeWhile digB)else none
def numP(l:Str):NumP:=⟨sgOf l,(unsign l).takeWhile digB,dotP (past digB (unsign l)),expP (QD (past digB (unsign l))).1⟩
theorem aY(q:Str):dotS (dotP q)++(QD q).1=q/\(QD q).2=(dotP q).isNone:=by
 unfold dotP QD;cases h:atS q 0==46&&digB (atS q 1)with
 |false=>exact⟨rfl,rfl⟩
 |true=>
  rw[Na rfl,Na rfl];cases q with
  |nil=>exact absurd h (by decide)
  |cons c r=> rw[Fa,Uc]at h;refine⟨?_,rfl⟩;show(46::List.takeWhile digB r)++past digB r=c::r;rw[Tc,VB,show c=46 from h.1]
theorem MW(q:Str):expT (expP q)++(match expS q with|some r=>r|none=>q)=q:=by
 unfold expP expS;cases a:atS q 0==101||atS q 0==69 with
 |false=>rfl
 |true=>
  cases b:digB (atS (unsign (q.drop 1)) 0)with
  |false=>rfl
  |true=>
   simp only[Bool.and_self,Od];cases q with
   |nil=>exact absurd a (by decide)
   |cons c r=> show(c::(sgOf r++List.takeWhile digB (unsign r)))++past digB (unsign r)=c::r;rw[Tc,Ec,VB,rT]
theorem TG(l:Str):(numP l).txt++(Zb l).1=l:=by
 have c:=(aY (past digB (unsign l))).1;have b:=MW (QD (past digB (unsign l))).1;have a:(Zb l).1=(match expS (QD (past digB (unsign l))).1 with|some r=>r|none=>(QD (past digB (unsign l))).1):=by unfold Zb;simp only;cases expS (QD (past digB (unsign l))).1<;>rfl
 rw[a];show(sgOf l++(List.takeWhile digB (unsign l)++(dotS (dotP (past digB (unsign l)))++expT (expP (QD (past digB (unsign l))).1))))++_=l;rw[Ec,Ec,Ec,b,c,VB,rT]
theorem ME{p:UInt8->Bool}{q:Str}(h:p (atS q 0)=true)(a:p 0=false):(q.takeWhile p).isEmpty=false:=by
 cases q with
 |nil=>rw[show atS [] 0=0 from rfl,a]at h;cases h
 |cons c r=>rw[List.takeWhile_cons,Na (show p c=true from h)];rfl
theorem yD{l:Str}(h:nbS l=true):(numP l).ok=true:=by
 unfold NumP.ok numP;simp only[tT,mE,Ob,Fa];refine⟨?_,?_⟩
 ·unfold dotP;cases a:atS (past digB (unsign l)) 0==46&&digB (atS (past digB (unsign l)) 1)with
  |true=> rw[Na rfl];simp only[mE,Mc];rw[Fa]at a;rw[ME (p:=digB) (by rw[Aj];exact a.2) (by decide)];rfl
  |false=>
   rw[Ka (by decide)];simp only;cases b:digB (atS (unsign l) 0)with
   |true=>rw[ME b (by decide)];rfl
   |false=>
    exfalso;have f:past digB (unsign l)=unsign l:=by
     cases e:unsign l with
     |nil=>rfl
     |cons c r=>rw[e]at b;rw[past,Ka (by rw[show digB c=false from b];decide)]
    rw[f]at a;unfold nbS undot at h;cases d:atS (unsign l) 0==46 with
    |false=>grind
    |true=>
     rw[d,Na rfl,Aj]at h
     grind
 ·unfold expP;cases a:(atS (QD (past digB (unsign l))).1 0==101||atS (QD (past digB (unsign l))).1 0==69)&&digB (atS (unsign ((QD (past digB (unsign l))).1.drop 1)) 0)with
  |false=>rfl
  |true=> rw[Na rfl];rw[Fa]at a;simp only[a.1,tT,mE,Mc,Ob];rw[ME a.2 (by decide)];rfl
theorem zCR{n:NumP}(h:n.ok=true):n.txt≠[]:=by
 obtain⟨c,D,F,X⟩:=n;unfold NumP.ok at h;simp only[Fa]at h;intro e;unfold NumP.txt at e;simp only[List.append_eq_nil_iff]at e;obtain⟨g,b,a,d⟩:=e;subst b;cases F with
 |none=>grind
 |some f=>cases a
theorem JP{c:UInt8}{r:Str}(h:nbS (c::r)=true):(Zb (c::r)).1<:+r:=by
 have e:=TG (c::r);have b:=zCR (yD h);cases a:(numP (c::r)).txt with
 |nil=>grind
 |cons d t=>
  grind
def Xi(l:Str):zf×Str:=
 if nmS (Zb l).1 then(⟨12,[],(numP l).val,(zF (Zb l).1).1,(Zb l).2⟩,(zF (Zb l).1).2)
 else if atS (Zb l).1 0==37 then(⟨11,[],(numP l).val,[],false⟩,(Zb l).1.drop 1)
 else(⟨10,[],(numP l).val,[],(Zb l).2⟩,(Zb l).1)
theorem CF{s l t e:Str}(a:l<:+s)(h:t++e=l):List.drop (beh s l) (List.take (beh s e) s)=t:=by
 obtain⟨p,rfl⟩:=a;subst h;have c:beh (p++(t++e)) (t++e)=p.length:=by unfold beh;simp only[Ha];omega
 have b:beh (p++(t++e)) e=(p++t).length:=by unfold beh;simp only[Ha];omega
 grind
theorem sU{s l:Str}(hs:s.length<=40000)(hl:l<:+s)(h:nbS l=true):ZM (sr s l)=some ((Xi l).1,sr s (Xi l).2):=by
 have hsb:s.length<=big:=by unfold big;omega
 have he:=OO hl;have hle:=hl.length_le;have hsp:=TG l;have hel:(Zb l).1.length<=l.length:=by have:=congrArg List.length hsp;rw[Ha]at this;omega
 have htl:(numP l).txt.length<=40000:=by have:=congrArg List.length hsp;rw[Ha]at this;omega
 unfold ZM;rw[EX hsb hl];simp only[ze,Aa];have h1:(beh s l:Int)<=(beh s (Zb l).1:Int):=by unfold beh;omega
 have h2:=Yh s (Zb l).1;rw[zC (by simp_all),Xa,Xa,CF hl hsp,zm2 (yD h) htl];simp only[Aa];rw[show zI (0,sr s (Zb l).1)=some (nmS (Zb l).1)from iJ (k:=0) hsb he (by omega)];simp only[Aa];unfold Xi;cases hn:nmS (Zb l).1 with
 |true=> rw[Ca,Iz hsb he,Na rfl];rfl
 |false=>
  rw[Ba,ag hsb he,Ka (by decide)];simp only[Aa,zDl];cases h37:atS (Zb l).1 0==37 with
  |true=> rw[Ca,zh,Yt hsb he (by grind),Na rfl]
  |false=>simp_all
theorem IA(l:Str):(zF l).1.length<=4*l.length:=by
 match l with
 |[]=>rw[Mx];grind
 |c::r=>
  rw[Dt];split
  ·have:=IA r
   grind
  ·split
   ·have b:=zT r;have a:=Xk r;have:=IA (zu r).2
    grind
   grind
termination_by l.length
decreasing_by
 all_goals grind
def Mi(l:Str):zf×Str:=
 if atS (zF l).2 0==40 then
  (if(lowS (zF l).1==[117,114,108])&& !(atS (past spB ((zF l).2.drop 1)) 0==34||atS (past spB ((zF l).2.drop 1)) 0==39)
  then(ji (urlS (past spB ((zF l).2.drop 1))).1,(urlS (past spB ((zF l).2.drop 1))).2)
  else(⟨2,(zF l).1,0,[],false⟩,(zF l).2.drop 1))
 else(⟨1,(zF l).1,0,[],false⟩,(zF l).2)
theorem zA9{s q:Str}(m:s.length<=40000)(g:q<:+s):ZI (sr s q)=some ((Mi q).1,sr s (Mi q).2):=by
 have a:s.length<=big:=by unfold big;omega
 have e:(zF q).2<:+s:=(Gl q).trans g;have l:=IA q;have i:=g.length_le;have f:(zF q).1.length<=big:=by unfold big;omega
 unfold ZI;rw[Iz a g];simp only[ze,Aa,ag a e];unfold bne Mi;rw[zDm];cases d:atS (zF q).2 0==40 with
 |false=>rfl
 |true=>
  have c:atS (zF q).2 0≠0:=by rw[Uc.1 d];decide
  rw[Cb,Ba,Na rfl,Yt a e c,TH f (by decide),KA];simp only[Aa];have b:=Oj e 1;cases n:lowS (zF q).1==[117,114,108]with
  |false=>rfl
  |true=>
   rw[Ca,Wz a b,Ob];have k:=Nj spB b;simp only[Aa,ag a k];rw[bT,YT];cases j:atS (past spB ((zF q).2.drop 1)) 0==34 with
   |true=>rfl
   |false=>
    cases h:atS (past spB ((zF q).2.drop 1)) 0==39 with
    |true=>rfl
    |false=> rw[urlR a b];rfl
theorem yU{c:UInt8}{r:Str}(h:letB c=true\/escS (c::r)=true):(zF (c::r)).2<:+r:=by
 rw[Dt];split
 ·exact Gl r
 ·rename_i a;rw[Na (h.resolve_left a)];exact(Gl _).trans (Zc r)
theorem xU{c:UInt8}{r:Str}(h:nmS (c::r)=true):letB c=true\/escS (c::r)=true:=by
 unfold nmS at h;cases a:atS (c::r) 0==45 with
 |true=> left;rw[show c=45 from Uc.1 a];decide
 |false=>
  rw[a,Ka (by decide),Me]at h;rcases h with h|h
  ·left;unfold letB;rw[show fstB c=true from h];rfl
  ·exact .inr h
theorem NY{c:UInt8}{r:Str}(h:nmS (c::r)=true):(Mi (c::r)).2<:+r:=by
 have b:=yU (xU h);have a:(zF (c::r)).2.drop 1<:+r:=(We 1 _).trans b;unfold Mi;split
 ·split
  ·exact(tq _).trans ((Mm spB _).trans a)
  ·exact a
 ·exact b
def nxU(c:UInt8)(r:Str):zf×Str:=
  if nmS (c::r)then Mi (c::r)
  else if Ih c==0 then(⟨9,[c],0,[],false⟩,r)
  else(Og (Ih c),r)
def nxT(c:UInt8)(r:Str):zf×Str:=
  if nbS (c::r)then Xi (c::r)
  else if [45,45,62].isPrefixOf (c::r)then(Og 15,(c::r).drop 3)
  else if [60,33,45,45].isPrefixOf (c::r)then(Og 14,(c::r).drop 4)
  else if c==64&&nmS r then(⟨3,(zF r).1,0,[],false⟩,(zF r).2)
  else nxU c r
def mf:Str->zf×Str
 |[]=>(⟨0,[],0,[],false⟩,[])
 |c::r=>
  if spB c then(Og 13,past spB (c::r))
  else if c==34||c==39 then(Jn (zR c r).1,(zR c r).2)
  else if c==35&&(letB (atS r 0)||escS r)then(⟨4,(zF r).1,0,[],nmS r⟩,(zF r).2)
  else nxT c r
theorem bH(c:UInt8)(r:Str):mf (c::r)=
  if spB c then(Og 13,past spB (c::r))
  else if c==34||c==39 then(Jn (zR c r).1,(zR c r).2)
  else if c==35&&(letB (atS r 0)||escS r)then(⟨4,(zF r).1,0,[],nmS r⟩,(zF r).2)
  else if nbS (c::r)then Xi (c::r)
  else if [45,45,62].isPrefixOf (c::r)then(Og 15,(c::r).drop 3)
  else if [60,33,45,45].isPrefixOf (c::r)then(Og 14,(c::r).drop 4)
  else if c==64&&nmS r then(⟨3,(zF r).1,0,[],false⟩,(zF r).2)
  else if nmS (c::r)then Mi (c::r)
  else if Ih c==0 then(⟨9,[c],0,[],false⟩,r)
  else(Og (Ih c),r):=rfl
theorem M3{c:UInt8}{r:Str}(h:nbS (c::r)=true):(Xi (c::r)).2<:+r:=by
 have a:=JP h;unfold Xi;split
 ·exact(Gl _).trans a
 ·split
  ·exact(We 1 _).trans a
  ·exact a
theorem Om(c:UInt8)(r:Str):(mf (c::r)).2<:+r:=by
 rw[bH];split
 ·rename_i h;show past spB (c::r)<:+r;rw[past,Na h];exact Mm spB r
 ·split
  ·exact Ns c r
  ·split
   ·exact Gl r
   ·split
    ·rename_i h;exact M3 h
    ·split
     ·exact We 2 r
     ·split
      ·exact We 3 r
      ·split
       ·exact Gl r
       ·split
        ·rename_i h;exact NY h
        grind
theorem FV(c:UInt8):decide (Lib.indexByte [58,59,44,91,93,40,41,123,125] c>=0)= !(Ih c==0)/\(Ih c≠0->wu8 (16+wu8 (Lib.indexByte [58,59,44,91,93,40,41,123,125] c))=Ih c):=by
 have: ∀n:Nat,n<256->decide (Lib.indexByte [58,59,44,91,93,40,41,123,125] (UInt8.ofNat n)>=0)= !(Ih (UInt8.ofNat n)==0)/\(Ih (UInt8.ofNat n)≠0->wu8 (16+wu8 (Lib.indexByte [58,59,44,91,93,40,41,123,125] (UInt8.ofNat n)))=Ih (UInt8.ofNat n)):=by decide+kernel
 have:=this c.toNat (Xc c);simp_all
theorem dn{m q:Str}(h:m.isPrefixOf q=true):m.length<=q.length:=by
 grind
def Bu(s:Str)(X:zf×Str):Option (zf×za):=some (X.1,sr s X.2)
theorem zC6{s q:Str}{c:UInt8}{r:Str}(y:s.length<=40000)(b:q<:+s)(D:q=c::r):ql (sr s q)=some ((mf q).1,sr s (mf q).2):=by
 subst D;have a:s.length<=big:=by unfold big;omega
 have A:=zX b;have J:(c::r).drop 1=r:=rfl;rw[show mf (c::r)=if spB c then(Og 13,past spB (c::r))else if c==34||c==39 then(Jn (zR c r).1,(zR c r).2)else if c==35&&(letB (atS r 0)||escS r)then(⟨4,(zF r).1,0,[],nmS r⟩,(zF r).2)else nxT c r from rfl];unfold ql;simp only[ze,ag a b,Aa];rw[zC yT];simp only[Cv,Aa,bT,YT,zDk,zDn,YE b,Ep,show atS (c::r) 0=c from rfl,Tp];cases Q:spB c with
 |true=> rw[Ca,Wz a b,Na rfl];rfl
 |false=>
  rw[Ba,Ka (by decide)];cases H:c==34||c==39 with
  |true=> rw[Ca,zBx a b,Na rfl];rfl
  |false=>
   rw[Ba,Ka (by decide)];have p:zw (1,sr s (c::r))=some (escS r):=BB (k:=1) a b (by omega);have g:zI (1,sr s (c::r))=some (nmS r):=iJ (k:=1) a b (by omega);have l:zI (0,sr s (c::r))=some (nmS (c::r)):=iJ (k:=0) a b (by omega);have u:(⟨s,w64 ((beh s (c::r):Int)+1)⟩:za)=sr s r:=by rw[Gh a b]
   rw[u];have o:((Zy (sr s (c::r))).bind fun w=>
    bif w then
     (ZM (sr s (c::r))).bind fun j=>
     some (j.1,j.2)
    else
     (some ([45,45,62].isPrefixOf (c::r))).bind fun v=>
     bif v then
      some ((⟨15,[],0,[],false⟩:zf),(⟨s,w64 ((beh s (c::r):Int)+3)⟩:za))
     else
      (some ([60,33,45,45].isPrefixOf (c::r))).bind fun t=>
      bif t then
       some ((⟨14,[],0,[],false⟩:zf),(⟨s,w64 ((beh s (c::r):Int)+4)⟩:za))
      else
       (zn (c==64) (zI (1,sr s (c::r))) (default:Bool)).bind fun h=>
       bif bif c==64 then h else false then
        (zN (sr s r)).bind fun f=>
        some ((⟨3,f.1,0,[],false⟩:zf),f.2)
       else
        (zI (0,sr s (c::r))).bind fun i=>
        bif i then
         (ZI (sr s (c::r))).bind fun d=>
         some (d.1,d.2)
        else
         (strings_IndexByte ([58,59,44,91,93,40,41,123,125],wu8 (pk (c::r) 0))).bind fun e=>
         bif decide (e>=0)then
          some ((⟨wu8 (16+wu8 e),[],0,[],false⟩:zf),sr s r)
         else
          need (decide (1<=((c::r).length:Int)))<|
          some ((⟨9,List.take 1 (c::r),0,[],false⟩:zf),sr s r))=
    Bu s (nxT c r):=by
    unfold nxT;simp only[zBn a b,Aa];cases x:nbS (c::r)with
    |true=> rw[Ca,sU y b x,Na rfl];rfl
    |false=>
     rw[Ba,Ka (by decide)];cases O:[45,45,62].isPrefixOf (c::r)with
     |true=> rw[Ca,Na rfl,show(3:Int)=((3:Nat):Int)from rfl,xy (n:=3) a b (dn O)];rfl
     |false=>
      rw[Ba,Ka (by decide)];cases L:[60,33,45,45].isPrefixOf (c::r)with
      |true=> rw[Ca,Na rfl,show(4:Int)=((4:Nat):Int)from rfl,xy (n:=4) a b (dn L)];rfl
      |false=>
       rw[Ba,Ka (by decide),g,l];have m: ∀z:Bool,((some z).bind fun h=>bif h then
        (zN (sr s r)).bind fun f=>
        some ((⟨3,f.1,0,[],false⟩:zf),f.2)
       else
        (some (nmS (c::r))).bind fun i=>
        bif i then
         (ZI (sr s (c::r))).bind fun d=>
         some (d.1,d.2)
        else
         (strings_IndexByte ([58,59,44,91,93,40,41,123,125],wu8 (pk (c::r) 0))).bind fun e=>
         bif decide (e>=0)then
          some ((⟨wu8 (16+wu8 e),[],0,[],false⟩:zf),sr s r)
         else
          need (decide (1<=((c::r).length:Int)))<|
          some ((⟨9,List.take 1 (c::r),0,[],false⟩:zf),sr s r))=Bu s (if z then(⟨3,(zF r).1,0,[],false⟩,(zF r).2)else nxU c r):=by
        intro z;unfold nxU;simp only[Aa];cases z with
        |true=> rw[Ca,Iz a A];rfl
        |false=>
         rw[Ba,Ka (by decide)];cases G:nmS (c::r)with
         |true=>rw[Ca,zA9 y b];rfl
         |false=>
          rw[Ba,Ka (by decide),xn,nI];have R:(wu8 (c.toNat:Int)).toNat.toUInt8=c:=by rw[Jr,Mf (Xc c),Xa];exact af
          rw[R];obtain⟨K,S⟩:=FV c;simp only[Aa,K];cases M:Ih c==0 with
          |true=> rw[Cb,Ba,zC (La (by grind))];rfl
          |false=> rw[Ta,Ca,S (Ia.1 M)];rfl
       cases N:c==64 with
       |false=> simp_all
       |true=> have:=m (nmS r);simp_all
   cases C:c==35 with
   |false=> simp only[zG,Aa,Ba,Md,Rc];exact o
   |true=>
    simp only[zo,Aa,Ca,Mc,Ob,au a b,AL];have E:atS (c::r) 1=atS r 0:=rfl;rw[E,p];have F:(bif letB (atS r 0)||escS r then(zI (1,sr s (c::r))).bind fun P=>(zN (sr s r)).bind fun B=>some ((⟨4,B.1,0,[],P⟩:zf),B.2)else Bu s (nxT c r))=Bu s (if(letB (atS r 0)||escS r)then(⟨4,(zF r).1,0,[],nmS r⟩,(zF r).2)else nxT c r):=by
     cases letB (atS r 0)||escS r with
     |false=>rfl
     |true=>rw[Ca,g,Iz a A];rfl
    show _=Bu s (if(letB (atS r 0)||escS r)then(⟨4,(zF r).1,0,[],nmS r⟩,(zF r).2)else nxT c r);rw[<-F];cases T:letB (atS r 0)with
    |true=>rfl
    |false=> simp_all
def clsS:Str->Option Str
 |[]=>none
 |c::r=>if c==42&&atS r 0==47 then some (r.drop 1)else clsS r
theorem Kr: ∀(l:Str) {r:Str},clsS l=some r->r<:+l/\r.length+2<=l.length
 |[],r,h=>by cases h
 |c::t,r,h=>by
  unfold clsS at h;split at h
  ·rename_i a;rw[Fa,Uc,Uc]at a;injection h with h;subst h;have:=Lu (l:=t) (n:=0) (by rw[a.2];decide);exact⟨(We 1 t).trans (Ae c t),by grind⟩
  ·obtain⟨d,b⟩:=Kr t h
   grind
theorem pre2(b:UInt8)(l:Str):([42,47]:Str).isPrefixOf (b::l)=(b==42&&atS l 0==47):=by
 have c:((42:UInt8)==b)=(b==42):=by rw[Bool.eq_iff_iff,Uc,Uc];exact eq_comm
 rw[List.isPrefixOf,c];cases l with
 |nil=>rfl
 |cons d t=>
  have a:((47:UInt8)==d)=(d==47):=by rw[Bool.eq_iff_iff,Uc,Uc];exact eq_comm
  rw[List.isPrefixOf,a,List.isPrefixOf];rw[Mc];rfl
theorem wM: ∀l:Str,Lib.index l [42,47]=match clsS l with|none=> -1|some r=>((l.length - r.length - 2:Nat):Int)
 |[]=>rfl
 |b::l=>by
  rw[Lib.index,pre2,clsS];cases h:b==42&&atS l 0==47 with
  |true=>
   grind
  |false=>
   simp only[Xd,Cf];rw[wM l];cases a:clsS l with
   |none=>rfl
   |some r=>
    have:=(Kr l a).2
    grind
def cmtS(l:Str):Str:=
 if([47,42]:Str).isPrefixOf l then
  (match h:clsS (l.drop 2)with
  |some q=>cmtS q
  |none=>[])
 else l
termination_by l.length
decreasing_by
 have:=(Kr _ h).2
 grind
theorem Gv(l:Str):cmtS l=if([47,42]:Str).isPrefixOf l then(match clsS (l.drop 2)with|some q=>cmtS q|none=>[])else l:=by
 rw[cmtS]
 grind
theorem pq{l:Str}(h:([47,42]:Str).isPrefixOf l=false):cmtS l=l:=by rw[Gv,h];rfl
theorem Kj(l:Str):cmtS l<:+l:=by
 rw[Gv];split
 ·split
  ·rename_i q b;have a:=Kr _ b;have c:=a.2;rw[Oc]at c;exact(Kj q).trans (a.1.trans (We 2 l))
  grind
 grind
termination_by l.length
decreasing_by
 grind
theorem Yr(l:Str):cmtS (cmtS l)=cmtS l:=by
 rw[Gv l];split
 ·split
  ·rename_i q a;have b:=(Kr _ a).2;rw[Oc]at b;exact Yr q
  ·exact pq rfl
 ·rename_i h;exact pq (Bool.eq_false_iff.2 h)
termination_by l.length
decreasing_by
 grind
theorem TN{s q:Str}(hs:s.length<=40000)(hq:q<:+s):Zj (sr s q)=some (sr s (cmtS q)):=by
 have hsb:s.length<=big:=by unfold big;omega
 unfold Zj;refine Rj (fun z=> ∃p,z=sr s p/\p<:+s/\cmtS p=cmtS q) (fun z=>s.length - z.at_.toNat) _ ?_ ⟨q,rfl,hq,rfl⟩;rintro _ ⟨p,rfl,hp,he⟩;rw[zC yT];simp only[ze,YE hp,Ep,Aa];rw[Gv p]at he;cases hpre:([47,42]:Str).isPrefixOf p with
 |false=>
  grind
 |true=>
  rw[hpre,Na rfl]at he;have hl:=dn hpre;rw[show([47,42]:Str).length=2 from rfl]at hl;have hle:=hp.length_le;have hb:=KF hp hl;have hb2:=Yh s (p.drop 2);rw[Ca];have hw:w64 ((beh s p:Int)+2)=((beh s (p.drop 2):Nat):Int):=by rw[<-hb,Zf (by omega) (by omega)];omega
  rw[hw,zC (by grind),YE (Oj hp 2)];have hlen:(p.drop 2).length<=40000:=by rw[Oc];omega
  have hi:nk (p.drop 2,[42,47])=some (Lib.index (p.drop 2) [42,47]):=by unfold nk;rw[zC (by exact La (show(p.drop 2).length<4294967281 by omega))]
  rw[hi,wM];simp only[Aa];cases hc:clsS (p.drop 2)with
  |none=>
   rw[hc]at he;refine .inr (.inr ?_);rw[<-he];show _=some (LO.ret (⟨s,(beh s []:Int)⟩:za));unfold beh
   grind
  |some r=>
   rw[hc]at he;obtain⟨h1,h2⟩:=Kr _ hc;have hrs:r<:+s:=h1.trans (Oj hp 2);rw[Oc]at h2 hlen;simp only;rw[Ya (by omega),Ba];refine .inl ⟨sr s r,?_,⟨r,rfl,hrs,he⟩,?_⟩
   ·rw[Oc,Zf (n:=_+4) (by omega) (by omega)];have:(beh s p:Int)+(((p.length - 2 - r.length - 2:Nat):Int)+4)=((beh s r:Nat):Int):=by unfold beh;omega
    rw[this,Zf (by grind) (by grind)]
   ·show s.length - beh s r<s.length - beh s p;unfold beh;omega
def Xf(l:Str):List zf:=
 match h:cmtS l with
 |[]=>[]
 |c::r=>(mf (c::r)).1::Xf (mf (c::r)).2
termination_by l.length
decreasing_by
 have b:=(Om c r).length_le;have a:=(Kj l).length_le
 grind
theorem Sr{l:Str}(h:cmtS l=[]):Xf l=[]:=by
 rw[Xf]
 grind
theorem Cs{l:Str}{c:UInt8}{r:Str}(h:cmtS l=c::r):Xf l=(mf (c::r)).1::Xf (mf (c::r)).2:=by
 rw[Xf]
 grind
theorem RB(l:Str):Xf (cmtS l)=Xf l:=by
 cases h:cmtS l with
 |nil=>rw[Sr h];exact Sr (pq rfl)
 |cons c r=> rw[Cs h];exact Cs (by rw[<-h,Yr])
theorem lL(l:Str):(Xf l).length<=l.length:=by
 cases h:cmtS l with
 |nil=>rw[Sr h];grind
 |cons c r=>
  have b:(mf (c::r)).2.length<l.length:=by have d:=(Om c r).length_le;have a:=(Kj l).length_le;rw[h,Ea]at a;omega
  rw[Cs h,Ea];have:=lL (mf (c::r)).2;omega
termination_by l.length
decreasing_by
 all_goals omega
theorem sG: ∀l:Str,(Proofs.Cl.cleanS l).length<=3*l.length:=by
 have: ∀(n:Nat) (l:Str),l.length<=n->(Proofs.Cl.cleanS l).length<=3*l.length:=by
  intro n
  induction n with
  |zero=>
   intro l h;cases l with
   |nil=>rw[Proofs.Cl.cleanS];grind
   |cons c r=>grind
  |succ n ih=>
   intro l h;rw[Proofs.Cl.cleanS.eq_def]
   grind
 exact fun l=>this l.length l (ma _)
def qV(w:Str):List zf×Int:=if 4000<w.length then([],28)else if 1500<(Xf (Proofs.Cl.cleanS w)).length then([],4)else(Xf (Proofs.Cl.cleanS w),0)
theorem xK{n:Nat}(h:n<=100000):Zo n 1 56=true:=by unfold Zo;grind
theorem FZ(w:Str):Ny w=some (qV w):=by
 unfold Ny qV;by_cases b:4000<w.length
 ·have e:Dl w=some ([],28):=by unfold Dl;rw[Na b]
  unfold Ky
  grind
 ·have e:Dl w=some (Proofs.Cl.cleanS w,0):=by unfold Dl;rw[Ka b]
  rw[Ka b];have x:=sG w;generalize Proofs.Cl.cleanS w=s at e x;have o:s.length<=40000:=by omega
  unfold Ky;rw[e];simp only[ze,Aa];rw[show((0:Int) != 0)=false from rfl,Ba,sr_0,TN o (Re s)];simp only[Aa];have f: ∃z:Int×List zf,zY (fun(d:Int×List zf×za)=>
    bif decide (d.2.2.at_<(s.length:Int))then
     bif decide (w64 (d.1+1)>1500)then
      some (LO.ret (4,d.2.1))
     else
      (ql d.2.2).bind fun t=>
      (QU ((t.1,d.2.2.at_,t.2.at_),d.2.1)).bind fun y=>
      (Zj t.2).bind fun A=>
      some (LO.again (w64 (d.1+1),y,A))
    else
     some (LO.out (d.2.1,d.2.2)):Int×List zf×za->Option (LO (Int×List zf×za) (List zf×za) (Int×List zf))) (0,[],sr s (cmtS s)) (fun C=>some (0,C.1))=some z/\
    z=(if 1500<(Xf s).length then(4,(Xf s).take 1500)else(0,Xf s)):=by
   refine⟨_,Rj (fun z=> ∃(a:List zf) (q:Str),z=((a.length:Int),a,sr s q)/\q<:+s/\cmtS q=q/\a.length<=1500/\a++Xf q=Xf s) (fun z=>s.length - z.2.2.at_.toNat) (if 1500<(Xf s).length then(4,(Xf s).take 1500)else(0,Xf s)) ?_ ⟨[],cmtS s,rfl,Kj s,Yr s,by simp,by rw[Ad,RB]⟩,rfl⟩;rintro _ ⟨a,q,rfl,m,n,G,i⟩;simp only;have l:=m.length_le;cases q with
   |nil=>
    have B:((beh s []:Nat):Int)=(s.length:Int):=by unfold beh;rw[Db];rfl
    have k:decide (((beh s []:Nat):Int)<(s.length:Int))=false:=Ya (by omega);simp only[k,Ba];rw[Sr (pq rfl),Lb]at i
    grind
   |cons c r=>
    rw[Ea]at l;have B:beh s (c::r)<s.length:=by unfold beh;rw[Ea];omega
    have k:decide (((beh s (c::r):Nat):Int)<(s.length:Int))=true:=La (by omega);have v:w64 ((a.length:Int)+1)=(a.length:Int)+1:=Zf (by omega) (by omega);simp only[k,Ca,v];rw[Cs n]at i;have g:=congrArg List.length i;rw[Ha,Ea]at g;by_cases j:a.length=1500
    ·grind
    ·have p:decide ((a.length:Int)+1>1500)=false:=Ya (by omega);simp only[p,Ba,zC6 o m rfl,Aa];unfold QU;rw[zC (xK (by simp only;omega))];have h:(mf (c::r)).2<:+s:=(Om c r).trans (zX m);simp only[Aa,TN o h];refine .inl ⟨_,rfl,⟨a++[(mf (c::r)).1],cmtS (mf (c::r)).2,?_,(Kj _).trans h,Yr _,by grind,?_⟩,?_⟩
     ·grind
     ·rw[RB,Ec];exact i
     ·have E:=(Om c r).length_le;have F:=(Kj (mf (c::r)).2).length_le;show s.length - beh s (cmtS (mf (c::r)).2)<s.length - beh s (c::r);unfold beh at*
      grind
  obtain⟨z,D,u⟩:=f
  grind
end Go.Lv.VT
