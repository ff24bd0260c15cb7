import Derived.Test.YtiidaccdmolmkaaGreatDoorXd
set_option linter.all false
namespace Go.Lv.VT
set_option maxRecDepth 100000
def vo(m:UInt8):ZE m []=(some [],[]):=by rw[ZE]
def Rp(m c:UInt8)(r:aE):ZE m (c::r)=if c==m then(some [],r)
  else if c==10 then(none,c::r)
  else if c==92 then
   (if r.isEmpty then(some [],[])
   else if cr r 0==10 then ZE m (r.drop 1)
   else((ZE m (zR r).2).1.map ((zR r).1++ ·),(ZE m (zR r).2).2))
  else((ZE m r).1.map (c:: ·),(ZE m r).2):=by rw[ZE]
def yG(m:UInt8)(l:aE):(ZE m l).2<:+l:=by
 match l with
 |[]=>rw[vo];grind
 |c::r=>
  rw[Rp];have a:=Yd c r;split
  ·exact a
  ·split
   ·grind
   ·split
    ·split
     ·grind
     ·split
      ·exact(yG m (r.drop 1)).trans ((Af 1 r).trans a)
      ·have:=ZO r;exact(yG m (zR r).2).trans ((ZT r).trans a)
    ·exact(yG m r).trans a
termination_by l.length
decreasing_by
 all_goals grind
def Nz(a b:aE)(x:Option aE):(x.map (b++ ·)).map (a++ ·)=x.map ((a++b)++ ·):=by
 cases x with
 |none=>rfl
 |some t=>grind
def XF(a:aE)(b:UInt8)(x:Option aE):(x.map (b:: ·)).map (a++ ·)=x.map ((a++[b])++ ·):=Nz a [b] x
def Sl:Option aE->ze
 |some t=>⟨5,t,0,[],false⟩
 |none=>⟨6,[],0,[],false⟩
def zQ7{s q:aE}{m:UInt8}(k:s.length<=co)(w:m::q<:+s):WK (sr s (m::q))=some (Sl (ZE m q).1,sr s (ZE m q).2):=by
 have J:co=4194304:=rfl;have D:=ZJ w;unfold WK;simp only[za,uh k w,Aa,Js,Ti k w]
 let g:LX (zb×ze×List UInt8) (ze×zb):=match(ZE m q).1 with
  |some t=> .out (sr s (ZE m q).2,⟨0,[],0,[],false⟩,t)
  |none=> .ret (⟨6,[],0,[],false⟩,sr s (ZE m q).2)
 rw[Di (r:=g)]
 ·show LX.go g _=_;cases h:(ZE m q).1 with
  |some t=>simp only[g,h];rfl
  |none=>simp only[g,h];rfl
 refine qh (λz=> ∃(p e:aE),z=(sr s p,⟨0,[],0,[],false⟩,e)/\p<:+s/\e.length+4*p.length<=4*s.length/\(ZE m q).1=(ZE m p).1.map (e++ ·)/\(ZE m q).2=(ZE m p).2) (λz=>s.length - z.1.at_.toNat) _ ?_
  ⟨q,[],rfl,D,by grind,by simp,rfl⟩
 rintro _ ⟨p,e,rfl,j,C,b,a⟩;simp only[uh k j,Aa,jr,EQ,wX];cases p with
 |nil=>
  refine .inr (.inl ⟨_,rfl,?_⟩);rw[vo]at b a
  grind
 |cons c t=>
  have i:=j.length_le;rw[Ha]at i C;have n:=ZJ j;rw[Rp]at b a;rw[show(c::t).isEmpty=false from rfl,Ba,Js,show((c.toNat:Int)==(m.toNat:Int))=(c==m)from jh c m,show cr (c::t) 0=c from rfl,Ti k j];have f: ∀u:aE,u.length<=t.length->u<:+s->s.length - cG s u<s.length - cG s (c::t):=by intro u A F;unfold cG;rw[Ha];omega
  cases v:c==m with
  |true=>
   grind
  |false=>
   rw[v,Ka (by decide)]at b a;rw[Ba];cases y:c==10 with
   |true=>
    grind
   |false=>
    rw[y,Ka (by decide)]at b a;rw[Ba];cases l:c==92 with
    |false=> rw[l,Ka (by decide)]at b a;simp only[zA,Ba,Aa,Nc,oz];rw[zn (Bh (by omega))];exact .inl ⟨_,rfl,⟨t,e++[c],rfl,n,by grind,by rw[b,XF],a⟩,f t (by omega) n⟩
    |true=>
     rw[l,La rfl]at b a;simp only[zA,Ca,yC k j,Aa,Nb];have x:pk (c::t) 1=pk t 0:=rfl;rw[x,jr];cases t with
     |nil=>
      rw[show([]:aE).isEmpty=true from rfl,La rfl]at b a;have o:cG s [c]=s.length - 1:=rfl;have G:(if((s.length:Int)<cj ((cG s [c]:Int)+2))then(s.length:Int)else cj ((cG s [c]:Int)+2))=((cG s []:Nat):Int):=by rw[zY (by omega) (by omega),La (by omega)];unfold cG;rw[Cb];omega
      refine .inl ⟨(sr s [],⟨0,[],0,[],false⟩,e),?_,⟨[],e,rfl,List.nil_suffix,by grind,by rw[b,vo],by rw[a,vo]⟩,f [] (by simp) List.nil_suffix⟩
      grind
     |cons d u=>
      rw[show(d::u).isEmpty=false from rfl,Ka (by decide)]at b a;simp only[show(d::u).isEmpty=false from rfl,Va,Ca,Ba,Aa,EQ];cases B:cr (d::u) 0==10 with
      |true=>
       rw[B,La rfl]at b a;have A:=ZJ n;rw[Ha]at i C;have o:cG s (c::d::u)=s.length - (u.length+1+1):=by unfold cG;rw[Ha,Ha]
       have G:(if((s.length:Int)<cj ((cG s (c::d::u):Int)+2))then(s.length:Int)else cj ((cG s (c::d::u):Int)+2))=((cG s u:Nat):Int):=by rw[zY (by omega) (by omega),Ka (by omega)];unfold cG;rw[Ha,Ha];omega
       refine .inl ⟨(sr s u,⟨0,[],0,[],false⟩,e),?_,⟨u,e,rfl,A,by omega,b,a⟩,f u (by grind) A⟩
       grind
      |false=> rw[B,Ka (by decide)]at b a;have H:=Ut (d::u);have E:=ZO (d::u);refine .inl ⟨(sr s (zR (d::u)).2,⟨0,[],0,[],false⟩,e++(zR (d::u)).1),?_,⟨_,_,rfl,(ZT _).trans n,by grind,by rw[b,Nz],a⟩,f _ E ((ZT _).trans n)⟩;simp only[Ba,KN k j (show e.length<=1000000000 by omega),Aa]
def KY{n:Nat}(l:n≠0)(h:n<16777216):Q0 (w32 (n:Int))=some (Dh n):=by
 have j:Zm 0 1 1=true:=Bh (by omega);have f:Zm 0 2 1=true:=Bh (by omega);have d:Zm 0 3 1=true:=Bh (by omega);have g:Zm 0 4 1=true:=Bh (by omega);have c:(128+n%64)<256:=by omega
 have a:(128+n / 64%64)<256:=by omega
 have b:(128+n / 4096%64)<256:=by omega
 unfold Q0 gP Dh;simp only[Oq (show n<2147483648 by omega),P8 (show n<2147483648 by omega),za,shr6,HY,gX,X8,Z5 c,Z5 a,Z5 b,Aa];by_cases e:n<128
 ·rw[Ga (by omega),Ca,Av,Z5 (by omega),Aa,zn j,Ka (by omega),La e,xe (by omega)]
 ·rw[Ma (by omega),Ba];by_cases i:n<2048
  ·rw[Ga (by omega),Ca,DY (by omega),Z5 (by omega)];simp only[Aa];rw[zn f,Ka (by omega),Ka (by omega),La i];rfl
  ·rw[Ma (by omega),Ba];by_cases m:n<55296
   ·rw[Ga (by omega),Ca,zf];simp only[Ca];rw[aK (by omega),Z5 (by omega)];simp only[Aa];rw[zn d,Ka (by omega),Ka (by omega),Ka (by omega),La (by omega)];rfl
   ·rw[Ma (by omega),Ba,zf];simp only[tY];by_cases k:57343<n/\n<65536
    ·rw[Ga (by omega),Ga (by omega),Nb,Ca,aK (by omega),Z5 (by omega)];simp only[Aa];rw[zn d,Ka (by omega),Ka (by omega),Ka (by omega),La (by omega)];rfl
    ·rw[show(decide ((57343:Int)<(n:Int))&&decide ((n:Int)<=65535))=false by grind,Ba];by_cases o:65535<n/\n<=1114111
     ·rw[Ga (by omega),Ga (by omega),Nb,Ca,CY (by omega),Z5 (by omega)];simp only[Aa];rw[zn g,Ka (by omega),Ka (by omega),Ka (by omega),Ka (by omega)];rfl
     ·rw[show(decide ((n:Int)>65535)&&decide ((n:Int)<=1114111))=false by grind,Ba,zn d,La (by omega)];rfl
def KU:Q0 65533=some Mm:=by have h:=KY (n:=65533) (by omega) (by omega);rw[Oq (by omega)]at h;exact h
def zIJ{s l:aE}{c:UInt8}(hs:s.length<=co)(hr:c::l<:+s):
  QO (sr s (c::l))=some (sr s (zR l).2,(zR l).1):=by
 have hl:=ZJ hr;unfold QO;simp only[Ti hs hr,za,uh hs hl,Aa,jr];cases l with
 |nil=> rw[show([]:aE).isEmpty=true from rfl,Ca,KU];rfl
 |cons d r=>
  rw[show(d::r).isEmpty=false from rfl,Ba,mK];simp only[Aa,av];cases k:Q4 (cr (d::r) 0)with
  |false=>
   rw[Va,Ca,Js,oz];simp only[Aa,Ti hs hl];rw[zn (Bh (n:=0) (by omega))];have:zR (d::r)=([d],r):=by show(if Q4 d then _ else _)=_;rw[Ka (by rw[show Q4 d=false from k];decide)]
   rw[this]
  |true=>
   rw[Ab,Ba];have m:zR (d::r)=(Dh (hexes 6 0 (d::r)).1,js (hexes 6 0 (d::r)).2):=by show(if Q4 d then _ else _)=_;rw[La (show Q4 d=true from k)]
   rw[m];rw[Zt (L9 (l:=d::r) hl (λn i q b hn hi=> ?_))]
   ·have b:(hexes 6 0 (d::r)).2<:+s:=(xz 6 0 _).trans hl;have f:=fF 6 0 (d::r);rw[show 16 ^ 6*(0+1)=16777216 from rfl]at f;simp only[uh hs b,Aa,wy];have o:(bif dj (cr (hexes 6 0 (d::r)).2 0)then some (LX.out (((hexes 6 0 (d::r)).1:Int),(⟨s,cj ((cG s (hexes 6 0 (d::r)).2:Int)+1)⟩:zb)))else some (LX.out (((hexes 6 0 (d::r)).1:Int),sr s (hexes 6 0 (d::r)).2)):Option (LX (Int×zb) (zb×List UInt8)))
      =some (LX.out (((hexes 6 0 (d::r)).1:Int),sr s (js (hexes 6 0 (d::r)).2))):=by
     cases p:(hexes 6 0 (d::r)).2 with
     |nil=>rfl
     |cons e t=>
      rw[p]at b;rw[show cr (e::t) 0=e from rfl,Ti hs b];show _=some (LX.out (_,sr s (if dj e then t else e::t)))
      grind
    rw[o,zf];simp only;by_cases h0:(hexes 6 0 (d::r)).1=0
    ·rw[h0,show((((0:Nat):Int))==0)=true from rfl,Ca,zf];simp only[Oq (show 65533<2147483648 by omega),show w32 (65533:Int)=65533 from Oq (n:=65533) (by omega),KU,Aa];rfl
    ·rw[show(((hexes 6 0 (d::r)).1:Int)==0)=false by grind,Ba,zf];simp only[KY h0 f,Aa]
   ·simp only[uh hs b,Aa,mK,av];have j:decide ((i:Int)<6)=decide (i<6):=by rw[ng];omega
    rw[j];cases decide (i<6)with
    |false=>rfl
    |true=>
     rw[Ca,ja];cases a:Q4 (cr q 0)with
     |false=>rfl
     |true=>
      cases q with
      |nil=>exact absurd a (by decide)
      |cons e t=>
       have hI:md (cr (e::t) 0)=(i0 (cr (e::t) 0):Int):=by unfold md;rw[La a]
       rw[hI,fZ hn (Iz a),Ti hs b,zY (by omega) (by omega)];rfl
def kv:gj []=[]:=by rw[gj]
def Ww(c:UInt8)(r:aE):gj (c::r)=if c==41 then r else if cF (c::r)then gj (zR r).2 else gj r:=by rw[gj]
def pE(l:aE):gj l<:+l:=by
 match l with
 |[]=>rw[kv];grind
 |c::r=>
  rw[Ww];have a:=Yd c r;split
  ·exact a
  ·split
   ·have:=ZO r;exact(pE (zR r).2).trans ((ZT r).trans a)
   ·exact(pE r).trans a
termination_by l.length
decreasing_by
 all_goals grind
def zSg{s t:aE}{c:UInt8}(e:s.length<=co)(h:c::t<:+s):cl s (cj ((cG s t:Int) - 1))=some c:=by
 have f:co=4194304:=rfl;have b:=h.length_le;rw[Ha]at b;have d:=Rt h;have g:cG s t=cG s (c::t)+1:=by unfold cG;rw[Ha];omega
 have a:cG s (c::t)<s.length:=by unfold cG;rw[Ha];omega
 rw[zY (by omega) (by omega),show(cG s t:Int) - 1=((cG s (c::t):Nat):Int) by omega,zF a];rw[Eb a]at d
 grind
def badR{s q:aE}(e:s.length<=co)(j:q<:+s):QY (sr s q)=some (⟨8,[],0,[],false⟩,sr s (gj q)):=by
 unfold QY;refine TN ?_;refine qh (λz=> ∃(p:aE),z=(sr s p,(⟨0,[],0,[],false⟩:ze))/\p<:+s/\gj q=gj p) (λz=>s.length - z.1.at_.toNat) _ ?_ ⟨q,rfl,j,rfl⟩;rintro _ ⟨p,rfl,b,g⟩;simp only[za,uh e b,Aa,jr];cases p with
 |nil=>exact .inr (.inr ⟨_,rfl,by rw[g,kv]⟩)
 |cons c t=>
  have d:=b.length_le;rw[Ha]at d;have i:=ZJ b;have f: ∀u:aE,u.length<=t.length->u<:+s->s.length - cG s u<s.length - cG s (c::t):=by intro u l k;unfold cG;rw[Ha];omega
  rw[show(c::t).isEmpty=false from rfl,Ba,NM e b];rw[Ww]at g;simp only[Aa];cases a:cF (c::t)with
  |true=>
   have h:(c==41)=false:=by unfold cF at a;rw[Da,Fb]at a;rw[show c=92 from a.1];decide
   rw[a,h,Ka (by decide),La rfl]at g;rw[Ca,zIJ e b];exact .inl ⟨_,rfl,⟨_,rfl,(ZT t).trans i,g⟩,f _ (ZO t) ((ZT t).trans i)⟩
  |false=>
   rw[Ba,Ti e b,zSg e b];simp only[Aa];rw[show((c.toNat:Int)==41)=(c==41)from jh c 41]
   grind
def Xo:da []=(some [],[]):=by rw[da]
def jk(c:UInt8)(r:aE):da (c::r)=if c==41 then(some [],r)
  else if dj c then(match cv dj r with
   |[]=>(some [],[])
   |d::a=>if d==41 then(some [],a)else(none,gj (d::a)))
  else if c==34||c==39||c==40||unB c||c==92&& !cF (c::r)then(none,gj (c::r))
  else if c==92 then((da (zR r).2).1.map ((zR r).1++ ·),(da (zR r).2).2)
  else((da r).1.map (c:: ·),(da r).2):=by rw[da];grind
def BS(l:aE):(da l).2<:+l:=by
 match l with
 |[]=>rw[Xo];grind
 |c::r=>
  rw[jk];have a:=Yd c r;split
  ·exact a
  ·split
   ·have b:=(Et dj r).trans a;cases e:cv dj r with
    |nil=>grind
    |cons d f=>
     rw[e]at b;simp only;split
     ·exact(Yd d f).trans b
     ·exact(pE _).trans b
   ·split
    ·exact pE _
    ·split
     ·have:=ZO r;exact(BS (zR r).2).trans ((ZT r).trans a)
     ·exact(BS r).trans a
termination_by l.length
decreasing_by
 all_goals grind
def Xi:Option aE->ze
 |some t=>⟨7,t,0,[],false⟩
 |none=>⟨8,[],0,[],false⟩
def zRp(c:UInt8): ∃y,zA (!(bif bif bif bif (c.toNat:Int)==34 then true else(c.toNat:Int)==39 then true else(c.toNat:Int)==40 then true else decide ((c.toNat:Int)<=8)then true else(c.toNat:Int)==11)) (xq ((c.toNat:Int),14,31)) (default:Bool)=some y/\
  (bif bif bif bif bif bif (c.toNat:Int)==34 then true else(c.toNat:Int)==39 then true else(c.toNat:Int)==40 then true else decide ((c.toNat:Int)<=8)then true else(c.toNat:Int)==11 then true else y then true else(c.toNat:Int)==127)=(c==34||c==39||c==40||unB c):=by
 have a: ∀n:Nat,n<256->((zA (!(bif bif bif bif (n:Int)==34 then true else(n:Int)==39 then true else(n:Int)==40 then true else decide ((n:Int)<=8)then true else(n:Int)==11)) (xq ((n:Int),14,31)) (default:Bool)).elim false λy=>
  (bif bif bif bif bif bif (n:Int)==34 then true else(n:Int)==39 then true else(n:Int)==40 then true else decide ((n:Int)<=8)then true else(n:Int)==11 then true else y then true else(n:Int)==127)==(UInt8.ofNat n==34||UInt8.ofNat n==39||UInt8.ofNat n==40||unB (UInt8.ofNat n)))=true:=by decide+kernel
 have h:=a c.toNat (Kb c);rw[Ae]at h;cases b:zA (!(bif bif bif bif (c.toNat:Int)==34 then true else(c.toNat:Int)==39 then true else(c.toNat:Int)==40 then true else decide ((c.toNat:Int)<=8)then true else(c.toNat:Int)==11)) (xq ((c.toNat:Int),14,31)) (default:Bool)with
 |none=>grind
 |some y=>
  grind
def yP(c:UInt8)(t:aE):(pk (c::t) 0== -1)=false:=by rw[jr];rfl
def urlR{s w:aE}(f:s.length<=co)(v:w<:+s):pJ (sr s w)=some (Xi (da (cv dj w)).1,sr s (da (cv dj w)).2):=by
 have L:co=4194304:=rfl;unfold pJ;rw[wK f v];simp only[za,Aa];have E:=Dm dj v;generalize cv dj w=q at E ⊢;refine TN ?_;refine qh (λz=> ∃(p e:aE),z=(sr s p,(⟨0,[],0,[],false⟩:ze),e)/\p<:+s/\e.length+4*p.length<=4*s.length/\(da q).1=(da p).1.map (e++ ·)/\(da q).2=(da p).2) (λz=>s.length - z.1.at_.toNat) _ ?_
  ⟨q,[],rfl,E,by grind,by simp,rfl⟩
 rintro _ ⟨p,e,rfl,h,G,b,a⟩;simp only[uh f h,Aa,wy];cases p with
 |nil=> refine .inr (.inr ⟨_,rfl,?_⟩);rw[Xo]at b a;rw[b,a];simp only[Ed,Ib,Xi]
 |cons c t=>
  have m:=h.length_le;rw[Ha]at m G;have r:=ZJ h;have k: ∀u:aE,u.length<=t.length->u<:+s->s.length - cG s u<s.length - cG s (c::t):=by intro u M J;unfold cG;rw[Ha];omega
  rw[jk]at b a;rw[show cr (c::t) 0=c from rfl];cases j:dj c with
  |true=>
   have i:(c==41)=false:=by rw[Fa];rintro rfl;exact absurd j (by decide)
   rw[i,j,Ka (by decide),La rfl]at b a;have D:cv dj (c::t)=cv dj t:=by rw[cv,La j]
   have g:cv dj t<:+s:=Dm dj r;rw[Ca,wK f h,D];simp only[Aa,uh f g];cases o:cv dj t with
   |nil=> rw[o]at b a;refine .inr (.inr ⟨_,rfl,?_⟩);simp only at b a;rw[b,a];simp only[Ed,Ib,Xi]
   |cons d F=>
    rw[o]at b a g;simp only at b a;unfold bne;rw[CQ,yP,show cr (d::F) 0=d from rfl];cases C:d==41 with
    |true=> rw[C,La rfl]at b a;refine .inr (.inr ⟨_,?_,rfl⟩);simp only[Ab,Ba,zf,yP,CQ,show cr (d::F) 0=d from rfl,C,Ca,Ti f g];rw[b,a];simp only[Ed,Ib,Xi]
    |false=> rw[C,Ka (by decide)]at b a;refine .inr (.inr ⟨_,?_,rfl⟩);simp only[Va,Ca,badR f g,Aa,zBL];rw[b,a];rfl
  |false=>
   rw[Ba,zf];simp only[yP,CQ,show cr (c::t) 0=c from rfl,Ba,Ti f h];cases i:c==41 with
   |true=> rw[i,La rfl]at b a;refine .inr (.inr ⟨_,by rw[Ca],?_⟩);rw[b,a];simp only[Ed,Ib,Xi]
   |false=>
    rw[i,Ka (by decide),j,Ka (by decide)]at b a;rw[Ba];obtain⟨y,B,A⟩:=zRp c;rw[Js,B];simp only[Aa];rw[A];cases x:(c==34||c==39||c==40||unB c)with
    |true=> rw[x,Uc,La rfl]at b a;refine .inr (.inr ⟨_,?_,rfl⟩);rw[Ca,badR f h];simp only[Aa];rw[b,a];rfl
    |false=>
     rw[x,Ac]at b a;rw[Ba];unfold bne;rw[show((c.toNat:Int)==92)=(c==92)from jh c 92];cases n:c==92 with
     |false=> rw[n,Bc,Ka (by decide),Ka (by decide)]at b a;rw[Va,Ca,oz];simp only[Aa];rw[zn (Bh (by omega))];exact .inl ⟨_,rfl,⟨t,e++[c],rfl,r,by grind,by rw[b,XF],a⟩,k t (Db _) r⟩
     |true=>
      rw[n,ja]at b a;rw[Ab,Ba,NM f h];simp only[Aa];cases l:cF (c::t)with
      |true=> rw[l,Ab,Ka (by decide),La rfl]at b a;have K:=Ut t;have H:=ZO t;refine .inl ⟨(sr s (zR t).2,⟨0,[],0,[],false⟩,e++(zR t).1),?_,⟨_,_,rfl,(ZT _).trans r,by grind,by rw[b,Nz],a⟩,k _ H ((ZT _).trans r)⟩;simp only[Ca,KN f h (show e.length<=1000000000 by omega),Aa]
      |false=> rw[l,Va,La rfl]at b a;refine .inr (.inr ⟨_,?_,rfl⟩);rw[Ba,badR f h];simp only[Aa];rw[b,a];rfl
def uk {S X R:Type}{step:S->Option (LO S X R)}{k:X->Option R}(Inv:S->Prop)(b:S->Nat)(y:R)
  (h: ∀s,Inv s->(∃j,step s=some (.again j)/\Inv j/\b j<b s)\/(∃x,step s=some (.out x)/\k x=some y)\/step s=some (.ret y)) {s:S} (d:Inv s):zM step s k=some y:=by
 have c: ∀(m:Nat) (s:S),b s<m->Inv s-> ∃r:LX X R,ZP step m s=some r/\r.go k=some y:=by
  intro m
  induction m with
  |zero=>intro s h;omega
  |succ m i=>
   intro s f d;simp only[ZP];rcases h s d with⟨j,a,e,g⟩|⟨x,a,e⟩|a
   ·grind
   ·simp_all
   simp_all
 obtain⟨r,a,e⟩:=c (b s+1) s (by omega) d;rw[Di (qM a)];exact e
def zCs(p:UInt8->Bool): ∀l:aE,cv p l=l.dropWhile p
 |[]=>rfl
 |c::r=>by
  rw[cv,Ud];cases h:p c with
  |true=>exact zCs p r
  |false=>rfl
def Jw(p:UInt8->Bool)(l:aE):l.takeWhile p++cv p l=l:=by rw[zCs,List.takeWhile_append_dropWhile]
def vD(p:UInt8->Bool): ∀l:aE,(l.takeWhile p).all p=true
 |[]=>rfl
 |c::r=>by simp_all
def ia(l:aE):aE:=if Hg (cr l 0)then [cr l 0]else []
def rP(l:aE):ia l++cq l=l:=by
 unfold ia cq;cases h:Hg (cr l 0)with
 |false=>rfl
 |true=>
  rw[La rfl,La rfl];cases l with
  |nil=>exact absurd h (by decide)
  |cons c r=>rfl
def IY(l:aE):sgB (ia l)=true:=by
 unfold ia;cases h:Hg (cr l 0)with
 |false=>rfl
 |true=> rw[La rfl];unfold Hg at h;rw[Pb,Fb,Fb]at h;rcases h with h|h<;>rw[h]<;>rfl
def j6(q:aE):Option aE:=if cr q 0==46&&cm (cr q 1)then some ((q.drop 1).takeWhile cm)else none
def j5(q:aE):Option (UInt8×aE×aE):=
 if(cr q 0==101||cr q 0==69)&&cm (cr (cq (q.drop 1)) 0)then some (cr q 0,ia (q.drop 1),(cq (q.drop 1)).takeWhile cm)else none
def ga(l:aE):fb:=⟨ia l,(cq l).takeWhile cm,j6 (cv cm (cq l)),j5 (Zx (cv cm (cq l))).1⟩
def zID(q:aE):cH (j6 q)++(Zx q).1=q/\(Zx q).2=(j6 q).isNone:=by
 unfold j6 Zx;cases h:cr q 0==46&&cm (cr q 1)with
 |false=>exact⟨rfl,rfl⟩
 |true=>
  rw[La rfl,La rfl];cases q with
  |nil=>exact absurd h (by decide)
  |cons c r=> rw[Da,Fb]at h;refine⟨?_,rfl⟩;show(46::List.takeWhile cm r)++cv cm r=c::r;rw[Bb,Jw,show c=46 from h.1]
def zMB(q:aE):dp (j5 q)++(match cV q with|some r=>r|none=>q)=q:=by
 unfold j5 cV;cases a:cr q 0==101||cr q 0==69 with
 |false=>rfl
 |true=>
  cases b:cm (cr (cq (q.drop 1)) 0)with
  |false=>rfl
  |true=>
   simp only[Bool.and_self,He];cases q with
   |nil=>exact absurd a (by decide)
   |cons c r=> show(c::(ia r++List.takeWhile cm (cq r)))++cv cm (cq r)=c::r;rw[Bb,Ja,Jw,rP]
def sF(l:aE):(ga l).txt++(Za l).1=l:=by
 have c:=(zID (cv cm (cq l))).1;have b:=zMB (Zx (cv cm (cq l))).1;have a:(Za l).1=(match cV (Zx (cv cm (cq l))).1 with|some r=>r|none=>(Zx (cv cm (cq l))).1):=by unfold Za;simp only;cases cV (Zx (cv cm (cq l))).1<;>rfl
 rw[a];show(ia l++(List.takeWhile cm (cq l)++(cH (j6 (cv cm (cq l)))++dp (j5 (Zx (cv cm (cq l))).1))))++_=l;rw[Ja,Ja,Ja,b,c,Jw,rP]
def uQ{p:UInt8->Bool}{q:aE}(h:p (cr q 0)=true)(a:p 0=false):(q.takeWhile p).isEmpty=false:=by
 cases q with
 |nil=>rw[show cr [] 0=0 from rfl,a]at h;cases h
 |cons c r=>rw[Ph,La (show p c=true from h)];rfl
def PL{l:aE}(h:iS l=true):(ga l).ok=true:=by
 unfold fb.ok ga;simp only[IY,vD,ja,Da];refine⟨?_,?_⟩
 ·unfold j6;cases a:cr (cv cm (cq l)) 0==46&&cm (cr (cv cm (cq l)) 1)with
  |true=> rw[La rfl];simp only[vD,Nb];rw[Da]at a;rw[uQ (p:=cm) (by rw[Fj];exact a.2) (by decide)];rfl
  |false=>
   rw[Ka (by decide)];simp only;cases b:cm (cr (cq l) 0)with
   |true=>rw[uQ b (by decide)];rfl
   |false=>
    exfalso;have f:cv cm (cq l)=cq l:=by
     cases e:cq l with
     |nil=>rfl
     |cons c r=>rw[e]at b;rw[cv,Ka (by rw[show cm c=false from b];decide)]
    rw[f]at a;unfold iS fd at h;cases d:cr (cq l) 0==46 with
    |false=>grind
    |true=>
     rw[d,La rfl,Fj]at h
     grind
 ·unfold j5;cases a:(cr (Zx (cv cm (cq l))).1 0==101||cr (Zx (cv cm (cq l))).1 0==69)&&cm (cr (cq ((Zx (cv cm (cq l))).1.drop 1)) 0)with
  |false=>rfl
  |true=> rw[La rfl];rw[Da]at a;simp only[a.1,IY,vD,Nb,ja];rw[uQ a.2 (by decide)];rfl
def zTj{n:fb}(h:n.ok=true):n.txt≠[]:=by
 obtain⟨c,D,F,X⟩:=n;unfold fb.ok at h;simp only[Da]at h;intro e;unfold fb.txt at e;simp only[List.append_eq_nil_iff]at e;obtain⟨g,b,a,d⟩:=e;subst b;cases F with
 |none=>grind
 |some f=>cases a
def zEa{c:UInt8}{r:aE}(h:iS (c::r)=true):(Za (c::r)).1<:+r:=by
 have e:=sF (c::r);have b:=zTj (PL h);cases a:(ga (c::r)).txt with
 |nil=>grind
 |cons d t=>
  grind
def Zb(l:aE):ze×aE:=
 if d6 (Za l).1 then(⟨12,[],(ga l).val,(zJ (Za l).1).1,(Za l).2⟩,(zJ (Za l).1).2)
 else if cr (Za l).1 0==37 then(⟨11,[],(ga l).val,[],false⟩,(Za l).1.drop 1)
 else(⟨10,[],(ga l).val,[],(Za l).2⟩,(Za l).1)
def vS{s l t e:aE}(a:l<:+s)(h:t++e=l):List.drop (cG s l) (List.take (cG s e) s)=t:=by
 obtain⟨p,rfl⟩:=a;subst h;have c:cG (p++(t++e)) (t++e)=p.length:=by unfold cG;simp only[Ea];omega
 have b:cG (p++(t++e)) e=(p++t).length:=by unfold cG;simp only[Ea];omega
 grind
def zNt{s l:aE}(hs:s.length<=40000)(hl:l<:+s)(h:iS l=true):Qt (sr s l)=some ((Zb l).1,sr s (Zb l).2):=by
 have a:s.length<=co:=by unfold co;omega
 have c:=OU hl;have e:=hl.length_le;have b:=sF l;have f:(Za l).1.length<=l.length:=by have:=congrArg List.length b;rw[Ea]at this;omega
 have d:(ga l).txt.length<=40000:=by have:=congrArg List.length b;rw[Ea]at this;omega
 unfold Qt;rw[zMC a hl];simp only[za,Aa];have h1:(cG s l:Int)<=(cG s (Za l).1:Int):=by unfold cG;omega
 have h2:=mi s (Za l).1;rw[zn (by simp_all),Oa,Oa,vS hl b,EX (PL h) d];simp only[Aa];rw[show Zw (0,sr s (Za l).1)=some (d6 (Za l).1)from sP (k:=0) a c (by omega)];simp only[Aa];unfold Zb;cases hn:d6 (Za l).1 with
 |true=> rw[Ca,XK a c,La rfl];rfl
 |false=>
  rw[Ba,uh a c,Ka (by decide)];simp only[Aa,zTC];cases i:cr (Za l).1 0==37 with
  |true=> rw[Ca,zf,kC a c (by grind),La rfl]
  |false=>simp_all
def UE(l:aE):(zJ l).1.length<=4*l.length:=by
 match l with
 |[]=>rw[QW];grind
 |c::r=>
  rw[Zo];split
  ·have:=UE r
   grind
  ·split
   ·have b:=ZO r;have a:=Ut r;have:=UE (zR r).2
    grind
   grind
termination_by l.length
decreasing_by
 all_goals grind
def QG(l:aE):ze×aE:=
 if cr (zJ l).2 0==40 then
  (if(dr (zJ l).1==[117,114,108])&& !(cr (cv dj ((zJ l).2.drop 1)) 0==34||cr (cv dj ((zJ l).2.drop 1)) 0==39)
  then(Xi (da (cv dj ((zJ l).2.drop 1))).1,(da (cv dj ((zJ l).2.drop 1))).2)
  else(⟨2,(zJ l).1,0,[],false⟩,(zJ l).2.drop 1))
 else(⟨1,(zJ l).1,0,[],false⟩,(zJ l).2)
def zQh{s q:aE}(m:s.length<=40000)(g:q<:+s):Qd (sr s q)=some ((QG q).1,sr s (QG q).2):=by
 have a:s.length<=co:=by unfold co;omega
 have e:(zJ q).2<:+s:=(jm q).trans g;have l:=UE q;have i:=g.length_le;have f:(zJ q).1.length<=co:=by unfold co;omega
 unfold Qd;rw[XK a g];simp only[za,Aa,uh a e];unfold bne QG;rw[zTD];cases d:cr (zJ q).2 0==40 with
 |false=>rfl
 |true=>
  have c:cr (zJ q).2 0≠0:=by rw[Fb.1 d];decide
  rw[Ab,Ba,La rfl,kC a e c,oN f (by decide),Ov];simp only[Aa];have b:=Em e 1;cases n:dr (zJ q).1==[117,114,108]with
  |false=>rfl
  |true=>
   rw[Ca,wK a b,ja];have k:=Dm dj b;simp only[Aa,uh a k];rw[yX,xX];cases j:cr (cv dj ((zJ q).2.drop 1)) 0==34 with
   |true=>rfl
   |false=>
    cases h:cr (cv dj ((zJ q).2.drop 1)) 0==39 with
    |true=>rfl
    |false=> rw[urlR a b];rfl
def zNk{c:UInt8}{r:aE}(h:cM c=true\/cF (c::r)=true):(zJ (c::r)).2<:+r:=by
 rw[Zo];split
 ·exact jm r
 ·rename_i a;rw[La (h.resolve_left a)];exact(jm _).trans (ZT r)
def r9{c:UInt8}{r:aE}(h:d6 (c::r)=true):cM c=true\/cF (c::r)=true:=by
 unfold d6 at h;cases a:cr (c::r) 0==45 with
 |true=> left;rw[show c=45 from Fb.1 a];decide
 |false=>
  rw[a,Ka (by decide),Pb]at h;rcases h with h|h
  ·left;unfold cM;rw[show fa c=true from h];rfl
  ·exact .inr h
def zJg{c:UInt8}{r:aE}(h:d6 (c::r)=true):(QG (c::r)).2<:+r:=by
 have b:=zNk (r9 h);have a:(zJ (c::r)).2.drop 1<:+r:=(Af 1 _).trans b;unfold QG;split
 ·split
  ·exact(BS _).trans ((Et dj _).trans a)
  ·exact a
 ·exact b
def nxU(c:UInt8)(r:aE):ze×aE:=
  if d6 (c::r)then QG (c::r)
  else if vg c==0 then(⟨9,[c],0,[],false⟩,r)
  else(Li (vg c),r)
def nxT(c:UInt8)(r:aE):ze×aE:=
  if iS (c::r)then Zb (c::r)
  else if [45,45,62].isPrefixOf (c::r)then(Li 15,(c::r).drop 3)
  else if [60,33,45,45].isPrefixOf (c::r)then(Li 14,(c::r).drop 4)
  else if c==64&&d6 r then(⟨3,(zJ r).1,0,[],false⟩,(zJ r).2)
  else nxU c r
def qf:aE->ze×aE
 |[]=>(⟨0,[],0,[],false⟩,[])
 |c::r=>
  if dj c then(Li 13,cv dj (c::r))
  else if c==34||c==39 then(Sl (ZE c r).1,(ZE c r).2)
  else if c==35&&(cM (cr r 0)||cF r)then(⟨4,(zJ r).1,0,[],d6 r⟩,(zJ r).2)
  else nxT c r
def ow(c:UInt8)(r:aE):qf (c::r)=
  if dj c then(Li 13,cv dj (c::r))
  else if c==34||c==39 then(Sl (ZE c r).1,(ZE c r).2)
  else if c==35&&(cM (cr r 0)||cF r)then(⟨4,(zJ r).1,0,[],d6 r⟩,(zJ r).2)
  else if iS (c::r)then Zb (c::r)
  else if [45,45,62].isPrefixOf (c::r)then(Li 15,(c::r).drop 3)
  else if [60,33,45,45].isPrefixOf (c::r)then(Li 14,(c::r).drop 4)
  else if c==64&&d6 r then(⟨3,(zJ r).1,0,[],false⟩,(zJ r).2)
  else if d6 (c::r)then QG (c::r)
  else if vg c==0 then(⟨9,[c],0,[],false⟩,r)
  else(Li (vg c),r):=rfl
def zEd{c:UInt8}{r:aE}(h:iS (c::r)=true):(Zb (c::r)).2<:+r:=by
 have a:=zEa h;unfold Zb;split
 ·exact(jm _).trans a
 ·split
  ·exact(Af 1 _).trans a
  ·exact a
def Hm(c:UInt8)(r:aE):(qf (c::r)).2<:+r:=by
 rw[ow];split
 ·rename_i h;show cv dj (c::r)<:+r;rw[cv,La h];exact Et dj r
 ·split
  ·exact yG c r
  ·split
   ·exact jm r
   ·split
    ·rename_i h;exact zEd h
    ·split
     ·exact Af 2 r
     ·split
      ·exact Af 3 r
      ·split
       ·exact jm r
       ·split
        ·rename_i h;exact zJg h
        grind
def zNe(c:UInt8):decide (Lib.indexByte [58,59,44,91,93,40,41,123,125] c>=0)= !(vg c==0)/\(vg c≠0->cN (16+cN (Lib.indexByte [58,59,44,91,93,40,41,123,125] c))=vg c):=by
 have: ∀n:Nat,n<256->decide (Lib.indexByte [58,59,44,91,93,40,41,123,125] (UInt8.ofNat n)>=0)= !(vg (UInt8.ofNat n)==0)/\(vg (UInt8.ofNat n)≠0->cN (16+cN (Lib.indexByte [58,59,44,91,93,40,41,123,125] (UInt8.ofNat n)))=vg (UInt8.ofNat n)):=by decide+kernel
 have:=this c.toNat (Kb c);simp_all
def jl{m q:aE}(h:m.isPrefixOf q=true):m.length<=q.length:=by
 grind
def LC(s:aE)(X:ze×aE):Option (ze×zb):=some (X.1,sr s X.2)
def zTw{s q:aE}{c:UInt8}{r:aE}(y:s.length<=40000)(b:q<:+s)(D:q=c::r):AC (sr s q)=some ((qf q).1,sr s (qf q).2):=by
 subst D;have a:s.length<=co:=by unfold co;omega
 have A:=ZJ b;have J:(c::r).drop 1=r:=rfl;rw[show qf (c::r)=if dj c then(Li 13,cv dj (c::r))else if c==34||c==39 then(Sl (ZE c r).1,(ZE c r).2)else if c==35&&(cM (cr r 0)||cF r)then(⟨4,(zJ r).1,0,[],d6 r⟩,(zJ r).2)else nxT c r from rfl];unfold AC;simp only[za,uh a b,Aa];rw[zn RY];simp only[wy,Aa,yX,xX,zTB,zTE,VR b,Ar,show cr (c::r) 0=c from rfl,Vy];cases Q:dj c with
 |true=> rw[Ca,wK a b,La rfl];rfl
 |false=>
  rw[Ba,Ka (by decide)];cases H:c==34||c==39 with
  |true=> rw[Ca,zQ7 a b,La rfl];rfl
  |false=>
   rw[Ba,Ka (by decide)];have p:Zr (1,sr s (c::r))=some (cF r):=lF (k:=1) a b (by omega);have g:Zw (1,sr s (c::r))=some (d6 r):=sP (k:=1) a b (by omega);have l:Zw (0,sr s (c::r))=some (d6 (c::r)):=sP (k:=0) a b (by omega);have u:(⟨s,cj ((cG s (c::r):Int)+1)⟩:zb)=sr s r:=by rw[Ti a b]
   rw[u];have o:((qV (sr s (c::r))).bind λw=>
    bif w then
     (Qt (sr s (c::r))).bind λj=>
     some (j.1,j.2)
    else
     (some ([45,45,62].isPrefixOf (c::r))).bind λv=>
     bif v then
      some ((⟨15,[],0,[],false⟩:ze),(⟨s,cj ((cG s (c::r):Int)+3)⟩:zb))
     else
      (some ([60,33,45,45].isPrefixOf (c::r))).bind λt=>
      bif t then
       some ((⟨14,[],0,[],false⟩:ze),(⟨s,cj ((cG s (c::r):Int)+4)⟩:zb))
      else
       (zA (c==64) (Zw (1,sr s (c::r))) (default:Bool)).bind λh=>
       bif bif c==64 then h else false then
        (ZW (sr s r)).bind λf=>
        some ((⟨3,f.1,0,[],false⟩:ze),f.2)
       else
        (Zw (0,sr s (c::r))).bind λi=>
        bif i then
         (Qd (sr s (c::r))).bind λd=>
         some (d.1,d.2)
        else
         (cy ([58,59,44,91,93,40,41,123,125],cN (pk (c::r) 0))).bind λe=>
         bif decide (e>=0)then
          some ((⟨cN (16+cN e),[],0,[],false⟩:ze),sr s r)
         else
          ck (decide (1<=((c::r).length:Int)))<|
          some ((⟨9,List.take 1 (c::r),0,[],false⟩:ze),sr s r))=
    LC s (nxT c r):=by
    unfold nxT;simp only[zQE a b,Aa];cases x:iS (c::r)with
    |true=> rw[Ca,zNt y b x,La rfl];rfl
    |false=>
     rw[Ba,Ka (by decide)];cases O:[45,45,62].isPrefixOf (c::r)with
     |true=> rw[Ca,La rfl,show(3:Int)=((3:Nat):Int)from rfl,gK (n:=3) a b (jl O)];rfl
     |false=>
      rw[Ba,Ka (by decide)];cases L:[60,33,45,45].isPrefixOf (c::r)with
      |true=> rw[Ca,La rfl,show(4:Int)=((4:Nat):Int)from rfl,gK (n:=4) a b (jl L)];rfl
      |false=>
       rw[Ba,Ka (by decide),g,l];have m: ∀z:Bool,((some z).bind λh=>bif h then
        (ZW (sr s r)).bind λf=>
        some ((⟨3,f.1,0,[],false⟩:ze),f.2)
       else
        (some (d6 (c::r))).bind λi=>
        bif i then
         (Qd (sr s (c::r))).bind λd=>
         some (d.1,d.2)
        else
         (cy ([58,59,44,91,93,40,41,123,125],cN (pk (c::r) 0))).bind λe=>
         bif decide (e>=0)then
          some ((⟨cN (16+cN e),[],0,[],false⟩:ze),sr s r)
         else
          ck (decide (1<=((c::r).length:Int)))<|
          some ((⟨9,List.take 1 (c::r),0,[],false⟩:ze),sr s r))=LC s (if z then(⟨3,(zJ r).1,0,[],false⟩,(zJ r).2)else nxU c r):=by
        intro z;unfold nxU;simp only[Aa];cases z with
        |true=> rw[Ca,XK a A];rfl
        |false=>
         rw[Ba,Ka (by decide)];cases G:d6 (c::r)with
         |true=>rw[Ca,zQh y b];rfl
         |false=>
          rw[Ba,Ka (by decide),Js,QQ];have R:(cN (c.toNat:Int)).toNat.toUInt8=c:=by rw[Av,xe (Kb c),Oa];exact Ae
          rw[R];obtain⟨K,S⟩:=zNe c;simp only[Aa,K];cases M:vg c==0 with
          |true=> rw[Ab,Ba,zn (Ga (by grind))];rfl
          |false=> rw[Va,Ca,S (Fa.1 M)];rfl
       cases N:c==64 with
       |false=> simp_all
       |true=> have:=m (d6 r);simp_all
   cases C:c==35 with
   |false=> simp only[ZF,Aa,Ba,Nc,Bc];exact o
   |true=>
    simp only[zQ,Aa,Ca,Nb,ja,yC a b,C8];have E:cr (c::r) 1=cr r 0:=rfl;rw[E,p];have F:(bif cM (cr r 0)||cF r then(Zw (1,sr s (c::r))).bind λP=>(ZW (sr s r)).bind λB=>some ((⟨4,B.1,0,[],P⟩:ze),B.2)else LC s (nxT c r))=LC s (if(cM (cr r 0)||cF r)then(⟨4,(zJ r).1,0,[],d6 r⟩,(zJ r).2)else nxT c r):=by
     cases cM (cr r 0)||cF r with
     |false=>rfl
     |true=>rw[Ca,g,XK a A];rfl
    show _=LC s (if(cM (cr r 0)||cF r)then(⟨4,(zJ r).1,0,[],d6 r⟩,(zJ r).2)else nxT c r);rw[<-F];cases T:cM (cr r 0)with
    |true=>rfl
    |false=> simp_all
def gc:aE->Option aE
 |[]=>none
 |c::r=>if c==42&&cr r 0==47 then some (r.drop 1)else gc r
def Jo: ∀(l:aE) {r:aE},gc l=some r->r<:+l/\r.length+2<=l.length
 |[],r,h=>by cases h
 |c::t,r,h=>by
  unfold gc at h;split at h
  ·rename_i a;rw[Da,Fb,Fb]at a;injection h with h;subst h;have:=tC (l:=t) (n:=0) (by rw[a.2];decide);exact⟨(Af 1 t).trans (Yd c t),by grind⟩
  ·obtain⟨d,b⟩:=Jo t h
   grind
def pre2(b:UInt8)(l:aE):([42,47]:aE).isPrefixOf (b::l)=(b==42&&cr l 0==47):=by
 have c:((42:UInt8)==b)=(b==42):=by rw[Gg,Fb,Fb];exact eq_comm
 rw[List.isPrefixOf,c];cases l with
 |nil=>rfl
 |cons d t=>
  have a:((47:UInt8)==d)=(d==47):=by rw[Gg,Fb,Fb];exact eq_comm
  rw[List.isPrefixOf,a,List.isPrefixOf];rw[Nb];rfl
def zBI: ∀l:aE,Lib.index l [42,47]=match gc l with|none=> -1|some r=>((l.length - r.length - 2:Nat):Int)
 |[]=>rfl
 |b::l=>by
  rw[Lib.index,pre2,gc];cases h:b==42&&cr l 0==47 with
  |true=>
   grind
  |false=>
   simp only[Cc,Xd];rw[zBI l];cases a:gc l with
   |none=>rfl
   |some r=>
    have:=(Jo l a).2
    grind
def cS(l:aE):aE:=
 if([47,42]:aE).isPrefixOf l then
  (match h:gc (l.drop 2)with
  |some q=>cS q
  |none=>[])
 else l
termination_by l.length
decreasing_by
 have:=(Jo _ h).2
 grind
def Ak(l:aE):cS l=if([47,42]:aE).isPrefixOf l then(match gc (l.drop 2)with|some q=>cS q|none=>[])else l:=by
 rw[cS]
 grind
def Qg{l:aE}(h:([47,42]:aE).isPrefixOf l=false):cS l=l:=by rw[Ak,h];rfl
def yj(l:aE):cS l<:+l:=by
 rw[Ak];split
 ·split
  ·rename_i q b;have a:=Jo _ b;have c:=a.2;rw[Ic]at c;exact(yj q).trans (a.1.trans (Af 2 l))
  grind
 grind
termination_by l.length
decreasing_by
 grind
def Wo(l:aE):cS (cS l)=cS l:=by
 rw[Ak l];split
 ·split
  ·rename_i q a;have b:=(Jo _ a).2;rw[Ic]at b;exact Wo q
  ·exact Qg rfl
 ·rename_i h;exact Qg (Bool.eq_false_iff.2 h)
termination_by l.length
decreasing_by
 grind
def Fz(l:aE):([47,42]:aE).isPrefixOf (cS l)=false:=by
 have h:=Wo l;cases b:([47,42]:aE).isPrefixOf (cS l)with
 |false=>rfl
 |true=>
  exfalso;rw[Ak (cS l),b,La rfl]at h;have c:=jl b;rw[show([47,42]:aE).length=2 from rfl]at c;cases a:gc ((cS l).drop 2)with
  |none=>grind
  |some q=>
   rw[a]at h;have d:=(Jo _ a).2;have e:=(yj q).length_le
   grind
def zBh{s q:aE}(hs:s.length<=40000)(e:q<:+s):ql (sr s q)=some (sr s (cS q)):=by
 have f:s.length<=co:=by unfold co;omega
 unfold ql;refine uk (λz=> ∃p,z=sr s p/\p<:+s/\cS p=cS q) (λz=>s.length - z.at_.toNat) _ ?_ ⟨q,rfl,e,rfl⟩;rintro _ ⟨p,rfl,hp,b⟩;rw[zn RY];simp only[za,VR hp,Ar,Aa];rw[Ak p]at b;cases a:([47,42]:aE).isPrefixOf p with
 |false=>
  grind
 |true=>
  rw[a,La rfl]at b;have hl:=jl a;rw[show([47,42]:aE).length=2 from rfl]at hl;have i:=hp.length_le;have hb:=SS hp hl;have j:=mi s (p.drop 2);rw[Ca];have k:cj ((cG s p:Int)+2)=((cG s (p.drop 2):Nat):Int):=by rw[<-hb,zY (by omega) (by omega)];omega
  rw[k,zn (by grind),VR (Em hp 2)];have c:(p.drop 2).length<=40000:=by rw[Ic];omega
  have hi:mr (p.drop 2,[42,47])=some (Lib.index (p.drop 2) [42,47]):=by unfold mr;rw[zn (by exact Ga (show(p.drop 2).length<4294967281 by omega))]
  rw[hi,zBI];simp only[Aa];cases hc:gc (p.drop 2)with
  |none=>
   rw[hc]at b;refine .inr (.inr ?_);rw[<-b];show _=some (LO.ret (⟨s,(cG s []:Int)⟩:zb));unfold cG
   grind
  |some r=>
   rw[hc]at b;obtain⟨h1,h2⟩:=Jo _ hc;have d:r<:+s:=h1.trans (Em hp 2);rw[Ic]at h2 c;simp only;rw[Ma (by omega),Ba];refine .inl ⟨sr s r,?_,⟨r,rfl,d,b⟩,?_⟩
   ·rw[Ic,zY (n:=_+4) (by omega) (by omega)];have:(cG s p:Int)+(((p.length - 2 - r.length - 2:Nat):Int)+4)=((cG s r:Nat):Int):=by unfold cG;omega
    rw[this,zY (by grind) (by grind)]
   ·show s.length - cG s r<s.length - cG s p;unfold cG;omega
def Qw(l:aE):List ze:=
 match h:cS l with
 |[]=>[]
 |c::r=>(qf (c::r)).1::Qw (qf (c::r)).2
termination_by l.length
decreasing_by
 have b:=(Hm c r).length_le;have a:=(yj l).length_le
 grind
def Pj{l:aE}(h:cS l=[]):Qw l=[]:=by
 rw[Qw]
 grind
def nk{l:aE}{c:UInt8}{r:aE}(h:cS l=c::r):Qw l=(qf (c::r)).1::Qw (qf (c::r)).2:=by
 rw[Qw]
 grind
def Ew(l:aE):Qw (cS l)=Qw l:=by
 cases h:cS l with
 |nil=>rw[Pj h];exact Pj (Qg rfl)
 |cons c r=> rw[nk h];exact nk (by rw[<-h,Wo])
def gT(l:aE):(Qw l).length<=l.length:=by
 cases h:cS l with
 |nil=>rw[Pj h];grind
 |cons c r=>
  have b:(qf (c::r)).2.length<l.length:=by have d:=(Hm c r).length_le;have a:=(yj l).length_le;rw[h,Ha]at a;omega
  rw[nk h,Ha];have:=gT (qf (c::r)).2;omega
termination_by l.length
decreasing_by
 all_goals omega
def zIh: ∀l:aE,(Proofs.Cl.ds l).length<=3*l.length:=by
 have: ∀(n:Nat) (l:aE),l.length<=n->(Proofs.Cl.ds l).length<=3*l.length:=by
  intro n
  induction n with
  |zero=>
   intro l h;cases l with
   |nil=>rw[Proofs.Cl.ds];grind
   |cons c r=>grind
  |succ n a=>
   intro l h;rw[Proofs.Cl.ds.eq_def]
   grind
 exact λl=>this l.length l (Db _)
def Ws(w:aE):List ze×Int:=if 4000<w.length then([],28)else if 1500<(Qw (Proofs.Cl.ds w)).length then([],4)else(Qw (Proofs.Cl.ds w),0)
def G7{n:Nat}(h:n<=100000):Zm n 1 56=true:=by unfold Zm;grind
def zHH(w:aE):II w=some (Ws w):=by
 unfold II Ws;by_cases b:4000<w.length
 ·have e:Bq w=some ([],28):=by unfold Bq;rw[La b]
  unfold FI
  grind
 ·have e:Bq w=some (Proofs.Cl.ds w,0):=by unfold Bq;rw[Ka b]
  rw[Ka b];have x:=zIh w;generalize Proofs.Cl.ds w=s at e x;have o:s.length<=40000:=by omega
  unfold FI;rw[e];simp only[za,Aa];rw[show((0:Int) != 0)=false from rfl,Ba,sr_0,zBh o (Ie s)];simp only[Aa];have f: ∃z:Int×List ze,zM (λ(d:Int×List ze×zb)=>
    bif decide (d.2.2.at_<(s.length:Int))then
     bif decide (cj (d.1+1)>1500)then
      some (LO.ret (4,d.2.1))
     else
      (AC d.2.2).bind λt=>
      (tJ ((t.1,d.2.2.at_,t.2.at_),d.2.1)).bind λy=>
      (ql t.2).bind λA=>
      some (LO.again (cj (d.1+1),y,A))
    else
     some (LO.out (d.2.1,d.2.2)):Int×List ze×zb->Option (LO (Int×List ze×zb) (List ze×zb) (Int×List ze))) (0,[],sr s (cS s)) (λC=>some (0,C.1))=some z/\
    z=(if 1500<(Qw s).length then(4,(Qw s).take 1500)else(0,Qw s)):=by
   refine⟨_,uk (λz=> ∃(a:List ze) (q:aE),z=((a.length:Int),a,sr s q)/\q<:+s/\cS q=q/\a.length<=1500/\a++Qw q=Qw s) (λz=>s.length - z.2.2.at_.toNat) (if 1500<(Qw s).length then(4,(Qw s).take 1500)else(0,Qw s)) ?_ ⟨[],cS s,rfl,yj s,Wo s,by simp,by rw[Lb,Ew]⟩,rfl⟩;rintro _ ⟨a,q,rfl,m,n,G,i⟩;simp only;have l:=m.length_le;cases q with
   |nil=>
    have B:((cG s []:Nat):Int)=(s.length:Int):=by unfold cG;rw[Cb];rfl
    have k:decide (((cG s []:Nat):Int)<(s.length:Int))=false:=Ma (by omega);simp only[k,Ba];rw[Pj (Qg rfl),Ib]at i
    grind
   |cons c r=>
    rw[Ha]at l;have B:cG s (c::r)<s.length:=by unfold cG;rw[Ha];omega
    have k:decide (((cG s (c::r):Nat):Int)<(s.length:Int))=true:=Ga (by omega);have v:cj ((a.length:Int)+1)=(a.length:Int)+1:=zY (by omega) (by omega);simp only[k,Ca,v];rw[nk n]at i;have g:=congrArg List.length i;rw[Ea,Ha]at g;by_cases j:a.length=1500
    ·grind
    ·have p:decide ((a.length:Int)+1>1500)=false:=Ma (by omega);simp only[p,Ba,zTw o m rfl,Aa];unfold tJ;rw[zn (G7 (by simp only;omega))];have h:(qf (c::r)).2<:+s:=(Hm c r).trans (ZJ m);simp only[Aa,zBh o h];refine .inl ⟨_,rfl,⟨a++[(qf (c::r)).1],cS (qf (c::r)).2,?_,(yj _).trans h,Wo _,by grind,?_⟩,?_⟩
     ·grind
     ·rw[Ew,Ja];exact i
     ·have E:=(Hm c r).length_le;have F:=(yj (qf (c::r)).2).length_le;show s.length - cG s (cS (qf (c::r)).2)<s.length - cG s (c::r);unfold cG at*
      grind
  obtain⟨z,D,u⟩:=f
  grind
def Nj{q:aE}{n:Nat}(x:aE)(h:n<q.length):cr (q++x) n=cr q n:=by
 unfold cr
 grind
def Mo{p:UInt8->Bool}(x:aE): ∀{q:aE},cv p q≠[]->cv p (q++x)=cv p q++x
 |[],h=>absurd rfl h
 |c::r,h=>by
  rw[Bb,cv,cv];rw[cv]at h;cases a:p c with
  |true=>rw[a,La rfl]at h;rw[La rfl,La rfl];exact Mo x h
  |false=>rfl
def uD{p:UInt8->Bool}(x:aE): ∀{q:aE},cv p q≠[]->(q++x).takeWhile p=q.takeWhile p
 |[],h=>absurd rfl h
 |c::r,h=>by
  rw[Bb,Ph,Ph];rw[cv]at h;cases a:p c with
  |true=>rw[a,La rfl]at h;rw[La rfl,La rfl,uD x h]
  |false=>rfl
def zBF(x:aE): ∀{k n:Nat} {l:aE},(hexes k n l).2≠[]->hexes k n (l++x)=((hexes k n l).1,(hexes k n l).2++x)
 |0,n,l,_=>rfl
 |k+1,n,[],h=>absurd rfl h
 |k+1,n,c::r,h=>by
  rw[Bb,hexes,hexes];rw[hexes]at h;split
  ·rename_i a;rw[La a]at h;exact zBF x h
  ·rfl
def zOb{l:aE}(x:aE)(h:l≠[]):js (l++x)=js l++x:=by
 cases l with
 |nil=>grind
 |cons c r=> show(if dj c then r++x else c::(r++x))=(if dj c then r else c::r)++x;split<;>rfl
def fH{r:aE}(x:aE)(h:(zR r).2≠[]):zR (r++x)=((zR r).1,(zR r).2++x):=by
 cases r with
 |nil=>exact absurd rfl h
 |cons c r=>
  have e: ∀t:aE,zR (c::t)=if Q4 c then(Dh (hexes 6 0 (c::t)).1,js (hexes 6 0 (c::t)).2)else([c],t):=λt=>rfl;rw[Bb,e,e];rw[e]at h;split
  ·rename_i b;rw[La b]at h;have a:(hexes 6 0 (c::r)).2≠[]:=by intro d;rw[d]at h;exact h rfl
   rw[show c::(r++x)=(c::r)++x from rfl,zBF x a,zOb x a]
  ·rfl
def Kz{c:UInt8}{r:aE}(x:aE)(h:r≠[]\/c≠92):cF (c::(r++x))=cF (c::r):=by
 unfold cF;show(c==92&& !(cr (r++x) 0==10))=(c==92&& !(cr r 0==10));rcases h with h|h
 ·cases r with
  |nil=>grind
  |cons d t=>rfl
 grind
def Ow{q:aE}(x:aE)(h:(zJ q).2≠[]):zJ (q++x)=((zJ q).1,(zJ q).2++x):=by
 match q with
 |[]=>rw[QW]at h;grind
 |c::r=>
  rw[Bb,Zo,Zo];rw[Zo]at h;cases f:cM c with
  |true=> rw[f,La rfl]at h;simp only[He];rw[Ow x h]
  |false=>
   rw[f,Ka (by decide)]at h;simp only[Cc,Xd];cases a:cF (c::r)with
   |true=>
    rw[a,La rfl]at h;have g:(zR r).2≠[]:=by intro e;simp only[e,QW]at h;exact h rfl
    have b:r≠[]:=by rintro rfl;exact g rfl
    rw[Kz x (.inl b),a];simp only[He];rw[fH x g];have:=ZO r;simp only;rw[Ow x h]
   |false=>
    have b:r≠[]\/c≠92:=by
     cases r with
     |nil=> right;rintro rfl;exact absurd a (by decide)
     |cons d t=>left;simp
    rw[Kz x b,a];grind
termination_by q.length
decreasing_by
 all_goals grind
def BH{m:UInt8}{q:aE}(x:aE)(h:(ZE m q).2≠[]):ZE m (q++x)=((ZE m q).1,(ZE m q).2++x):=by
 match q with
 |[]=>rw[vo]at h;grind
 |c::r=>
  rw[Bb,Rp,Rp];rw[Rp]at h;cases g:c==m with
  |true=>grind
  |false=>
   rw[g,Ka (by decide)]at h;simp only[Cc,Xd];cases k:c==10 with
   |true=>grind
   |false=>
    rw[k,Ka (by decide)]at h;simp only[Cc,Xd];cases b:c==92 with
    |false=> rw[b,Ka (by decide)]at h;simp only[Cc,Xd];rw[BH x h]
    |true=>
     rw[b,La rfl]at h;simp only[He];cases f:r with
     |nil=>grind
     |cons d t=>
      rw[f]at h;have j:r.length=t.length+1:=by rw[f];rfl
      rw[Bb,show(d::(t++x)).isEmpty=false from rfl,show(d::t).isEmpty=false from rfl];simp only[Cc,Xd];rw[show(d::t).isEmpty=false from rfl,Ka (by decide)]at h;rw[show cr (d::(t++x)) 0=cr (d::t) 0 from rfl];cases a:cr (d::t) 0==10 with
      |true=> rw[a,La rfl]at h;simp only[He];exact BH (q:=t) x h
      |false=>
       rw[a,Ka (by decide)]at h;simp only[Cc,Xd];have i:(zR (d::t)).2≠[]:=by intro e;simp only[e,vo]at h;exact h rfl
       rw[show d::(t++x)=(d::t)++x from rfl,fH x i];have:=ZO (d::t);simp only;rw[BH x h]
termination_by q.length
decreasing_by
 all_goals grind
def rE{q:aE}(x:aE)(h:gj q≠[]):gj (q++x)=gj q++x:=by
 match q with
 |[]=>rw[kv]at h;grind
 |c::r=>
  rw[Bb,Ww,Ww];rw[Ww]at h;cases f:c==41 with
  |true=>grind
  |false=>
   rw[f,Ka (by decide)]at h;simp only[Cc,Xd];cases a:cF (c::r)with
   |true=>
    rw[a,La rfl]at h;have d:(zR r).2≠[]:=by intro e;rw[e,kv]at h;exact h rfl
    have b:r≠[]:=by rintro rfl;exact d rfl
    rw[Kz x (.inl b),a];simp only[He];rw[fH x d];have:=ZO r;exact rE x h
   |false=>
    rw[a,Ka (by decide)]at h;have b:r≠[]\/c≠92:=by left;rintro rfl;rw[kv]at h;exact h rfl
    rw[Kz x b,a];simp only[Cc,Xd];exact rE x h
termination_by q.length
decreasing_by
 all_goals grind
def CS{q:aE}(x:aE)(h:(da q).2≠[]):da (q++x)=((da q).1,(da q).2++x):=by
 match q with
 |[]=>rw[Xo]at h;grind
 |c::r=>
  rw[Bb,jk,jk];rw[jk]at h;cases l:c==41 with
  |true=>grind
  |false=>
   rw[l,Ka (by decide)]at h;simp only[Cc,Xd];cases j:dj c with
   |true=>
    rw[j,La rfl]at h;simp only[He];cases f:cv dj r with
    |nil=>grind
    |cons d t=>
     rw[Mo x (by rw[f];simp),f];rw[f]at h;simp only[Bb]at h ⊢;cases a:d==41 with
     |true=>grind
     |false=> rw[a,Ka (by decide)]at h;simp only[Cc,Xd];rw[show d::(t++x)=(d::t)++x from rfl,rE x h]
   |false=>
    rw[j,Ka (by decide)]at h;simp only[Cc,Xd];have b:(c=92->r≠[])->cF (c::(r++x))=cF (c::r):=by
     intro k;refine Kz x ?_;by_cases e:c=92
     ·exact .inl (k e)
     ·exact .inr e
    have m:c=92->r≠[]:=by
     rintro rfl rfl;have o:cF [92]=true:=by decide
     rw[o,show((92:UInt8)==92&& !true)=false from rfl,Dc]at h;cases i:((92:UInt8)==34||(92:UInt8)==39||(92:UInt8)==40||unB 92)with
     |true=>exact absurd i (by decide)
     |false=> rw[i,Ka (by decide),La (by decide)]at h;exact absurd (by show(da (zR []).2).2=[];rw[show(zR []).2=[]from rfl,Xo]) h
    rw[b m];cases a:c==34||c==39||c==40||unB c||c==92&& !cF (c::r)with
    |true=> rw[a,La rfl]at h;simp only[He];rw[show c::(r++x)=(c::r)++x from rfl,rE x h]
    |false=>
     rw[a,Ka (by decide)]at h;simp only[Cc,Xd];cases g:c==92 with
     |true=>
      rw[g,La rfl]at h;simp only[He];have n:(zR r).2≠[]:=by intro e;simp only[e,Xo]at h;exact h rfl
      rw[fH x n];have:=ZO r;simp only;rw[CS x h]
     |false=> rw[g,Ka (by decide)]at h;simp only[Cc,Xd];rw[CS x h]
termination_by q.length
decreasing_by
 all_goals grind
def fq{q:aE}(x:aE)(h:q≠[]):cq (q++x)=cq q++x/\ia (q++x)=ia q:=by
 cases q with
 |nil=>grind
 |cons c r=> unfold cq ia;show(if Hg c then r++x else c::(r++x))=(if Hg c then r else c::r)++x/\_;refine⟨by split<;>rfl,rfl⟩
def yf(q:aE):aE:=cv cm (cq q)
def zCZ{q x:aE}(h:(Zx q).1≠[])(f:q=[46]->cm (cr x 0)=false):Zx (q++x)=((Zx q).1++x,(Zx q).2)/\j6 (q++x)=j6 q:=by
 unfold Zx j6;unfold Zx at h;cases q with
 |nil=>exact absurd rfl h
 |cons c r=>
  have g:(cr ((c::r)++x) 0==46&&cm (cr ((c::r)++x) 1))=(cr (c::r) 0==46&&cm (cr (c::r) 1)):=by
   show(c==46&&cm (cr (r++x) 0))=(c==46&&cm (cr r 0));cases r with
   |nil=>
    cases a:c==46 with
    |false=>rfl
    |true=> rw[Fb]at a;subst a;show(true&&cm (cr x 0))=(true&&cm (cr [] 0));rw[f rfl];rfl
   |cons d t=>rfl
  rw[g];cases e:(cr (c::r) 0==46&&cm (cr (c::r) 1))with
  |false=>grind
  |true=>
   rw[e,La rfl]at h;simp only[He];rw[show((c::r)++x).drop 1=r++x from rfl,show(c::r).drop 1=r from rfl];have b:cv cm r≠[]:=h;rw[Mo x b,uD x b]
   grind
def zPW{w x:aE}(m:w≠[])(h: ∀r,cV w=some r->r≠[])(hn:cV w=none->cV (w++x)=none):
  cV (w++x)=(cV w).map (· ++x)/\j5 (w++x)=j5 w:=by
 have j: ∀q:aE,j5 q=if(cV q).isSome then some (cr q 0,ia (q.drop 1),(cq (q.drop 1)).takeWhile cm)else none:=by
  intro q;unfold j5 cV;cases cr q 0==101||cr q 0==69 with
  |false=>rfl
  |true=>
   grind
 cases d:cV w with
 |none=>
  grind
 |some r=>
  have hr:=h r d;cases w with
  |nil=>grind
  |cons c t=>
   have a:=d;unfold cV at a;cases h1:cr (c::t) 0==101||cr (c::t) 0==69 with
   |false=>grind
   |true=>
    rw[h1,La rfl]at a;cases h2:cm (cr (cq ((c::t).drop 1)) 0)with
    |false=>grind
    |true=>
     rw[h2,La rfl]at a;have f:cv cm (cq t)=r:=by injection a
     have ht:t≠[]:=by rintro rfl;exact absurd (show cm (cr (cq []) 0)=true from h2) (by decide)
     obtain⟨k,l⟩:=fq x ht;have i:cq t≠[]:=by intro e;rw[show(c::t).drop 1=t from rfl,e]at h2;exact absurd h2 (by decide)
     have b:cV ((c::t)++x)=some (r++x):=by unfold cV;rw[show cr ((c::t)++x) 0=cr (c::t) 0 from rfl,h1,La rfl,show((c::t)++x).drop 1=t++x from rfl,k];have:cr (cq t++x) 0=cr (cq t) 0:=Nj x (Oe.2 i);rw[this,show cm (cr (cq t) 0)=true from h2,La rfl,Mo x (by grind),f]
     refine⟨by rw[b];rfl,?_⟩;rw[j,j,b,d];simp only[Option.isSome_some,He];rw[show((c::t)++x).drop 1=t++x from rfl,show(c::t).drop 1=t from rfl,k,l,uD x (by grind)];rfl
def Jk(q:aE):Za q=(match cV (Zx (yf q)).1 with|some r=>(r,false)|none=>Zx (yf q)):=rfl
def yR{q x:aE}(h:(Za q).1≠[])(j:yf q=[46]->cm (cr x 0)=false)(l:cV (Zx (yf q)).1=none->cV ((Zx (yf q)).1++x)=none):
  Za (q++x)=((Za q).1++x,(Za q).2)/\ga (q++x)=ga q:=by
 rw[Jk]at h;have a: ∀r,cV (Zx (yf q)).1=some r->r≠[]:=by intro r p;rw[p]at h;exact h
 have b:(Zx (yf q)).1≠[]:=by intro e;rw[e,show cV []=none from rfl]at h;exact h e
 have c:yf q≠[]:=by intro e;rw[e]at b;exact b rfl
 have n:q≠[]:=by rintro rfl;exact c rfl
 obtain⟨d,k⟩:=fq x n;have f:yf (q++x)=yf q++x:=by unfold yf;rw[d];exact Mo x c
 obtain⟨i,m⟩:=zCZ b j;obtain⟨s,o⟩:=zPW b a l;have g: ∀z:aE,ga z=⟨ia z,(cq z).takeWhile cm,j6 (yf z),j5 (Zx (yf z)).1⟩:=λz=>rfl;constructor
 ·rw[Jk,Jk,f,i]
  grind
 ·rw[g,g,k,d,uD x c,f,i,m,o]
def gi(c:UInt8)(r:aE):Nat:=
 if dj c then 0
 else if c==34||c==39 then 1
 else if c==35&&(cM (cr r 0)||cF r)then 2
 else if iS (c::r)then 3
 else if [45,45,62].isPrefixOf (c::r)then 4
 else if [60,33,45,45].isPrefixOf (c::r)then 5
 else if c==64&&d6 r then 6
 else if d6 (c::r)then 7
 else if vg c==0 then 8
 else 9
def nxB:Nat->UInt8->aE->ze×aE
 |0,c,r=>(Li 13,cv dj (c::r))
 |1,c,r=>(Sl (ZE c r).1,(ZE c r).2)
 |2,_,r=>(⟨4,(zJ r).1,0,[],d6 r⟩,(zJ r).2)
 |3,c,r=>Zb (c::r)
 |4,c,r=>(Li 15,(c::r).drop 3)
 |5,c,r=>(Li 14,(c::r).drop 4)
 |6,_,r=>(⟨3,(zJ r).1,0,[],false⟩,(zJ r).2)
 |7,c,r=>QG (c::r)
 |8,c,r=>(⟨9,[c],0,[],false⟩,r)
 |_+9,c,r=>(Li (vg c),r)
def cK(c:UInt8)(r:aE):nxB 0 c r=(Li 13,cv dj (c::r)):=by rw[nxB]
def Xy(c:UInt8)(r:aE):nxB 1 c r=(Sl (ZE c r).1,(ZE c r).2):=by rw[nxB]
def Br(c:UInt8)(r:aE):nxB 2 c r=(⟨4,(zJ r).1,0,[],d6 r⟩,(zJ r).2):=by rw[nxB]
def El(c:UInt8)(r:aE):nxB 3 c r=Zb (c::r):=by rw[nxB]
def KQ(c:UInt8)(r:aE):nxB 4 c r=(Li 15,(c::r).drop 3):=by rw[nxB]
def JQ(c:UInt8)(r:aE):nxB 5 c r=(Li 14,(c::r).drop 4):=by rw[nxB]
def Wy(c:UInt8)(r:aE):nxB 6 c r=(⟨3,(zJ r).1,0,[],false⟩,(zJ r).2):=by rw[nxB]
def Uk(c:UInt8)(r:aE):nxB 7 c r=QG (c::r):=by rw[nxB]
def SC(c:UInt8)(r:aE):nxB 8 c r=(⟨9,[c],0,[],false⟩,r):=by rw[nxB]
def bK(c:UInt8)(r:aE):nxB 9 c r=(Li (vg c),r):=rfl
def QK(c:UInt8)(r:aE):qf (c::r)=nxB (gi c r) c r:=by
 rw[ow];unfold gi;split
 ·rfl
 ·split
  ·rfl
  ·split
   ·rfl
   ·split
    ·rfl
    ·split
     ·rfl
     ·split
      ·rfl
      ·split
       ·rfl
       ·split
        ·rfl
        ·split<;>rfl
def br_4{c:UInt8}{r:aE}:gi c r=4->[45,45,62].isPrefixOf (c::r)=true:=by unfold gi;grind
def br_5{c:UInt8}{r:aE}:gi c r=5->[60,33,45,45].isPrefixOf (c::r)=true:=by unfold gi;grind
def br_9{c:UInt8}{r:aE}:gi c r=9-> ¬(vg c==0)=true:=by unfold gi;grind
def OY(c:UInt8)(r:aE):gi c r<=9:=by unfold gi;grind
def brK(k:Int):Nat:=
 if k=13 then 0 else if k=5\/k=6 then 1 else if k=4 then 2 else if k=10\/k=11\/k=12 then 3 else if k=15 then 4 else if k=14 then 5 else if k=3 then 6
 else if k=1\/k=2\/k=7\/k=8 then 7 else if k=9 then 8 else 9
def zNf(c:UInt8):vg c=0\/(16<=vg c/\vg c<=24):=by
 have: ∀n:Nat,n<256->vg (UInt8.ofNat n)=0\/(16<=vg (UInt8.ofNat n)/\vg (UInt8.ofNat n)<=24):=by decide+kernel
 have:=this c.toNat (Kb c);simp_all
def zND(o:Option aE):(Sl o).u=5\/(Sl o).u=6:=by cases o<;>simp[Sl]
def fT(o:Option aE):(Xi o).u=7\/(Xi o).u=8:=by cases o<;>simp[Xi]
def zG5(l:aE):(QG l).1.u=1\/(QG l).1.u=2\/(QG l).1.u=7\/(QG l).1.u=8:=by
 unfold QG;split
 ·split
  ·exact .inr (.inr (fT _))
  grind
 ·exact .inl rfl
def zB9(l:aE):(Zb l).1.u=10\/(Zb l).1.u=11\/(Zb l).1.u=12:=by
 unfold Zb
 grind
def jX{i:Nat}(h:i<=9):i=0\/i=1\/i=2\/i=3\/i=4\/i=5\/i=6\/i=7\/i=8\/i=9:=by omega
def Mq(c:UInt8)(r:aE):brK (qf (c::r)).1.u=gi c r:=by
 rw[QK];rcases jX (OY c r)with h|h|h|h|h|h|h|h|h|h
 ·rw[h];rfl
 ·rw[h,Xy];show brK (Sl (ZE c r).1).u=1;rcases zND (ZE c r).1 with h|h<;>rw[h]<;>rfl
 ·rw[h];rfl
 ·rw[h,El];rcases zB9 (c::r)with h|h|h<;>rw[h]<;>rfl
 ·rw[h];rfl
 ·rw[h];rfl
 ·rw[h];rfl
 ·rw[h,Uk];rcases zG5 (c::r)with h|h|h|h<;>rw[h]<;>rfl
 ·rw[h];rfl
 ·have b:=zNf c;have a:=br_9 h;rw[Fb]at a;rw[h,bK];show brK (vg c)=9;unfold brK
  repeat rw[Ka (by omega)]
def zJf{q x:aE}(h:(QG q).2≠[]):QG (q++x)=((QG q).1,(QG q).2++x):=by
 have g:(zJ q).2≠[]:=by intro e;unfold QG at h;rw[e,Ka (by decide)]at h;exact h rfl
 have e:=Ow x g;unfold QG;unfold QG at h;rw[e];simp only;have i:cr ((zJ q).2++x) 0=cr (zJ q).2 0:=Nj x (Oe.2 g);rw[i];cases b:cr (zJ q).2 0==40 with
 |false=>rfl
 |true=>
  rw[b,La rfl]at h;simp only[He];cases f:(zJ q).2 with
  |nil=>grind
  |cons c r=>
   rw[f]at h;rw[show((c::r)++x).drop 1=r++x from rfl];rw[show(c::r).drop 1=r from rfl]at h ⊢;cases j:dr (zJ q).1==[117,114,108]with
   |false=>
    grind
   |true=>
    rw[j,ja]at h;simp only[ja];cases a:cv dj r with
    |nil=>
     rw[a,La (by decide),Xo]at h
     grind
    |cons d t=>
     rw[Mo x (by rw[a];simp),a];rw[a]at h;rw[show cr ((d::t)++x) 0=cr (d::t) 0 from rfl];split
     ·rename_i k;rw[La k]at h;rw[CS x h]
     ·rfl
def bv{q x:aE}{n:Nat}(h:n<=q.length):(q++x).drop n=q.drop n++x:=List.drop_append_of_le_length h
structure zrY (q x:aE):Prop where
 e:Za (q++x)=((Za q).1++x,(Za q).2)
 p:ga (q++x)=ga q
 n:d6 ((Za q).1++x)=d6 (Za q).1
def zEc{q x:aE}(a:zrY q x)(h:(Zb q).2≠[]):Zb (q++x)=((Zb q).1,(Zb q).2++x):=by
 have f:(Za q).1≠[]:=by intro e;unfold Zb at h;rw[e,Ka (by decide),Ka (by decide)]at h;exact h rfl
 have b:cr ((Za q).1++x) 0=cr (Za q).1 0:=Nj x (Oe.2 f);unfold Zb;unfold Zb at h;rw[a.e,a.p];simp only[a.n,b];cases c:d6 (Za q).1 with
 |true=> rw[c,La rfl]at h;simp only[He];rw[Ow x h]
 |false=>
  simp only[Cc,Xd];cases d:cr (Za q).1 0==37 with
  |true=> simp_all
  |false=>grind
def VF {c:UInt8}{r x:aE}(f:gi c (r++x)=gi c r)(h:(qf (c::r)).2≠[])(e:gi c r=2->d6 (r++x)=d6 r)
  (b:gi c r=3->zrY (c::r) x):qf (c::(r++x))=((qf (c::r)).1,(qf (c::r)).2++x):=by
 rw[QK c (r++x),f];rw[QK]at h ⊢;rcases jX (OY c r)with a|a|a|a|a|a|a|a|a|a
 ·rw[a,cK]at h;rw[a,cK,cK,show c::(r++x)=(c::r)++x from rfl,Mo x h]
 ·rw[a,Xy]at h;rw[a,Xy,Xy,BH x h]
 ·rw[a,Br]at h;rw[a,Br,Br,Ow x h,e a]
 ·have g:=b a;rw[a,El]at h;rw[a,El,El,show c::(r++x)=(c::r)++x from rfl,zEc g h]
 ·have d:=jl (br_4 a);rw[a,KQ,KQ,show c::(r++x)=(c::r)++x from rfl,bv (show 3<=(c::r).length from d)]
 ·have d:=jl (br_5 a);rw[a,JQ,JQ,show c::(r++x)=(c::r)++x from rfl,bv (show 4<=(c::r).length from d)]
 ·rw[a,Wy]at h;rw[a,Wy,Wy,Ow x h]
 ·rw[a,Uk]at h;rw[a,Uk,Uk,show c::(r++x)=(c::r)++x from rfl,zJf h]
 ·rw[a,SC,SC]
 ·rw[a,bK,bK]
def zCW{q:aE}(x:aE)(h:q≠[]):fd (q++x)=fd q++x:=by
 cases q with
 |nil=>grind
 |cons c r=> unfold fd;show(if c==46 then r++x else c::(r++x))=(if c==46 then r else c::r)++x;split<;>rfl
def zLD(q:aE):q.length<=(fd q).length+1:=by
 unfold fd
 grind
def XN(q:aE):q.length<=(cq q).length+1:=by
 unfold cq
 grind
def ut{q:aE}(h:1<=q.length):q≠[]:=by grind
def zSz{q:aE}(x:aE)(h:3<=q.length):iS (q++x)=iS q:=by have b:=XN q;have a:=zLD (cq q);unfold iS;rw[(fq x (ut (by omega))).1,zCW x (ut (by omega)),Nj x (by omega)]
def UL{q:aE}(x:aE)(h:3<=q.length):d6 (q++x)=d6 q:=by unfold d6 cF;rw[bv (by omega),Nj x (show 0<q.length by omega),Nj x (show 1<q.length by omega),Nj x (show 0<(q.drop 1).length by grind),Nj x (show 1<(q.drop 1).length by grind)]
def Kv{m:aE}: ∀{q:aE} (x:aE),m.length<=q.length->m.isPrefixOf (q++x)=m.isPrefixOf q:=by
 induction m with
 |nil=>grind
 |cons a m c=>
  intro q x h;cases q with
  |nil=>grind
  |cons b t=>
   grind
def zRN{c:UInt8}{r:aE}(x:aE)(h:4<=r.length):gi c (r++x)=gi c r:=by
 have e:c::(r++x)=(c::r)++x:=rfl;have hl:(c::r).length=r.length+1:=rfl;unfold gi;rw[e,zSz x (by omega),Kv x (by grind),Kv x (by grind),UL x (q:=r) (by omega),UL x (q:=c::r) (by omega),Nj x (show 0<r.length by omega)];have:cF (r++x)=cF r:=by unfold cF;rw[Nj x (show 0<r.length by omega),Nj x (show 1<r.length by omega)]
 rw[this]
def Uq{w:aE}:cV w=none↔((cr w 0==101||cr w 0==69)&&cm (cr (cq (w.drop 1)) 0))=false:=by
 unfold cV
 grind
def zPY{w:aE}(x:aE)(h:3<=w.length)(a:cV w=none):cV (w++x)=none:=by rw[Uq]at a ⊢;have b:=XN (w.drop 1);rw[Ic]at b;rw[bv (by omega),(fq x (ut (by grind))).1,Nj x (show 0<w.length by omega),Nj x (by omega)];exact a
def zHD(q:aE):(Zx q).1<:+q:=by
 unfold Zx;split
 ·exact(Et _ _).trans (Af 1 q)
 grind
def zR5(q:aE):(Za q).1<:+(Zx (yf q)).1:=by
 rw[Jk];cases h:cV (Zx (yf q)).1 with
 |some r=>exact l6 (Ie _) h
 |none=>grind
def aU(q:aE):(Zb q).2<:+(Za q).1:=by
 unfold Zb;split
 ·exact jm _
 ·split
  ·exact Af 1 _
  grind
def zQD{q:aE}(x:aE)(h:4<=(Za q).1.length):zrY q x:=by have d:=(zR5 q).length_le;have c:=(zHD (yf q)).length_le;obtain⟨a,b⟩:=yR (q:=q) (x:=x) (ut (by omega)) (λe=>by grind) (zPY x (by omega));exact⟨a,b,UL x (by omega)⟩
def zNn{c:UInt8}{r:aE}(x:aE)(h:4<=(qf (c::r)).2.length):qf (c::(r++x))=((qf (c::r)).1,(qf (c::r)).2++x):=by have b:=(Hm c r).length_le;refine VF (zRN x (by omega)) (ut (by omega)) (λ_=>UL x (by omega)) (λa=>zQD x ?_);rw[QK,a,El]at h;have:=(aU (c::r)).length_le;omega
def FL(q y:aE):cF (q++47::y)=cF q:=by
 match q with
 |[]=>rfl
 |[c]=>rfl
 |c::d::t=>rfl
def jC(q y:aE):d6 (q++47::y)=d6 q:=by
 match q with
 |[]=>rfl
 |[c]=> unfold d6;show(if c==45 then fa 47||47==45||cF (47::y)else fa c||cF ([c]++47::y))=(if c==45 then fa 0||0==45||cF []else fa c||cF [c]);rw[FL];rfl
 |c::d::t=> unfold d6;show(if c==45 then fa d||d==45||cF ((d::t)++47::y)else fa c||cF ((c::d::t)++47::y))=(if c==45 then fa d||d==45||cF (d::t)else fa c||cF (c::d::t));rw[FL,FL]
def dY(q y:aE):cm (cr (q++47::y) 0)=cm (cr q 0):=by
 cases q with
 |nil=>rfl
 |cons c t=>rfl
def zCX(q y:aE):cq (q++47::y)=cq q++47::y:=by
 cases q with
 |nil=>rfl
 |cons c t=>exact(fq (47::y) (by simp)).1
def zOa(q y:aE):fd (q++47::y)=fd q++47::y:=by
 cases q with
 |nil=>rfl
 |cons c t=>exact zCW (47::y) (by simp)
def zTv(q y:aE):iS (q++47::y)=iS q:=by unfold iS;rw[zCX,zOa,dY]
def CZ{m:aE}(c: ∀b∈m,b≠47): ∀(q y:aE),m.isPrefixOf (q++47::y)=m.isPrefixOf q:=by
 induction m with
 |nil=>grind
 |cons a m d=>
  intro q y;cases q with
  |nil=>
   grind
  |cons b t=>grind
def zSo(q y:aE):cM (cr (q++47::y) 0)=cM (cr q 0):=by
 cases q with
 |nil=>rfl
 |cons c t=>rfl
def NY(c:UInt8)(r y:aE):gi c (r++47::y)=gi c r:=by have e:c::(r++47::y)=(c::r)++47::y:=rfl;unfold gi;rw[e,zTv,CZ (by decide),CZ (by decide),jC,jC,zSo,FL]
def zR8{w:aE}(y:aE)(a:cV w=none):cV (w++47::y)=none:=by
 cases w with
 |nil=>rfl
 |cons c t=> rw[Uq]at a ⊢;show((c==101||c==69)&&cm (cr (cq (t++47::y)) 0))=false;rw[zCX,dY];exact a
def zSE{q:aE}(y:aE)(h:(Za q).1≠[]):zrY q (47::y):=by obtain⟨a,b⟩:=yR (q:=q) (x:=47::y) h (λ_=>rfl) (zR8 y);exact⟨a,b,jC _ y⟩
def NU{q:aE}(h:(Zb q).2≠[]):(Za q).1≠[]:=by intro e;have:=(aU q).length_le;simp_all
def zQA{c:UInt8}{r:aE}(y:aE)(h:(qf (c::r)).2≠[]):qf (c::(r++47::y))=((qf (c::r)).1,(qf (c::r)).2++47::y):=by refine VF (NY c r y) h (λ_=>jC r y) (λa=>zSE y ?_);rw[QK,a,El]at h;exact NU h
def MQ(c:UInt8)(r x:aE):Prop:=(∃e a,(e=101\/e=69)/\Zx (yf (c::r))=([e,43],a))/\(qf (c::r)).2=[43]/\(qf (c::r)).1.u=12/\cm (cr x 0)=true
def zNs{c:UInt8}{r x:aE}(hb:gi c r=3)(h:(qf (c::r)).2≠[])(U:x≠[])(ht:(Zb ((c::r)++x)).1=(Zb (c::r)).1):
  zrY (c::r) x\/MQ c r x:=by
 have m:qf (c::r)=Zb (c::r):=by rw[QK,hb,El]
 rw[m]at h;have y:=NU h;have n: ∀q:aE,(Zb q).1.u=10->(Zb q).1.la=(Za q).2:=by
  intro q;unfold Zb;split
  ·intro h;cases h
  ·grind
 have M: ∀q:aE,((Zb q).1.u=12↔d6 (Za q).1=true):=by
  intro q;unfold Zb;split
  ·grind
  ·grind
 by_cases J:yf (c::r)=[46]->cm (cr x 0)=false
 ·by_cases hn:cV (Zx (yf (c::r))).1=none->cV ((Zx (yf (c::r))).1++x)=none
  ·obtain⟨a,b⟩:=yR y J hn;refine .inl ⟨a,b,?_⟩
   grind
  ·right;obtain⟨l,o⟩:=Classical.not_imp.1 hn;have f:Za (c::r)=Zx (yf (c::r)):=by rw[Jk,l]
   rw[f]at y;obtain⟨w,fl⟩: ∃w fl,Zx (yf (c::r))=(w,fl):=⟨_,_,rfl⟩;obtain⟨fl,A⟩:=fl;rw[A]at y l o f;simp only at y l o;rw[Uq]at l;rw[Uq]at o;cases w with
   |nil=>grind
   |cons e t=>
    have h2:((e==101||e==69)&&cm (cr (cq (t++x)) 0))=true:=by
     have:((cr ((e::t)++x) 0==101||cr ((e::t)++x) 0==69)&&cm (cr (cq (((e::t)++x).drop 1)) 0))=true:=by
      cases O:((cr ((e::t)++x) 0==101||cr ((e::t)++x) 0==69)&&cm (cr (cq (((e::t)++x).drop 1)) 0))with
      |true=>rfl
      |false=>grind
     exact this
    have h1:((e==101||e==69)&&cm (cr (cq t) 0))=false:=l;rw[Da]at h2;rw[h2.1,ja]at h1;have p:e=101\/e=69:=by have:=h2.1;rw[Pb,Fb,Fb]at this;exact this
    have i:fa e=true/\cM e=true/\(e==45)=false:=by rcases p with rfl|rfl<;>decide
    have s:d6 (e::t)=true:=by unfold d6;rw[show cr (e::t) 0=e from rfl,i.2.2,Ka (by decide),i.1];rfl
    have j:Zb (c::r)=(⟨12,[],(ga (c::r)).val,(zJ (e::t)).1,fl⟩,(zJ (e::t)).2):=by unfold Zb;rw[f,La s]
    rw[j]at h;have h':(zJ (e::t)).2≠[]:=h;have u:t=[43]/\cm (cr x 0)=true:=by
     match t with
     |[]=>rw[Zo,La i.2.1,QW]at h';grind
     |[d]=>
      have E:cq ([d]++x)=if Hg d then x else d::x:=rfl;have hu:cq [d]=if Hg d then []else [d]:=rfl;rw[E]at h2;rw[hu]at h1;cases hs:Hg d with
      |false=>
       rw[hs,Ka (by decide)]at h1 h2;have:=h2.2;rw[show cr (d::x) 0=cr [d] 0 from rfl,h1]at this;cases this
      |true=>
       rw[hs,La rfl]at h2;unfold Hg at hs;rw[Pb,Fb,Fb]at hs;rcases hs with rfl|rfl
       ·grind
       ·rw[Zo,La i.2.1,Zo,La (by decide),QW]at h';grind
     |d::d2::t2=>
      exfalso;have L:1<=(cq (d::d2::t2)).length:=by have:=XN (d::d2::t2);rw[Ha,Ha]at this;omega
      have:=h2.2;rw[(fq x (by simp)).1,Nj x (by omega),h1]at this;cases this
    obtain⟨rfl,v⟩:=u;refine⟨⟨e,fl,p,A⟩,?_,?_,v⟩
    ·rw[m,j];show(zJ [e,43]).2=[43];rw[Zo,La i.2.1,Zo,Ka (by decide),Ka (by decide)]
    ·rw[m,j]
 ·exfalso;obtain⟨k,v⟩:=Classical.not_imp.1 J;have f:Za (c::r)=([46],true):=by rw[Jk,k];rfl
  have j:Zb (c::r)=(⟨10,[],(ga (c::r)).val,[],true⟩,[46]):=by unfold Zb;rw[f,Ka (by decide),Ka (by decide)]
  rw[j]at ht;have hf:=n ((c::r)++x) (by rw[ht]);rw[ht]at hf;have Q:cq (c::r)≠[]:=by intro e;rw[yf,e]at k;cases k
  have e2:yf ((c::r)++x)=46::x:=by unfold yf;rw[(fq x (by simp)).1,Mo x (by unfold yf at k;rw[k];simp)];unfold yf at k;rw[k];rfl
  have A:Zx (46::x)=(cv cm x,false):=by
   unfold Zx;have:cm (cr x 0)=true:=by cases O:cm (cr x 0)with|true=>rfl|false=>grind
   rw[show cr (46::x) 0=46 from rfl,show cr (46::x) 1=cr x 0 from rfl,this];rfl
  have F:(Za ((c::r)++x)).2=false:=by rw[Jk,e2,A];simp only;cases cV (cv cm x)<;>rfl
  rw[F]at hf;cases hf
def zJ1{c:UInt8}{r x:aE}(h:(qf (c::r)).2≠[])(i:x≠[])(ht:(qf (c::(r++x))).1=(qf (c::r)).1):
  (qf (c::(r++x))).2=(qf (c::r)).2++x\/MQ c r x:=by
 have hb:gi c (r++x)=gi c r:=by rw[<-Mq,<-Mq,ht]
 have f:gi c r=2->d6 (r++x)=d6 r:=by intro hi;have:=congrArg ze.la ht;rw[QK,QK,hb,hi,Br,Br]at this;exact this
 by_cases hi:gi c r=3
 ·have d:qf (c::r)=Zb (c::r):=by rw[QK,hi,El]
  have a:qf (c::(r++x))=Zb ((c::r)++x):=by rw[QK,hb,hi,El];rfl
  have b:=ht;rw[d,a]at b;rcases zNs hi h i b with hs|hp
  ·left;rw[VF hb h f (λ_=>hs)]
  ·exact .inr hp
 ·left;rw[VF hb h f (λe=>absurd e hi)]
end Go.Lv.VT
