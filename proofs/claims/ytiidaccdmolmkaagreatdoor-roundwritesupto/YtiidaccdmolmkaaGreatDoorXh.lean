import Derived.Test.YtiidaccdmolmkaaGreatDoorXg
set_option linter.all false
namespace Go.Lv.VT
set_option maxRecDepth 100000
def bn(s:aE):ix s []=(s.length:Int):=by show((cG s []:Nat):Int)=_;unfold cG;grind
def Kl{s r:aE}{c:UInt8}(hr:c::r<:+s):decide (ix s (c::r)<(s.length:Int))=true:=by have:=hr.length_le;rw[Ha]at this;refine Ga ?_;show((cG s (c::r):Nat):Int)<_;unfold cG;grind
def kr(s:aE):decide (ix s []<(s.length:Int))=false:=by rw[bn];grind
def Gj{s q t:aE}(a:q<:+s)(ht:t<:+s)(h:t.length<q.length):s.length - (ix s t).toNat<s.length - (ix s q).toNat:=by rw[sK a,sK ht];exact h
def zKK{s r:aE}(hs:s.length<=9000)(hr:r<:+s)(j:iS r=true):Nu (s,ix s r)=some ((Zb r).1,ix s (Zb r).2):=by
 have a:s.length<=100000:=by omega
 have b:=OU hr;have k:=hr.length_le;have d:=sF r;have e:=congrArg List.length d;rw[Ea]at e;have h1:cG s r<=cG s (Za r).1:=by unfold cG;omega
 have h2:=mi s (Za r).1;unfold Nu;simp only[za,zNG a hr,Aa];rw[zn (by simp_all)];rw[show(ix s r).toNat=cG s r from Oa _,show(ix s (Za r).1).toNat=cG s (Za r).1 from Oa _,vS hr d,zzC (PL j) (by omega)];simp only[Aa,sQ a b];unfold Zb;cases hn:d6 (Za r).1 with
 |true=> rw[Ca,kR a b,La rfl];rfl
 |false=>
  rw[Ba,Oh a b,Ka (by decide)];simp only[Aa,b_37];cases f:cr (Za r).1 0==37 with
  |false=>simp_all
  |true=>
   cases i:(Za r).1 with
   |nil=>rw[i]at f;cases f
   |cons c t=> rw[i]at b;rw[Ca,eW a b,zf,La rfl];rfl
def zNI{s q:aE}{m:UInt8}(hs:s.length<=100000)(hm:m::q<:+s):Su (s,ix s (m::q))=some (Sl (ZE m q).1,ix s (ZE m q).2):=by
 have l:=ZJ hm;unfold Su;simp only[za,Uj hm,Aa,eW hs hm];refine uk (λz=> ∃(p acc:aE),z=(ix s p,(⟨0,[],0,[],false⟩:ze),(⟨5,acc,0,[],false⟩:ze))/\p<:+s/\acc.length+4*p.length<=4*s.length/\(ZE m q).1=(ZE m p).1.map (acc++ ·)/\(ZE m q).2=(ZE m p).2) (λz=>s.length - z.1.toNat) _ ?_
  ⟨q,[],rfl,l,by grind,by simp,rfl⟩
 rintro _ ⟨p,acc,rfl,hp,hl,a,b⟩;cases p with
 |nil=> simp only[kr,Ba];rw[vo]at a b;refine .inr (.inl ⟨_,rfl,?_⟩);rw[a,b];simp only[Ed,Ib];rfl
 |cons c t=>
  have e:=hp.length_le;rw[Ha]at e hl;have ht:=ZJ hp;rw[Rp]at a b;simp only[Kl hp,Ca,Uj hp,Aa,b_is,b_10,b_92,eW hs hp];cases f:c==m with
  |true=> rw[f,La rfl]at a b;refine .inr (.inr ?_);rw[Ca,a,b];simp only[Ed,Ib];rfl
  |false=>
   rw[f,Ka (by decide)]at a b;rw[Ba];cases i:c==10 with
   |true=> rw[i,La rfl]at a b;refine .inr (.inr ?_);rw[Ca,a,b];rfl
   |false=>
    rw[i,Ka (by decide)]at a b;rw[Ba];cases j:c==92 with
    |false=> rw[j,Ka (by decide)]at a b;simp only[Ba,ZF,Aa];rw[zn (Gt hp),show(ix s (c::t)).toNat=cG s (c::t)from Oa _,show(ix s t).toNat=cG s t from Oa _,Ns hp,zn (Zc.2 (by grind))];exact .inl ⟨_,rfl,⟨t,acc++[c],rfl,ht,by grind,by rw[a,XF],b⟩,Gj hp ht (by grind)⟩
    |true=>
     rw[j,La rfl]at a b;simp only[Ca,zQ];cases t with
     |nil=>
      rw[show([]:aE).isEmpty=true from rfl,La rfl]at a b;have:(ix s []==(s.length:Int))=true:=by rw[bn];exact Ff _
      rw[this,Ca];exact .inl ⟨_,rfl,⟨[],acc,rfl,ht,by grind,by rw[a,vo],by rw[b,vo]⟩,Gj hp ht (by simp)⟩
     |cons d u=>
      rw[show(d::u).isEmpty=false from rfl,Ka (by decide),show cr (d::u) 0=d from rfl]at a b;have:(ix s (d::u)==(s.length:Int))=false:=by have h1:=jb (Kl ht);rw[Fa];omega
      rw[this,Ba,Uj ht];simp only[Aa,b_10];have hu:=ZJ ht;cases k:d==10 with
      |true=> rw[k,La rfl]at a b;have h2:cj (ix s (c::d::u)+2)=ix s u:=ix_n (n:=2) hs hp (by simp);rw[Ca,h2];rw[Ha]at hl;exact .inl ⟨_,rfl,⟨u,acc,rfl,hu,by omega,a,b⟩,Gj hp hu (by grind)⟩
      |false=> rw[k,Ka (by decide)]at a b;have h4:=Ut (d::u);have o:=ZO (d::u);rw[Ba,LG hs hp];simp only[Aa];rw[zn (Zc.2 (by omega))];exact .inl ⟨_,rfl,⟨_,acc++(zR (d::u)).1,rfl,(ZT _).trans ht,by grind,by rw[a,Nz],b⟩,Gj hp ((ZT _).trans ht) (by grind)⟩
def uX{s r:aE}(hs:s.length<=100000)(hr:r<:+s):dm (s,ix s r)=some (⟨8,[],0,[],false⟩,ix s (gj r)):=by
 unfold dm;refine uk (λz=> ∃q,z=ix s q/\q<:+s/\gj q=gj r) (λz=>s.length - z.toNat) _ ?_ ⟨r,rfl,hr,rfl⟩;rintro _ ⟨q,rfl,b,a⟩;simp only[za];cases q with
 |nil=> simp only[kr,ZF,Aa,Ba];refine .inr (.inl ⟨_,rfl,?_⟩);rw[kv]at a;rw[<-a,bn,zY (by omega) (by omega),Ka (by omega)]
 |cons c t=>
  have ht:=ZJ b;rw[Ww]at a;simp only[Kl b,zQ,Uj b,Aa,Ca,eW hs b];unfold bne;rw[b_41];cases e:c==41 with
  |true=>
   rw[e,La rfl]at a;rw[Ab,Ba];refine .inr (.inl ⟨_,rfl,?_⟩);rw[eW hs b,<-a];cases t with
   |nil=>rw[bn];split<;>rfl
   |cons d u=>rw[La (jb (Kl ht))]
  |false=>
   rw[e,Ka (by decide)]at a;rw[Va,Ca,Kw hs b];simp only[Aa];cases f:cF (c::t)with
   |true=> rw[f,La rfl]at a;have:=ZO t;rw[Ca,LG hs b];exact .inl ⟨_,rfl,⟨_,rfl,(ZT t).trans ht,a⟩,Gj b ((ZT t).trans ht) (by grind)⟩
   |false=> rw[f,Ka (by decide)]at a;rw[Ba];exact .inl ⟨_,rfl,⟨t,rfl,ht,a⟩,Gj b ht (by grind)⟩
def zTJ(c:UInt8):SK (c.toNat:Int)=some (unB c):=kq (by decide+kernel) c
def zTK{s o:aE}(hs:s.length<=100000)(r:o<:+s):Yt (s,ix s o)=some (Xi (da (cv dj o)).1,ix s (da (cv dj o)).2):=by
 unfold Yt;simp only[za,NF hs r,Aa];have U:=Dm dj r;generalize cv dj o=q at U ⊢;have Z: ∀(p acc:aE),(p=[]\/ ∃t,p=41::t)->p<:+s->(da q).1=(da p).1.map (acc++ ·)->(da q).2=(da p).2->
   (some ((⟨7,acc,0,[],false⟩:ze),if cj (ix s p+1)<(s.length:Int)then cj (ix s p+1)else(s.length:Int)):Option (ze×Int))=some (Xi (da q).1,ix s (da q).2):=by
  rintro p acc hp l a e;rcases hp with rfl|⟨t,rfl⟩
  ·rw[Xo]at a e;rw[a,e,bn,zY (by omega) (by omega),Ka (by omega)];simp only[Ed,Ib,Xi]
  ·rw[jk,La (by decide)]at a e;rw[a,e,eW hs l];have:(if ix s t<(s.length:Int)then ix s t else(s.length:Int))=ix s t:=by
    cases t with
    |nil=>rw[bn];split<;>rfl
    |cons d u=>rw[La (jb (Kl (ZJ l)))]
   rw[this];simp only[Ed,Ib,Xi]
 refine uk (λz=> ∃(p acc:aE),z=(ix s p,(⟨0,[],0,[],false⟩:ze),(⟨7,acc,0,[],false⟩:ze))/\p<:+s/\acc.length+4*p.length<=4*s.length/\(da q).1=(da p).1.map (acc++ ·)/\(da q).2=(da p).2) (λz=>s.length - z.1.toNat) _ ?_
  ⟨q,[],rfl,U,by grind,by simp,rfl⟩
 rintro _ ⟨p,acc,rfl,hp,hl,a,e⟩;cases p with
 |nil=>
  simp only[kr,ZF,Aa,Ba]
  grind
 |cons c t=>
  have v:=hp.length_le;rw[Ha]at v hl;have ht:=ZJ hp;simp only[Kl hp,zQ,Uj hp,Aa,Ca];unfold bne;rw[b_41];cases L:c==41 with
  |true=>
   grind
  |false=>
   have V:=a;have W:=e;rw[jk,L,Ka (by decide)]at a e;rw[Va,Ca,xD];simp only[Aa];cases n:dj c with
   |true=>
    rw[n,La rfl]at a e;have l:cv dj (c::t)=cv dj t:=by rw[cv,La n]
    have f:cv dj t<:+s:=Dm dj ht;rw[Ca,NF hs hp,l];simp only[Aa];have j:=(Et dj t).length_le;cases y:cv dj t with
    |nil=> rw[y]at a e f j;simp only[kr,ZF,Aa,Ba];refine .inl ⟨_,rfl,⟨[],acc,rfl,f,by grind,by rw[Xo];exact a,by rw[Xo];exact e⟩,Gj hp f (by simp)⟩
    |cons d r'=>
     rw[y]at a e f j;rw[Ha]at j;simp only[Kl f,zQ,Uj f,Aa,Ca,b_41];simp only at a e;cases J:d==41 with
     |true=>
      rw[J,La rfl]at a e;rw[Ab,Ba];refine .inl ⟨_,rfl,⟨d::r',acc,rfl,f,by grind,?_,?_⟩,Gj hp f (by grind)⟩
      ·rw[jk,J,La rfl];exact a
      ·rw[jk,J,La rfl];exact e
     |false=> rw[J,Ka (by decide)]at a e;rw[Va,Ca,uX hs f];refine .inr (.inr ?_);rw[a,e];rfl
   |false=>
    rw[n,Ka (by decide)]at a e;rw[Ba];have M: ∀(K:Bool->Option (LO (Int×ze×ze) (Int×ze×ze) (ze×Int))),((zA (!(bif bif ((c.toNat:Nat):Int)==34 then true else((c.toNat:Nat):Int)==39 then true else((c.toNat:Nat):Int)==40)) (SK (c.toNat:Int)) (default:Bool)).bind λY=>
     (zA (((c.toNat:Nat):Int)==92&& !(bif bif bif ((c.toNat:Nat):Int)==34 then true else((c.toNat:Nat):Int)==39 then true else((c.toNat:Nat):Int)==40 then true else Y)) (qX (s,ix s (c::t))) (default:Bool)).bind λO=>
     K (bif bif bif bif ((c.toNat:Nat):Int)==34 then true else((c.toNat:Nat):Int)==39 then true else((c.toNat:Nat):Int)==40 then true else Y then true else bif ((c.toNat:Nat):Int)==92 then !O else false))=K (c==34||c==39||c==40||unB c||c==92&& !cF (c::t)):=by
     intro K;rw[b_34,b_39,b_40,b_92,zTJ,Kw hs hp];cases c==34<;>cases c==39<;>cases c==40<;>cases unB c<;>cases c==92<;>rfl
    have hh:=M (λb=>bif b then(dm (s,ix s (c::t))).bind λk=>some (LO.ret (k.1,k.2))else
      bif ((c.toNat:Nat):Int)==92 then
       (qw (s,ix s (c::t))).bind λi=>
       ck (zI acc.length i.1.length)<|
       some (LO.again (i.2,(⟨0,[],0,[],false⟩:ze),(⟨7,acc++i.1,0,[],false⟩:ze)))
      else
       ck (decide (0<=ix s (c::t))&&(decide (ix s (c::t)<=cj (ix s (c::t)+1))&&decide (cj (ix s (c::t)+1)<=(s.length:Int))))<|
       ck (zI acc.length (List.drop (ix s (c::t)).toNat (List.take (cj (ix s (c::t)+1)).toNat s)).length)<|
       some (LO.again (cj (ix s (c::t)+1),(⟨0,[],0,[],false⟩:ze),(⟨7,acc++List.drop (ix s (c::t)).toNat (List.take (cj (ix s (c::t)+1)).toNat s),0,[],false⟩:ze))))
    have A: ∀E:Option (LO (Int×ze×ze) (Int×ze×ze) (ze×Int)),E=(bif (c==34||c==39||c==40||unB c||c==92&& !cF (c::t))then(dm (s,ix s (c::t))).bind λk=>some (LO.ret (k.1,k.2))else
      bif ((c.toNat:Nat):Int)==92 then
       (qw (s,ix s (c::t))).bind λi=>
       ck (zI acc.length i.1.length)<|
       some (LO.again (i.2,(⟨0,[],0,[],false⟩:ze),(⟨7,acc++i.1,0,[],false⟩:ze)))
      else
       ck (decide (0<=ix s (c::t))&&(decide (ix s (c::t)<=cj (ix s (c::t)+1))&&decide (cj (ix s (c::t)+1)<=(s.length:Int))))<|
       ck (zI acc.length (List.drop (ix s (c::t)).toNat (List.take (cj (ix s (c::t)+1)).toNat s)).length)<|
       some (LO.again (cj (ix s (c::t)+1),(⟨0,[],0,[],false⟩:ze),(⟨7,acc++List.drop (ix s (c::t)).toNat (List.take (cj (ix s (c::t)+1)).toNat s),0,[],false⟩:ze))))->
      (∃Q,E=some (.again Q)/\(∃(p acc:aE),Q=(ix s p,(⟨0,[],0,[],false⟩:ze),(⟨7,acc,0,[],false⟩:ze))/\p<:+s/\acc.length+4*p.length<=4*s.length/\(da q).1=(da p).1.map (acc++ ·)/\(da q).2=(da p).2)/\s.length - Q.1.toNat<s.length - (ix s (c::t)).toNat)\/
      (∃x,E=some (.out x)/\(some (x.2.2,if cj (x.1+1)<(s.length:Int)then cj (x.1+1)else(s.length:Int)):Option (ze×Int))=some (Xi (da q).1,ix s (da q).2))\/E=some (.ret (Xi (da q).1,ix s (da q).2)):=by
     rintro E rfl;cases m:(c==34||c==39||c==40||unB c||c==92&& !cF (c::t))with
     |true=> rw[m,La rfl]at a e;rw[Ca,uX hs hp];refine .inr (.inr ?_);rw[a,e];rfl
     |false=>
      rw[m,Ka (by decide)]at a e;rw[Ba,b_92];cases F:c==92 with
      |true=> rw[F,La rfl]at a e;have h4:=Ut t;have h5:=ZO t;rw[Ca,LG hs hp];simp only[Aa];rw[zn (Zc.2 (by omega))];exact .inl ⟨_,rfl,⟨_,acc++(zR t).1,rfl,(ZT _).trans ht,by grind,by rw[a,Nz],e⟩,Gj hp ((ZT _).trans ht) (by grind)⟩
      |false=>
       rw[F,Ka (by decide)]at a e;rw[Ba,eW hs hp,zn (Gt hp),show(ix s (c::t)).toNat=cG s (c::t)from Oa _,show(ix s t).toNat=cG s t from Oa _,Ns hp,zn (Zc.2 (by grind))];refine .inl ⟨_,rfl,⟨t,acc++[c],rfl,ht,by grind,by rw[a,XF],e⟩,?_⟩;have:=Gj hp ht (by grind)
       grind
    exact A _ hh
def kK{s r m:aE}(hs:s.length<=100000)(hr:r<:+s)(hm:m.length<=100):Wq (s,ix s r,m)=some (m.isPrefixOf r):=by
 have a:=hr.length_le;have b:cG s r+r.length=s.length:=by unfold cG;omega
 unfold Wq;have e1:cj ((s.length:Int) - ix s r)=(r.length:Int):=by show cj ((s.length:Int) - ((cG s r:Nat):Int))=_;rw[zY (by omega) (by omega)];omega
 have e2:cj (ix s r+(m.length:Int))=((cG s r+m.length:Nat):Int):=yQ hs hm;simp only[e1,e2];by_cases h:m.length<=r.length
 ·rw[Ga (show(r.length:Int)>=(m.length:Int) by omega),Ca];rw[zn (by rw[Ab,Dc,Ga (show(0:Int)<=ix s r by grind),Ga (show ix s r<=((cG s r+m.length:Nat):Int) by grind),Ga (show((cG s r+m.length:Nat):Int)<=(s.length:Int) by omega)];rfl)];rw[show(ix s r).toNat=cG s r from Oa _,Oa,List.drop_take,Rt hr,show cG s r+m.length - cG s r=m.length by omega];congr 1;rw[Gg,Fb,Gf];constructor
  ·grind
  ·rintro⟨t,rfl⟩;grind
 ·rw[Ma (show¬(r.length:Int)>=(m.length:Int) by omega),Ba,zn (by grind)]
  grind
def zSZ{s q:aE}(hs:s.length<=100000)(d:q<:+s):Cu (s,ix s q)=some ((QG q).1,ix s (QG q).2):=by
 have hn:(zJ q).2<:+s:=(jm q).trans d;have h4:=UE q;have f:=d.length_le;have e:(zJ q).1.length<=co:=by unfold co;omega
 unfold Cu;simp only[za,kR hs d,Aa,Oh hs hn];unfold bne QG;rw[b_40];cases a:cr (zJ q).2 0==40 with
 |false=>rfl
 |true=>
  rw[Ab,Ba,La rfl];cases b:(zJ q).2 with
  |nil=>rw[b]at a;cases a
  |cons c r=>
   rw[b]at hn;have hr:=ZJ hn;have hp:=Dm dj hr;rw[eW hs hn,rM e (by decide),Ov,show(c::r).drop 1=r from rfl];simp only[Aa];cases hu:dr (zJ q).1==[117,114,108]with
   |false=>rfl
   |true=>
    rw[Ca,NF hs hr,ja];simp only[Aa,Oh hs hp];rw[b_34,b_39];cases i:cr (cv dj r) 0==34 with
    |true=>rfl
    |false=>
     cases j:cr (cv dj r) 0==39 with
     |true=>rfl
     |false=> rw[zTK hs hr];rfl
def zSX(c:UInt8):vG (c.toNat:Int)=some (vg c):=kq (by decide+kernel) c
def zTI{s q:aE}{c:UInt8}{r:aE}(hs:s.length<=9000)(e:q<:+s)(hc:q=c::r):Yo (s,ix s q)=some ((qf q).1,ix s (qf q).2):=by
 subst hc;have a:s.length<=100000:=by omega
 have hr:=ZJ e;rw[QK];unfold Yo;simp only[za,Uj e,Aa,xD,b_34,b_39,b_35,b_64,Vy,eW a e,NF a e,zNI a e,kR a hr,sQ a hr,zHp a e,kK a e (show([45,45,62]:aE).length<=100 by decide),kK a e (show([60,33,45,45]:aE).length<=100 by decide),sQ a e,zSZ a e,zSX];unfold gi;cases m:dj c with
 |true=>rw[Ca,La rfl,cK];rfl
 |false=>
  rw[Ba,Ka (by decide)];cases o:c==34||c==39 with
  |true=>rw[Ca,La rfl,Xy]
  |false=>
   rw[Ba,Ka (by decide)];have f: ∀(K:Bool->Option (ze×Int)),((zA (decide (ix s r<(s.length:Int))&&c==35) (cl s (ix s r)) 0).bind λp=>(zA (decide (ix s r<(s.length:Int))&&c==35) (Pp (p.toNat:Int)) (default:Bool)).bind λl=>
     (zA (!(bif decide (ix s r<(s.length:Int))then l else false)&&c==35) (qX (s,ix s r)) (default:Bool)).bind λu=>
     K (bif c==35 then bif bif decide (ix s r<(s.length:Int))then l else false then true else u else false))=K (c==35&&(cM (cr r 0)||cF r)):=by
    intro K;cases c==35 with
    |false=>simp_all
    |true=>
     simp only[Nb,ja,Ca,Kw a hr];cases r with
     |nil=> simp only[kr,ZF,Aa,Ba,Va,zQ];rfl
     |cons d t=>
      simp only[Kl hr,zQ,Uj hr,Aa,RF,Ca];rw[show cr (d::t) 0=d from rfl];cases cM d with
      |true=>rfl
      |false=>rfl
   refine(f (λb=>bif b then _ else _)).trans ?_;cases h2:c==35&&(cM (cr r 0)||cF r)with
   |true=>simp only[Ca,He];rw[Br]
   |false=>
    simp only[Ba,Cc,Xd];cases i:iS (c::r)with
    |true=>rw[Ca,zKK hs e i,La rfl,El];rfl
    |false=>
     rw[Ba,Ka (by decide)];cases h3:[45,45,62].isPrefixOf (c::r)with
     |true=> rw[Ca,La rfl,KQ,show(3:Int)=((3:Nat):Int)from rfl,ix_n (n:=3) a e (jl h3)];rfl
     |false=>
      rw[Ba,Ka (by decide)];cases h4:[60,33,45,45].isPrefixOf (c::r)with
      |true=> rw[Ca,La rfl,JQ,show(4:Int)=((4:Nat):Int)from rfl,ix_n (n:=4) a e (jl h4)];rfl
      |false=>
       rw[Ba,Ka (by decide)];have j: ∀(K:Bool->Option (ze×Int)),((zA (c==64) (some (d6 r)) (default:Bool)).bind λk=>K (bif c==64 then k else false))=K (c==64&&d6 r):=by intro K;cases c==64<;>rfl
       refine(j (λb=>bif b then _ else _)).trans ?_;cases x:c==64&&d6 r with
       |true=>simp only[Ca,He];rw[Wy]
       |false=>
        simp only[Ba,Cc,Xd];cases v:d6 (c::r)with
        |true=>rw[Ca,La rfl,Uk]
        |false=>
         rw[Ba,Ka (by decide)];unfold bne;cases hm:vg c==0 with
         |false=>rw[Va,Ca,Ka (by decide),bK];rfl
         |true=> rw[Ab,Ba,La rfl,zn (Gt e),show(ix s (c::r)).toNat=cG s (c::r)from Oa _,show(ix s r).toNat=cG s r from Oa _,Ns e,SC]
def zE1: ∀{l:aE},gc l=none-> ∀q,q<:+l->([42,47]:aE).isPrefixOf q=false
 |[],_,q,a=>by grind
 |c::r,h,q,a=>by
  rw[gc]at h;split at h
  ·cases h
  ·rename_i hc;rcases List.suffix_cons_iff.1 a with rfl|a
   ·rw[pre2];simpa using hc
   ·exact zE1 h q a
def zE2: ∀{l r:aE},gc l=some r-> ∃q,q<:+l/\q=42::47::r/\ ∀p,p<:+l->q.length<p.length->([42,47]:aE).isPrefixOf p=false
 |[],r,h=>by cases h
 |c::t,r,h=>by
  rw[gc]at h;split at h
  ·rename_i hc;rw[Da,Fb,Fb]at hc;injection h with h;cases t with
   |nil=>cases hc.2
   |cons d u=>
    refine⟨c::d::u,Ie _,by rw[hc.1,show d=47 from hc.2,<-h];rfl,λp hp hl=> ?_⟩
    grind
  ·rename_i hc;obtain⟨q,h1,h2,h3⟩:=zE2 h;refine⟨q,h1.trans (Yd c t),h2,λp hp hl=> ?_⟩;rcases List.suffix_cons_iff.1 hp with rfl|hp
   ·rw[pre2];simpa using hc
   grind
def AZ{s r:aE}(hs:s.length<=9000)(hr:r<:+s):jw (s,ix s r)=some (ix s (cS r)):=by
 have b:s.length<=100000:=by omega
 have v:([47,42]:aE).length<=100:=by decide
 have x:([42,47]:aE).length<=100:=by decide
 unfold jw;refine uk (λz=> ∃p,z=ix s p/\p<:+s/\cS p=cS r) (λz=>s.length - z.toNat) _ ?_ ⟨r,rfl,hr,rfl⟩;rintro _ ⟨p,rfl,hp,k⟩;simp only[za,kK b hp v,Aa];rw[Ak p]at k;cases f:([47,42]:aE).isPrefixOf p with
 |false=>
  grind
 |true=>
  rw[f,La rfl]at k;have hl:=jl f;rw[show([47,42]:aE).length=2 from rfl]at hl;have h2:cj (ix s p+2)=ix s (p.drop 2):=ix_n (n:=2) b hp hl;have O:=Em hp 2;have Q:(p.drop 2).length+2=p.length:=by rw[Ic];omega
  rw[Ca,h2]
  -- the inner loop: to the comment's end, or the text's
  obtain⟨e,i,y,A⟩: ∃e,e<:+p.drop 2/\(e=[]/\gc (p.drop 2)=none\/ ∃t,e=42::47::t/\gc (p.drop 2)=some t)/\ ∀q,q<:+p.drop 2->e.length<q.length->([42,47]:aE).isPrefixOf q=false:=by
   cases hc:gc (p.drop 2)with
   |none=>exact⟨[],List.nil_suffix, .inl ⟨rfl,rfl⟩,λq l _=>zE1 hc q l⟩
   |some t=>
    obtain⟨q,h1,h2,h3⟩:=zE2 hc
    grind
  have m:e<:+s:=i.trans O;have E:Dg (λ(o:Int)=>
      (zA (decide (o<(s.length:Int))) (Wq (s,o,[42,47])) (default:Bool)).bind λU=>
      bif bif decide (o<(s.length:Int))then !U else false then
       some (LO.again (cj (o+1)))
      else
       some (LO.out o)) (ix s (p.drop 2))=some (LX.out (R:=LO Int Int Int) (ix s e)):=by
   refine qh (λz=> ∃q,z=ix s q/\q<:+p.drop 2/\e<:+q) (λz=>s.length - z.toNat) _ ?_ ⟨p.drop 2,rfl,Ie _,i⟩;rintro _ ⟨q,rfl,l,F⟩;have a:=l.trans O;cases q with
   |nil=>
    simp only[kr,ZF,Aa,Ba]
    grind
   |cons c t=>
    have J:=a.length_le;rw[Ha]at J;simp only[Kl a,zQ,kK b a x,Aa,Ca];rcases List.suffix_cons_iff.1 F with h|h
    ·grind
    ·have:([42,47]:aE).isPrefixOf (c::t)=false:=A _ l (by grind);rw[this,Va,Ca,eW b a];exact .inl ⟨_,rfl,⟨t,rfl,ZJ l,h⟩,Gj a (ZJ a) (by grind)⟩
  rw[Zt E];rcases y with⟨rfl,hc⟩|⟨t,rfl,hc⟩
  ·rw[hc]at k;have L:cj (ix s []+2)=(s.length:Int)+2:=by rw[bn,zY (by omega) (by omega)]
   rw[L,Ka (by omega),<-bn];refine .inl ⟨_,rfl,⟨[],rfl,List.nil_suffix,by rw[<-k];exact Qg rfl⟩,Gj hp List.nil_suffix (by grind)⟩
  ·rw[hc]at k;have L:cj (ix s (42::47::t)+2)=ix s t:=ix_n (n:=2) b m (by simp);have j:=ZJ (ZJ m);have M:(if ix s t<(s.length:Int)then ix s t else(s.length:Int))=ix s t:=by
    cases t with
    |nil=>rw[bn];split<;>rfl
    |cons d u=>rw[La (jb (Kl j))]
   rw[L,M];have:=i.length_le;simp only[Ha]at this;exact .inl ⟨_,rfl,⟨t,rfl,j,k⟩,Gj hp j (by omega)⟩
def zTG{s:aE}(hs:s.length<=9000): ∃sp,KG s=some (Qw s,sp):=by
 have m:s.length<=100000:=by omega
 unfold KG;have hp:=AZ hs (Ie s);rw[<-ix_0]at hp;simp only[za,hp,Aa];have n:=gT s;have:=UU (k:=λ(o5:List ze×List qA)=>(some (o5.1,o5.2):Option (List ze×List qA))) (step:=λ(b:Int×List ze×List qA)=>
   bif decide (b.1<(s.length:Int))then
    (Yo (s,b.1)).bind λf=>
    ck (Zm b.2.1.length 1 56)<|
    ck (Zm b.2.2.length 1 16)<|
    (jw (s,f.2)).bind λo=>
    some (LO.again (o,b.2.1++[f.1],b.2.2++[(⟨b.1,f.2⟩:qA)]))
   else
    some (LO.out (b.2.1,b.2.2))) (λz=> ∃(q:aE) (acc:List ze) (sp:List qA),z=(ix s q,acc,sp)/\q<:+s/\cS q=q/\acc++Qw q=Qw s/\sp.length=acc.length) (λz=>s.length - z.1.toNat) (λy=>y.1=Qw s) ?_
   (s:=(ix s (cS s),[],[])) ⟨cS s,[],[],rfl,yj s,Wo s,by rw[Lb,Ew],rfl⟩
 ·grind
 ·rintro _ ⟨q,acc,sp,rfl,e,i,a,l⟩;cases q with
  |nil=>
   simp only[kr,Ba];rw[Pj (Qg rfl),Ib]at a
   grind
  |cons c r=> have d:(qf (c::r)).2<:+s:=(Hm c r).trans (ZJ e);rw[nk i]at a;have j:=congrArg List.length a;rw[Ea,Ha]at j;simp only[Kl e,Ca,zTI hs e rfl,Aa];rw[zn (G7 (by omega)),zn (ap16 (by omega)),AZ hs d];refine .inl ⟨_,rfl,⟨_,_,_,rfl,(yj _).trans d,Wo _,by rw[Ew,Ja];exact a,by grind⟩,?_⟩;have h1:=(Hm c r).length_le;have h2:=(yj (qf (c::r)).2).length_le;exact Gj e ((yj _).trans d) (by grind)
def lK(c:UInt8):Ru (c.toNat:Int)=some (ew c):=kq (by decide+kernel) c
def jT{l:aE}{i:Nat}(h:i<l.length):List.drop i (List.take (i+1) l)=[l[i]]:=by rw[List.drop_take,show i+1 - i=1 by omega,Eb h];rfl
def PM{l:aE}{i:Nat}(h:i<l.length):(decide (0<=(i:Int))&&(decide ((i:Int)<=((i+1:Nat):Int))&&decide (((i+1:Nat):Int)<=(l.length:Int))))=true:=by
 grind
def tu{i:Nat}(h:i<=1000000):cj ((i:Int)+1)=((i+1:Nat):Int):=by rw[zY (by omega) (by omega)];omega
def putG(f:Nat->UInt8->aE):aE->Nat->aE
 |[],_=>[]
 |c::r,i=>f i c++putG f r (i+1)
def jL {R:Type}{step:aE×Int->Option (LO (aE×Int) aE R)}{l acc:aE}(f:Nat->UInt8->aE)(b:Nat)(hl:l.length<=100000)(d:b<=l.length)(hf: ∀i c,(f i c).length<=4)
  (h1: ∀(i:Nat) (a:aE) (hi:i<l.length),b<=i->a.length<=acc.length+4*l.length->step (a,(i:Int))=some (.again (a++f i l[i],((i+1:Nat):Int))))
  (h2: ∀a,step (a,(l.length:Int))=some (.out a)): ∃out,Dg step (acc,(b:Int))=some (.out out)/\ ∀g:Nat->aE->aE,(∀i,g i []=[])->(∀i c r,g i (c::r)=f i c++g (i+1) r)->out=acc++g b (l.drop b):=by
 have e: ∃g:Nat->aE->aE,(∀i,g i []=[])/\(∀i c r,g i (c::r)=f i c++g (i+1) r):=⟨λi l=>putG f l i,λ_=>rfl,λ_ _ _=>rfl⟩;obtain⟨g,t,k⟩:=e;refine⟨acc++g b (l.drop b),?_,λm n o=> ?_⟩
 ·refine qh (λz=> ∃(i:Nat) (a:aE),z=(a,(i:Int))/\b<=i/\i<=l.length/\a.length<=acc.length+4*i/\a++g i (l.drop i)=acc++g b (l.drop b)) (λz=>l.length - z.2.toNat) _ ?_ ⟨b,acc,rfl,Db _,d,by omega,rfl⟩;rintro _ ⟨i,a,rfl,j,hi,p,s⟩;rcases Ec i l.length with h|h
  ·have:=hf i l[i];refine .inl ⟨_,h1 i a h j (by omega),⟨i+1,_,rfl,by omega,by omega,by grind,?_⟩,by grind⟩;rw[<-s,Eb h,k,Ja]
  grind
 ·congr 1;have: ∀(r:aE) (i:Nat),g i r=m i r:=by
   intro r
   induction r with
   |nil=>grind
   |cons c r u=>grind
  exact this _ _
def z_eq(i k:Nat):(((i:Int)==(k:Int)):Bool)=(i==k):=by
 grind
def z_0(i:Nat):(((i:Int)==0):Bool)=(i==0):=z_eq i 0
def z_1(i:Nat):(((i:Int)==1):Bool)=(i==1):=z_eq i 1
def zS0(b L G F e:Bool):(bif (bif !b then bif (bif G then F else false)then true else e else false)then false else L)=(L&&((b|| !F)|| !G)&& !(!b&&e)):=by
 grind
def zPZ{l:aE}{b:Bool}{i:Nat}{c0:UInt8}(h:(c0==45)=[45].isPrefixOf l):(((bif b then 0 else qC l) - i==0):Bool)=(b|| !(bif i==0 then true else bif i==1 then c0==45 else false)):=by
 rw[h];unfold qC
 grind
def bz{l:aE}(b:Bool)(hl:l.length<=5000):ZV (l,b)=some (cJ (!b&&l==[45]) (bif b then 0 else qC l) l):=by
 unfold ZV;simp only[za];obtain⟨out,ho,L⟩:=jL (R:=aE) (l:=l) (acc:=[]) (step:=λ(d:aE×Int)=>
   bif decide (d.2<(l.length:Int))then
    zK (X:=aE×Int) (
      (cl l d.2).bind λs=>(zA (d.2==1&& !(d.2==0)) (cl l 0) 0).bind λe=>(Pp (s.toNat:Int)).bind λM=>
      zK (X:=aE×Bool) (
        (zA (!b) (ZG (s.toNat:Int)) (default:Bool)).bind λj=>
        bif bif !b then bif bif j then bif d.2==0 then true else bif d.2==1 then(e.toNat:Int)==45 else false else false then true else l==[45]else false then
         some (LX.out (d.1,false))
        else
         some (LX.out (d.1,M))) λf=>
      bif f.2 then
       ck (decide (0<=d.2)&&(decide (d.2<=cj (d.2+1))&&decide (cj (d.2+1)<=(l.length:Int))))<|
       ck (zI f.1.length (List.drop d.2.toNat (List.take (cj (d.2+1)).toNat l)).length)<|
       some (LX.out (f.1++List.drop d.2.toNat (List.take (cj (d.2+1)).toNat l),d.2))
      else
       (Ru (s.toNat:Int)).bind λF=>
       ck (zI f.1.length F.length)<|
       some (LX.out (f.1++F,d.2))) λJ=>
    some (LO.again (J.1,cj (J.2+1)))
   else
    some (LO.out d.1)) (λi c=>i9 (!b&&l==[45]) ((bif b then 0 else qC l) - i) c) 0 (by omega) (by omega) (λi c=>rR _ _ c) (λi a hi _ u=>by
   have d1:decide ((i:Int)<(l.length:Int))=true:=Ga (by omega);rw[Cb]at u;have h0: ∃c0,cl l 0=some c0/\(c0==45)=([45].isPrefixOf l):=by
    cases l with
    |nil=>cases hi
    |cons c0 t=>
     refine⟨c0,rfl,?_⟩
     grind
   obtain⟨c0,v,k⟩:=h0;have m:zI a.length ([l[i]]:aE).length=true:=Zc.2 (by grind);have n:zI a.length (ew l[i]).length=true:=Zc.2 (by have:=Ik l[i];omega);simp only[d1,Ca,zF hi,Aa,RF,il,tu (show i<=1000000 by omega),Oa,jT hi,lK,PM hi,Zd,m,n];simp only[z_0,z_1,v];have p: ∀(e:UInt8),(i=1->e=c0)->((zA (!b) (some (cm l[i])) (default:Bool)).bind λj=>
        bif bif !b then bif bif j then bif i==0 then true else bif i==1 then((e.toNat:Nat):Int)==45 else false else false then true else l==[45]else false then
         some (LX.out (a,false))
        else
         some (LX.out (a,cM l[i])))=(some (LX.out (a,cM l[i]&&(((bif b then 0 else qC l) - i==0)|| !cm l[i])&& !(!b&&l==[45]))):Option (LX (aE×Bool) (LX (aE×Int) (LO (aE×Int) aE aE)))):=by
    intro e x;rw[zPZ k,b_45];have O:(bif i==0 then true else bif i==1 then e==45 else false)=(bif i==0 then true else bif i==1 then c0==45 else false):=by
     by_cases h1:i=1
     ·rw[x h1]
     ·grind
    rw[O,<-zS0];cases b with
    |true=>rfl
    |false=>
     simp only[Va,zQ,Aa,Ca]
     grind
   have Q: ∀(e:UInt8),(i=1->e=c0)->zK ((zA (!b) (some (cm l[i])) (default:Bool)).bind λj=>
        bif bif !b then bif bif j then bif i==0 then true else bif i==1 then((e.toNat:Nat):Int)==45 else false else false then true else l==[45]else false then
         some (LX.out (a,false))
        else
         some (LX.out (a,cM l[i]))) (λ(f:aE×Bool)=>bif f.2 then ck (zI f.1.length ([l[i]]:aE).length)<|some (LX.out (f.1++[l[i]],(i:Int)))else ck (zI f.1.length (ew l[i]).length)<|some (LX.out (f.1++ew l[i],(i:Int))))=(some (LX.out (a++i9 (!b&&l==[45]) ((bif b then 0 else qC l) - i) l[i],(i:Int))):Option (LX (aE×Int) (LO (aE×Int) aE aE))):=by
    intro e x;rw[p e x,zf];simp only[m,n,Zd];unfold i9;cases cM l[i]&&(((bif b then 0 else qC l) - i==0)|| !cm l[i])&& !(!b&&l==[45])<;>rfl
   have y: ∃e,zA (i==1&& !(i==0)) (some c0) 0=some e/\(i=1->e=c0):=by
    match i with
    |0=>simp_all
    |1=>simp_all
    |i+2=>simp_all
   obtain⟨e,A,E⟩:=y;rw[A];simp only[Aa];have:=Q e E;refine(congrArg (λo=>zK o _) this).trans ?_;rw[zf];simp only[tu (show i<=1000000 by omega)]) (λa=>by
   grind)
 rw[show((0:Nat):Int)=(0:Int)from rfl]at ho;rw[Zt ho,L (λi r=>cJ (!b&&l==[45]) ((bif b then 0 else qC l) - i) r) (λi=>by rw[cJ]) (λi c r=>by rw[cJ,show(bif b then 0 else qC l) - i - 1=(bif b then 0 else qC l) - (i+1) by omega])];rfl
def zKE {R:Type}{step:aE×Int->Option (LO (aE×Int) aE R)}{l acc:aE}(p:UInt8->Bool)(hl:l.length<=100000)
  (h1: ∀(i:Nat) (a:aE) (hi:i<l.length),a.length<=acc.length+4*l.length->step (a,(i:Int))=some (.again (a++(bif p l[i]then ew l[i]else [l[i]]),((i+1:Nat):Int))))
  (h2: ∀a,step (a,(l.length:Int))=some (.out a)):Dg step (acc,0)=some (.out (acc++cW p l)):=by
 obtain⟨out,h,b⟩:=jL (λ_ c=>bif p c then ew c else [c]) 0 hl (Yb _) (λ_ c=>by have:=Ik c;grind) (λi a hi _ ha=>h1 i a hi ha) h2;rw[show((0:Nat):Int)=(0:Int)from rfl]at h;rw[h,b (λ_ r=>cW p r) (λ_=>rfl) (λ_ _ _=>rfl)];rfl
def zQ6(c:UInt8):(bif bif bif bif (c.toNat:Int)==10 then true else(c.toNat:Int)==12 then true else(c.toNat:Int)==13 then true else(c.toNat:Int)==34 then true else(c.toNat:Int)==92)=dl c:=by
 have: ∀n:Nat,n<256->(bif bif bif bif (n:Int)==10 then true else(n:Int)==12 then true else(n:Int)==13 then true else(n:Int)==34 then true else(n:Int)==92)=dl (UInt8.ofNat n):=by decide+kernel
 have h:=this c.toNat (Kb c);simp_all
def zRr(c:UInt8):(bif bif bif bif bif dl c then true else decide ((c.toNat:Int)<=32)then true else(c.toNat:Int)==127 then true else(c.toNat:Int)==39 then true else(c.toNat:Int)==40 then true else(c.toNat:Int)==41)=hY c:=by
 have: ∀n:Nat,n<256->(bif bif bif bif bif dl (UInt8.ofNat n)then true else decide ((n:Int)<=32)then true else(n:Int)==127 then true else(n:Int)==39 then true else(n:Int)==40 then true else(n:Int)==41)=hY (UInt8.ofNat n):=by decide+kernel
 have h:=this c.toNat (Kb c);simp_all
def zCz{l:aE}(b:Bool)(hl:l.length<=5000):NB (l,b)=some (cW (bif b then hY else dl) l):=by
 unfold NB;rw[Zt (zKE (l:=l) (bif b then hY else dl) (by omega) (λi a hi ha=> ?_) (λa=> ?_))]
 ·rfl
 ·have d1:decide ((i:Int)<(l.length:Int))=true:=Ga (by omega);rw[Cb]at ha;have c:zI a.length ([l[i]]:aE).length=true:=Zc.2 (by grind);have d:zI a.length (ew l[i]).length=true:=Zc.2 (by have:=Ik l[i];omega);simp only[d1,Ca,za,zF hi,Aa,zQ6,zRr];have e:((bif b then some (LX.out (a,hY l[i]))else some (LX.out (a,dl l[i]))):Option (LX (aE×Bool) (LX (aE×Int) (LO (aE×Int) aE aE))))=some (LX.out (a,(bif b then hY else dl) l[i])):=by cases b<;>rfl
  rw[e,zf];cases (bif b then hY else dl) l[i]with
  |true=>simp only[Ca,lK,Aa,d,Zd,zf,tu (show i<=1000000 by omega)]
  |false=>simp only[Ba,tu (show i<=1000000 by omega),Oa,jT hi,PM hi,Zd,c,zf]
 grind
def H5{k:Nat}(h:k<10):(decide (0<=(k:Int))&&(decide ((k:Int)<=cj ((k:Int)+1))&&decide (cj ((k:Int)+1)<=16)))=true/\List.drop (k:Int).toNat (List.take (cj ((k:Int)+1)).toNat ([48,49,50,51,52,53,54,55,56,57,97,98,99,100,101,102]:aE))=[ie k]:=by
 have: ∀k:Nat,k<10->(decide (0<=(k:Int))&&(decide ((k:Int)<=cj ((k:Int)+1))&&decide (cj ((k:Int)+1)<=16)))=true/\List.drop (k:Int).toNat (List.take (cj ((k:Int)+1)).toNat ([48,49,50,51,52,53,54,55,56,57,97,98,99,100,101,102]:aE))=[ie k]:=by decide+kernel
 exact this k h
def zCx: ∀{n:Nat},n<=1000000000000->QU (n:Int)=some (Lib.decDigits n):=by
 intro n hn;refine ZB (λx:Int=>x.toNat) (λx=>0<=x/\x<=1000000000000) (λx=>Lib.decDigits x.toNat) (λS x a hS=> ?_) ⟨by omega,by omega⟩;obtain⟨m,rfl⟩: ∃m:Nat,x=(m:Int):=⟨x.toNat,by omega⟩;unfold xI;rw[Oa,Lib.decDigits];by_cases h:m<10
 ·obtain⟨h1,h2⟩:=H5 h;rw[Oa]at h2;rw[Ga (by omega),Ca,dif_pos h,zn h1,h2];rfl
 ·have e0:Int.tdiv (m:Int) 10=((m / 10:Nat):Int):=rfl;have e1:cj (Int.tdiv (m:Int) 10)=((m / 10:Nat):Int):=by rw[e0,zY (by omega) (by omega)]
  have e2:Int.tmod (m:Int) 10=((m%10:Nat):Int):=rfl;obtain⟨h1,h2⟩:=H5 (k:=m%10) (by omega);rw[Ma (by omega),Ba,dif_neg h,e1,e2,hS _ ⟨by omega,by omega⟩ (by omega),Oa];simp only[za,Aa];rw[zn h1,h2,zn (Zc.2 (by have:=Kk (u:=m / 10) (by omega);grind))];rfl
def zLA{R:Type}{step:aE->Option (LO aE aE R)}(h1: ∀a c,a.length<=1000->step (a++[c])=if c=48 then some (.again a)else some (.out (a++[c]))):
  ∀l:aE,l.length<=1000->Lib.trimRightB l 48≠[]->Dg step l=some (.out (Lib.trimRightB l 48)):=by
 intro l hl b;refine qh (λa=>Lib.trimRightB a 48=Lib.trimRightB l 48/\a.length<=1000) (λa=>a.length) _ ?_ ⟨rfl,hl⟩;rintro a ⟨ha,d⟩;rcases List.eq_nil_or_concat a with rfl|⟨q,c,rfl⟩
 ·exact absurd ha.symm b
 ·rw[List.concat_eq_append]at*;rw[Ea,Td]at d;rw[h1 q c (by omega)];have e:Lib.trimRightB (q++[c]) 48=if c=48 then Lib.trimRightB q 48 else q++[c]:=by
   unfold Lib.trimRightB;rw[List.reverse_append,List.reverse_singleton,Jd,Ud];by_cases hc:c=48
   ·grind
   ·grind
  grind
def nM{n:Int}(h1: -1000000000000<=n)(h2:n<=1000000000000)(p:Bool):Qp (n,p)=some (cE n p):=by
 refine ZB (λx:Int×Bool=>if x.1<0 then 1 else 0) (λx=> -1000000000000<=x.1/\x.1<=1000000000000) (λx=>cE x.1 x.2) (λS x k hS=> ?_) ⟨h1,h2⟩;obtain⟨n,p⟩:=x;obtain⟨h1,h2⟩: -1000000000000<=n/\n<=1000000000000:=k;unfold wI;simp only;by_cases hn:n<0
 ·have e:cj (0 - n)= -n:=by rw[zY (by omega) (by omega)];omega
  rw[Ga hn,Ca,e,hS (-n,p) ⟨by grind,by grind⟩ (by grind)];simp only[za,Aa];have hb:=pz (m:=n.natAbs) (by omega) p;have d:cE (-n) p=Vg n.natAbs p:=by unfold cE;rw[Ka (by omega),Int.natAbs_neg];rfl
  have f:cE n p=45::Vg n.natAbs p:=by unfold cE;rw[La hn];rfl
  rw[d,f,zn (Zc.2 (by grind))];rfl
 ·obtain⟨m,rfl⟩: ∃m:Nat,n=(m:Int):=⟨n.toNat,by omega⟩;have e0:Int.tdiv (m:Int) 1000=((m / 1000:Nat):Int):=rfl;have em:Int.tmod (m:Int) 1000=((m%1000:Nat):Int):=rfl;have e1:cj (Int.tdiv (m:Int) 1000)=((m / 1000:Nat):Int):=by rw[e0,zY (by omega) (by omega)]
  have e2:cj (Int.tmod (m:Int) 1000+1000)=((1000+m%1000:Nat):Int):=by rw[em,zY (by omega) (by omega)];omega
  have e3:(Int.tmod (m:Int) 1000==0)=(m%1000==0):=by rw[em];exact z_0 _
  have l:cE (m:Int) p=Lib.decDigits (m / 1000)++Kj (m%1000) p:=by unfold cE Vg;rw[Ka (by omega),Int.natAbs_natCast];rfl
  have t:=Kk (u:=m / 1000) (by omega);have b:=jF (m%1000) (by omega);unfold LD at b;simp only[Da,aa,Fb]at b;obtain⟨⟨⟨⟨_,v⟩,_⟩,i⟩,_⟩:=b;rw[Ma hn,Ba,e1,e2,e3,zCx (by omega),zCx (by omega),zE5 (by omega),l];simp only[za,Aa];unfold Kj;rw[i];cases o:m%1000==0 with
  |true=>
   simp only[Ca];cases p with
   |true=>rw[Ca,zn (Zc.2 (by grind))];rfl
   |false=>grind
  |false=>
   rw[Ba,Ba,zn (Ga (by grind))];have j:bi (m%1000)≠[]:=by intro h;rw[h,o]at i;cases i
   rw[show List.drop 1 (49::[ie (m%1000 / 100),ie (m%1000 / 10%10),ie (m%1000%10)])=[ie (m%1000 / 100),ie (m%1000 / 10%10),ie (m%1000%10)]from rfl];rw[Zt (zLA (λa c ha=> ?_) _ (by grind) j)]
   ·rw[zn (Zc.2 (by grind)),show Lib.trimRightB [ie (m%1000 / 100),ie (m%1000 / 10%10),ie (m%1000%10)] 48=bi (m%1000)from rfl,zn (Zc.2 (by grind)),Ja];rfl
   ·have r:cj (((a++[c]).length:Int) - 1)=(a.length:Int):=by rw[Ea,Td,zY (by omega) (by omega)];omega
    have s:cl (a++[c]) (a.length:Int)=some c:=by rw[zF (by grind)];simp
    simp only[r,s,Aa,b_48,Oa];by_cases hc:c=48
    ·rw[Fb.2 hc,Ca,La hc,Ga (by omega),Ga (by grind),List.take_left];rfl
    grind
mutual
/-- The declarations of a condition, in order. -/
def Yg:zh->List Zv
 |⟨k,_,_,d,l⟩=>bif k==7 then [d]else PD l
def PD:List zh->List Zv
 |[]=>[]
 |c::r=>Yg c++PD r
end
def iU: ∀l:List zh,PD l=l.flatMap Yg
 |[]=>by rw[PD];rfl
 |c::r=>by rw[PD,iU r,List.flatMap_cons]
def jv(c:zh):Yg c=bif c.u==7 then [c.decl]else c.w.flatMap Yg:=by obtain⟨⟩:=c;rw[Yg,iU]
def Yh{y:zh}: ∀{l:List zh},y∈l->cC y<=(l.map cC).sum
 |[],h=>by cases h
 |c::r,h=>by
  rw[Xb,xc];rcases ib.1 h with rfl|h
  ·omega
  ·have:=Yh h;omega
def zMr: ∀{c:zh},d8 c=true-> ∀d∈Yg c,Qm d=true:=by
 have e: ∀(n:Nat) (c:zh),cC c<=n->d8 c=true-> ∀d∈Yg c,Qm d=true:=by
  intro n
  induction n with
  |zero=>intro c hc;have:=Gm c;omega
  |succ n k=>
   intro c hc hs d a;rw[jv]at a;rw[ol]at hs;cases i:c.u==7 with
   |true=> rw[i,Ca]at hs a;simp only[Da]at hs;rw[jc.1 a];exact hs.2.2.2
   |false=>
    rw[i,Ba]at hs a;obtain⟨y,b,a⟩:=We.1 a;have f:cC y<=n:=by have h1:=ui c;have h2:=Yh b;omega
    refine k y f ?_ d a;cases j:c.u==8 with
    |true=>
     rw[j,Ca]at hs;simp only[Da,jd]at hs;rw[hs.1]at b;cases b
    |false=>
     rw[j,Ba]at hs;cases h3:c.u==3<;>rw[h3]at hs<;>simp at hs
     all_goals first|exact hs.2.2 y b|exact hs.2.2.2 y b|exact hs.2 y b|skip
 intro c hs;exact e _ c (Db _) hs
def xN{l:List zh}(h:Pv l=true){y:zh}(a:y∈l): ∃f,Ki f y=true:=by
 obtain⟨i,hi,rfl⟩:=Rf a;have:=Ya.1 h i (Pd.2 hi);refine⟨i==0,?_⟩
 rwa [Lc,Na hi]at this
def zRA{A S X R:Type}(k:X->Option R)(st:Nat->A->S)(Q:R->Prop)(i:Nat):LO S X R->Prop
 | .again s=> ∃a,s=st (i+1) a
 | .ret r=>Q r
 | .out x=> ∃r,k x=some r/\Q r
def Ends{S X R:Type}(k:X->Option R)(Q:R->Prop):LO S X R->Prop
 | .again _=>False
 | .ret r=>Q r
 | .out x=> ∃r,k x=some r/\Q r
def OT {A S X R:Type}{step:S->Option (LO S X R)}{k:X->Option R}(n:Nat)(st:Nat->A->S)(Q:R->Prop){s0:S}{a0:A}(h0:s0=st 0 a0)
  (b: ∀(i:Nat) (a:A),i<n-> ∃o,step (st i a)=some o/\zRA k st Q i o) (hf: ∀a,∃o,step (st n a)=some o/\Ends k Q o): ∃r,zM step s0 k=some r/\Q r:=by
 refine Jt n st (λ_ _=>True) Q h0 trivial (λi a hi _=> ?_) (λa _=> ?_)
 ·obtain⟨o,h1,h2⟩:=b i a hi;cases o with
  |again s=>obtain⟨c,rfl⟩:=h2;exact .inl ⟨c,h1,trivial⟩
  |ret r=>exact .inr (.inl ⟨r,h1,h2⟩)
  |out x=>exact .inr (.inr ⟨x,h1,h2⟩)
 ·obtain⟨o,h1,h2⟩:=hf a;cases o with
  |again s=>exact h2.elim
  |ret r=>exact .inr ⟨r,h1,h2⟩
  |out x=>exact .inl ⟨x,h1,h2⟩
inductive Cuts (k:Int):List zo->List (List zo)->Prop
 |one (p:List zo) (h: ∀x∈p,(x.kd.u==k)=false):Cuts k p [p]
 |more (p:List zo) (s:zo) (v:List zo) (ps:List (List zo)) (h: ∀x∈p,(x.kd.u==k)=false) (hs:(s.kd.u==k)=true) (hc:Cuts k v ps):Cuts k (p++s::v) (p::ps)
def OQ(l:List zo):Prop:= ∀t v,l=t++[v]->ei v=false
def pu(l:List zo):Prop:= ∀a t,l=a::t->ei a=false
def OQ.id{l:List zo}(h:OQ l):gC l=l:=by
 rcases MO l with rfl|⟨t,v,rfl⟩
 ·rfl
 ·rw[lG,h t v rfl];rfl
def pu.pre{a b:List zo}(h:pu (a++b)):pu a:=λx t e=>h x (t++b) (by rw[e];rfl)
def pu.id{l:List zo}(h:pu l):l.dropWhile ei=l:=by
 cases l with
 |nil=>rfl
 |cons a t=>rw[Ud,h a t rfl];rfl
--< pulled
--p zValue_pos
--p sp
abbrev sp(l:List zo):List zo:=l.dropWhile ei
--p sp_nil
--p sp_cons
--p sp_sub
--p sp_len
--p sp_idem
--p EndS
--p trimB_idem
--p end_tail
--p end_sp
--p trimS_end
--p sp_pre
--p wE
def wE {α A S X R:Type}{step:S->Option (LO S X R)}{k:X->Option R}(l:List α)(f:A->α->A)(st:A->Nat->S)(out:A->X){s0:S}{a0:A}(h0:s0=st a0 0)
  (e: ∀(i:Nat) (a:A) (h:i<l.length),step (st a i)=some (.again (st (f a l[i]) (i+1))))
  (hf: ∀a:A,step (st a l.length)=some (.out (out a))):zM step s0 k=k (out (l.foldl f a0)):=by
 have d: ∀(m:List α) (i:Nat) (a:A),l.drop i=m->i<=l.length-> ∃n,ZP step n (st a i)=some (.out (out (m.foldl f a))):=by
  intro m
  induction m with
  |nil=>
   intro i a b hi;have:i=l.length:=by have:=Ad.1 b;omega
   subst this;exact⟨1,by simp only[ZP,hf,List.foldl_nil]⟩
  |cons v m j=>
   intro i a b hi;have c:i<l.length:=by
    rcases Ec i l.length with h|h
    ·exact h
    ·rw[Je h]at b;cases b
   have hv:l[i]=v:=by have:=Eb c;rw[b]at this;injection this with h1 _;exact h1.symm
   have hs:=e i a c;rw[hv]at hs;obtain⟨n,hn⟩:=j (i+1) (f a v) (by rw[Eb c]at b;injection b) (by omega);refine⟨n+1,?_⟩;simp only[ZP,hs];rw[hn,Xf]
 obtain⟨n,hn⟩:=d l 0 a0 rfl (by omega);rw[h0,Di (qM hn)];rfl
--> pulled
def bF{S X R:Type}{step:S->Option (LO S X R)}{k:X->Option R}(n:Nat)(st:Nat->S)(x:X){s0:S}(h0:s0=st 0)(c: ∀i,i<n->step (st i)=some (.again (st (i+1))))(hf:step (st n)=some (.out x)):zM step s0 k=k x:=by
 have a: ∀(m i:Nat),i+m=n-> ∃j,ZP step j (st i)=some (.out x):=by
  intro m
  induction m with
  |zero=>
   intro i hi;obtain rfl:i=n:=by omega
   exact⟨1,by simp only[ZP,hf]⟩
  |succ m d=> intro i hi;obtain⟨j,b⟩:=d (i+1) (by omega);exact⟨j+1,by simp only[ZP,c i (by omega)];exact b⟩
 obtain⟨j,b⟩:=a n 0 (by omega);rw[h0,Go.Lv.Zt (qM b)]
mutual
def lfC:zh->Bool
 |⟨k,_,_,_,l⟩=>bif k==4||(k==5||(k==6||(k==7||k==8)))then l.isEmpty else(bif k==3 then l.length==1 else k==1||k==2)&&lfCs l
def lfCs:List zh->Bool
 |[]=>true
 |c::r=>lfC c&&lfCs r
end
def p8: ∀l:List zh,lfCs l=l.all lfC
 |[]=>by rw[lfCs];rfl
 |c::r=>by rw[lfCs,p8 r];rfl
def NZ(c:zh):lfC c=bif c.u==4||(c.u==5||(c.u==6||(c.u==7||c.u==8)))then c.w.isEmpty else(bif c.u==3 then c.w.length==1 else c.u==1||c.u==2)&&c.w.all lfC:=by obtain⟨⟩:=c;rw[lfC,p8]
def zSp: ∀{c:zh},d8 c=true->lfC c=true:=by
 have b: ∀(n:Nat) (c:zh),cC c<=n->d8 c=true->lfC c=true:=by
  intro n
  induction n with
  |zero=>intro c hc;have:=Gm c;omega
  |succ n j=>
   intro c hc hs;rw[ol]at hs;rw[NZ];have k:=ui c;have ha:(c.w.all d8)=true->c.w.all lfC=true:=λh=>Ya.2 λy f=>j y (by have:=Yh f;omega) (Ya.1 h y f);cases d:c.u==7 with
   |true=> rw[d,Ca]at hs;simp only[Da]at hs;simp only[Uc,Be,Ca];exact hs.1
   |false=>
    cases i:c.u==8 with
    |true=> rw[d,i,Ba,Ca]at hs;simp only[Da]at hs;simp only[Uc,Be,Ca];exact hs.1
    |false=>
     rw[d,i,Ba,Ba]at hs;simp only[Da]at hs;obtain⟨hk,_,hl,a⟩:=hs;have h4:(c.u==4||(c.u==5||(c.u==6||(false||false))))=false:=by simp only[Pb,Fb]at hk;rcases hk with e|e|e<;>rw[e]<;>rfl
     rw[h4,Ba,ha a,Nb];cases h3:c.u==3 with
     |true=>rw[h3]at hl;exact hl
     |false=>rw[h3,Ac]at hk;exact hk
 intro c hs;exact b _ c (Db _) hs
end Go.Lv.VT
