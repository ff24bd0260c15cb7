/- A name, written and read. -/
import Derived.Test.YtagibnnojbolnaaGreatDoorXe
import Derived.Test.YtagibnnojbolnaaGreatDoorXa
import Derived.Test.YtagibnnojbolnaaGreatDoorTy
set_option linter.unusedSimpArgs false
set_option linter.unusedVariables false
namespace Go.Lv.VT
set_option maxRecDepth 100000
theorem PU{s r:Str}:(decide ((0:Int)<=(beh s r:Int))&&decide ((beh s r:Int)<=(s.length:Int)))=true:=by
 have:=Wm s r
 grind
theorem WN{s r:Str}(a:r<:+s):List.drop ((beh s r:Int)).toNat s=r:=by rw[Cb,Hu a]
theorem uy(m:UInt8):Z0 m []=(some [],[]):=by rw[Z0]
theorem tK(m c:UInt8)(r:Str):Z0 m (c::r)=if c==m then(some [],r)
  else if c==10 then(none,c::r)
  else if c==92 then
   (if r.isEmpty then(some [],[])
   else if atS r 0==10 then Z0 m (r.drop 1)
   else((Z0 m (Zh r).2).1.map ((Zh r).1++ ·),(Z0 m (Zh r).2).2))
  else((Z0 m r).1.map (c:: ·),(Z0 m r).2):=by rw[Z0]
theorem bu(m:UInt8)(l:Str):(Z0 m l).2<:+l:=by
 match l with
 |[]=>rw[uy];grind
 |c::r=>
  rw[tK];have a:=Oe c r;split
  ·exact a
  ·split
   ·grind
   ·split
    ·split
     ·grind
     ·split
      ·exact(bu m (r.drop 1)).trans ((Cf 1 r).trans a)
      ·have:=ZW r;exact(bu m (Zh r).2).trans ((Qh r).trans a)
    ·exact(bu m r).trans a
termination_by l.length
decreasing_by
 all_goals grind
theorem BO(a b:Str)(x:Option Str):(x.map (b++ ·)).map (a++ ·)=x.map ((a++b)++ ·):=by
 cases x with
 |none=>rfl
 |some t=>grind
theorem NY(a:Str)(b:UInt8)(x:Option Str):(x.map (b:: ·)).map (a++ ·)=x.map ((a++[b])++ ·):=BO a [b] x
def WI:Option Str->zg
 |some t=>⟨5,t,0,[],false⟩
 |none=>⟨6,[],0,[],false⟩
theorem zMJ{s q:Str}{m:UInt8}(k:s.length<=big)(w:m::q<:+s):iH (sr s (m::q))=some (WI (Z0 m q).1,sr s (Z0 m q).2):=by
 have J:big=4194304:=rfl;have D:=Kk w;unfold iH;simp only[za,Mh k w,Aa,Kq,Ei k w]
 let g:LX (ze×zg×List UInt8) (zg×ze):=match(Z0 m q).1 with
  |some t=> .out (sr s (Z0 m q).2,⟨0,[],0,[],false⟩,t)
  |none=> .ret (⟨6,[],0,[],false⟩,sr s (Z0 m q).2)
 rw[qP (r:=g)]
 ·show LX.go g _=_;cases h:(Z0 m q).1 with
  |some t=>simp only[g,h];rfl
  |none=>simp only[g,h];rfl
 refine QA (fun z=> ∃(p e:Str),z=(sr s p,⟨0,[],0,[],false⟩,e)/\p<:+s/\e.length+4*p.length<=4*s.length/\(Z0 m q).1=(Z0 m p).1.map (e++ ·)/\(Z0 m q).2=(Z0 m p).2) (fun z=>s.length - z.1.at_.toNat) _ ?_
  ⟨q,[],rfl,D,by grind,by simp,rfl⟩
 rintro _ ⟨p,e,rfl,j,C,b,a⟩;simp only[Mh k j,Aa,Dq,gM,fU];cases p with
 |nil=>
  refine .inr (.inl ⟨_,rfl,?_⟩);rw[uy]at b a
  grind
 |cons c t=>
  have i:=j.length_le;rw[Ga]at i C;have n:=Kk j;rw[tK]at b a;rw[show(c::t).isEmpty=false from rfl,Ba,Kq,show((c.toNat:Int)==(m.toNat:Int))=(c==m)from BC c m,show atS (c::t) 0=c from rfl,Ei k j];have f: ∀u:Str,u.length<=t.length->u<:+s->s.length - beh s u<s.length - beh s (c::t):=by intro u A F;unfold beh;rw[Ga];omega
  cases v:c==m with
  |true=>
   grind
  |false=>
   rw[v,Oa (by decide)]at b a;rw[Ba];cases y:c==10 with
   |true=>
    grind
   |false=>
    rw[y,Oa (by decide)]at b a;rw[Ba];cases l:c==92 with
    |false=> rw[l,Oa (by decide)]at b a;simp only[zF,Ba,Aa,Lc,Fx];rw[ZQ (Kj (by omega))];exact .inl ⟨_,rfl,⟨t,e++[c],rfl,n,by grind,by rw[b,NY],a⟩,f t (by omega) n⟩
    |true=>
     rw[l,Sa rfl]at b a;simp only[zF,Ca,jA k j,Aa,Rb];have x:pk (c::t) 1=pk t 0:=rfl;rw[x,Dq];cases t with
     |nil=>
      rw[show([]:Str).isEmpty=true from rfl,Sa rfl]at b a;have o:beh s [c]=s.length - 1:=rfl;have G:(if((s.length:Int)<w64 ((beh s [c]:Int)+2))then(s.length:Int)else w64 ((beh s [c]:Int)+2))=((beh s []:Nat):Int):=by rw[QW (by omega) (by omega),Sa (by omega)];unfold beh;rw[Eb];omega
      refine .inl ⟨(sr s [],⟨0,[],0,[],false⟩,e),?_,⟨[],e,rfl,List.nil_suffix,by grind,by rw[b,uy],by rw[a,uy]⟩,f [] (by simp) List.nil_suffix⟩
      grind
     |cons d u=>
      rw[show(d::u).isEmpty=false from rfl,Oa (by decide)]at b a;simp only[show(d::u).isEmpty=false from rfl,Ua,Ca,Ba,Aa,gM];cases B:atS (d::u) 0==10 with
      |true=>
       rw[B,Sa rfl]at b a;have A:=Kk n;rw[Ga]at i C;have o:beh s (c::d::u)=s.length - (u.length+1+1):=by unfold beh;rw[Ga,Ga]
       have G:(if((s.length:Int)<w64 ((beh s (c::d::u):Int)+2))then(s.length:Int)else w64 ((beh s (c::d::u):Int)+2))=((beh s u:Nat):Int):=by rw[QW (by omega) (by omega),Oa (by omega)];unfold beh;rw[Ga,Ga];omega
       refine .inl ⟨(sr s u,⟨0,[],0,[],false⟩,e),?_,⟨u,e,rfl,A,by omega,b,a⟩,f u (by grind) A⟩
       grind
      |false=> rw[B,Oa (by decide)]at b a;have H:=Ux (d::u);have E:=ZW (d::u);refine .inl ⟨(sr s (Zh (d::u)).2,⟨0,[],0,[],false⟩,e++(Zh (d::u)).1),?_,⟨_,_,rfl,(Qh _).trans n,by grind,by rw[b,BO],a⟩,f _ E ((Qh _).trans n)⟩;simp only[Ba,oJ k j (show e.length<=1000000000 by omega),Aa]
theorem KU{n:Nat}(l:n≠0)(h:n<16777216):QY (w32 (n:Int))=some (Xj n):=by
 have j:ZB 0 1 1=true:=Kj (by omega);have f:ZB 0 2 1=true:=Kj (by omega);have d:ZB 0 3 1=true:=Kj (by omega);have g:ZB 0 4 1=true:=Kj (by omega);have c:(128+n%64)<256:=by omega
 have a:(128+n / 64%64)<256:=by omega
 have b:(128+n / 4096%64)<256:=by omega
 unfold QY FM Xj;simp only[Eo (show n<2147483648 by omega),PX (show n<2147483648 by omega),za,shr6,FU,EU,PY,qF c,qF a,qF b,Aa];by_cases e:n<128
 ·rw[Fa (by omega),Ca,Ww,qF (by omega),Aa,ZQ j,Oa (by omega),Sa e,Vf (by omega)]
 ·rw[Ia (by omega),Ba];by_cases i:n<2048
  ·rw[Fa (by omega),Ca,UU (by omega),qF (by omega)];simp only[Aa];rw[ZQ f,Oa (by omega),Oa (by omega),Sa i];rfl
  ·rw[Ia (by omega),Ba];by_cases m:n<55296
   ·rw[Fa (by omega),Ca,zI];simp only[Ca];rw[yH (by omega),qF (by omega)];simp only[Aa];rw[ZQ d,Oa (by omega),Oa (by omega),Oa (by omega),Sa (by omega)];rfl
   ·rw[Ia (by omega),Ba,zI];simp only[LV];by_cases k:57343<n/\n<65536
    ·rw[Fa (by omega),Fa (by omega),Rb,Ca,yH (by omega),qF (by omega)];simp only[Aa];rw[ZQ d,Oa (by omega),Oa (by omega),Oa (by omega),Sa (by omega)];rfl
    ·rw[show(decide ((57343:Int)<(n:Int))&&decide ((n:Int)<=65535))=false by grind,Ba];by_cases o:65535<n/\n<=1114111
     ·rw[Fa (by omega),Fa (by omega),Rb,Ca,kU (by omega),qF (by omega)];simp only[Aa];rw[ZQ g,Oa (by omega),Oa (by omega),Oa (by omega),Oa (by omega)];rfl
     ·rw[show(decide ((n:Int)>65535)&&decide ((n:Int)<=1114111))=false by grind,Ba,ZQ d,Sa (by omega)];rfl
theorem KQ:QY 65533=some Aw:=by have h:=KU (n:=65533) (by omega) (by omega);rw[Eo (by omega)]at h;exact h
theorem zGh{s l:Str}{c:UInt8}(hs:s.length<=big)(hr:c::l<:+s):
  QT (sr s (c::l))=some (sr s (Zh l).2,(Zh l).1):=by
 have hl:=Kk hr;unfold QT;simp only[Ei hs hr,za,Mh hs hl,Aa,Dq];cases l with
 |nil=> rw[show([]:Str).isEmpty=true from rfl,Ca,KQ];rfl
 |cons d r=>
  rw[show(d::r).isEmpty=false from rfl,Ba,mH];simp only[Aa,jC];cases hx:Jg (atS (d::r) 0)with
  |false=>
   rw[Ua,Ca,Kq,Fx];simp only[Aa,Ei hs hl];rw[ZQ (Kj (n:=0) (by omega))];have:Zh (d::r)=([d],r):=by show(if Jg d then _ else _)=_;rw[Oa (by rw[show Jg d=false from hx];decide)]
   rw[this]
  |true=>
   rw[Ya,Ba];have he:Zh (d::r)=(Xj (hexes 6 0 (d::r)).1,unsp (hexes 6 0 (d::r)).2):=by show(if Jg d then _ else _)=_;rw[Sa (show Jg d=true from hx)]
   rw[he];rw[Bn (jX (l:=d::r) hl (fun n i q hq hn hi=> ?_))]
   ·have hq:(hexes 6 0 (d::r)).2<:+s:=(Tx 6 0 _).trans hl;have hlt:=DJ 6 0 (d::r);rw[show 16 ^ 6*(0+1)=16777216 from rfl]at hlt;simp only[Mh hs hq,Aa,Pw];have hj:(bif spB (atS (hexes 6 0 (d::r)).2 0)then some (LX.out (((hexes 6 0 (d::r)).1:Int),(⟨s,w64 ((beh s (hexes 6 0 (d::r)).2:Int)+1)⟩:ze)))else some (LX.out (((hexes 6 0 (d::r)).1:Int),sr s (hexes 6 0 (d::r)).2)):Option (LX (Int×ze) (ze×List UInt8)))
      =some (LX.out (((hexes 6 0 (d::r)).1:Int),sr s (unsp (hexes 6 0 (d::r)).2))):=by
     cases hh:(hexes 6 0 (d::r)).2 with
     |nil=>rfl
     |cons e t=>
      rw[hh]at hq;rw[show atS (e::t) 0=e from rfl,Ei hs hq];show _=some (LX.out (_,sr s (if spB e then t else e::t)))
      grind
    rw[hj,zI];simp only;by_cases h0:(hexes 6 0 (d::r)).1=0
    ·rw[h0,show((((0:Nat):Int))==0)=true from rfl,Ca,zI];simp only[Eo (show 65533<2147483648 by omega),show w32 (65533:Int)=65533 from Eo (n:=65533) (by omega),KQ,Aa];rfl
    ·rw[show(((hexes 6 0 (d::r)).1:Int)==0)=false by grind,Ba,zI];simp only[KU h0 hlt,Aa]
   ·simp only[Mh hs hq,Aa,mH,jC];have hb6:decide ((i:Int)<6)=decide (i<6):=by rw[decide_eq_decide];omega
    rw[hb6];cases decide (i<6)with
    |false=>rfl
    |true=>
     rw[Ca,aa];cases hx2:Jg (atS q 0)with
     |false=>rfl
     |true=>
      cases q with
      |nil=>exact absurd hx2 (by decide)
      |cons e t=>
       have hI:hexI (atS (e::t) 0)=(hexN (atS (e::t) 0):Int):=by unfold hexI;rw[Sa hx2]
       rw[hI,RV hn (yB hx2),Ei hs hq,QW (by omega) (by omega)];rfl
theorem yX:badS []=[]:=by rw[badS]
theorem FP(c:UInt8)(r:Str):badS (c::r)=if c==41 then r else if escS (c::r)then badS (Zh r).2 else badS r:=by rw[badS]
theorem DC(l:Str):badS l<:+l:=by
 match l with
 |[]=>rw[yX];grind
 |c::r=>
  rw[FP];have a:=Oe c r;split
  ·exact a
  ·split
   ·have:=ZW r;exact(DC (Zh r).2).trans ((Qh r).trans a)
   ·exact(DC r).trans a
termination_by l.length
decreasing_by
 all_goals grind
theorem zNC{s t:Str}{c:UInt8}(e:s.length<=big)(h:c::t<:+s):geti s (w64 ((beh s t:Int) - 1))=some c:=by
 have f:big=4194304:=rfl;have b:=h.length_le;rw[Ga]at b;have d:=Hu h;have g:beh s t=beh s (c::t)+1:=by unfold beh;rw[Ga];omega
 have a:beh s (c::t)<s.length:=by unfold beh;rw[Ga];omega
 rw[QW (by omega) (by omega),show(beh s t:Int) - 1=((beh s (c::t):Nat):Int) by omega,zM a];rw[Ab a]at d
 grind
theorem badR{s q:Str}(e:s.length<=big)(j:q<:+s):QX (sr s q)=some (⟨8,[],0,[],false⟩,sr s (badS q)):=by
 unfold QX;refine RJ ?_;refine QA (fun z=> ∃(p:Str),z=(sr s p,(⟨0,[],0,[],false⟩:zg))/\p<:+s/\badS q=badS p) (fun z=>s.length - z.1.at_.toNat) _ ?_ ⟨q,rfl,j,rfl⟩;rintro _ ⟨p,rfl,b,g⟩;simp only[za,Mh e b,Aa,Dq];cases p with
 |nil=>exact .inr (.inr ⟨_,rfl,by rw[g,yX]⟩)
 |cons c t=>
  have d:=b.length_le;rw[Ga]at d;have i:=Kk b;have f: ∀u:Str,u.length<=t.length->u<:+s->s.length - beh s u<s.length - beh s (c::t):=by intro u l k;unfold beh;rw[Ga];omega
  rw[show(c::t).isEmpty=false from rfl,Ba,oI e b];rw[FP]at g;simp only[Aa];cases a:escS (c::t)with
  |true=>
   have h:(c==41)=false:=by unfold escS at a;rw[Da,Db]at a;rw[show c=92 from a.1];decide
   rw[a,h,Oa (by decide),Sa rfl]at g;rw[Ca,zGh e b];exact .inl ⟨_,rfl,⟨_,rfl,(Qh t).trans i,g⟩,f _ (ZW t) ((Qh t).trans i)⟩
  |false=>
   rw[Ba,Ei e b,zNC e b];simp only[Aa];rw[show((c.toNat:Int)==41)=(c==41)from BC c 41]
   grind
theorem aI:urlS []=(some [],[]):=by rw[urlS]
theorem NJ(c:UInt8)(r:Str):urlS (c::r)=if c==41 then(some [],r)
  else if spB c then(match past spB r with
   |[]=>(some [],[])
   |d::a=>if d==41 then(some [],a)else(none,badS (d::a)))
  else if c==34||c==39||c==40||unB c||c==92&& !escS (c::r)then(none,badS (c::r))
  else if c==92 then((urlS (Zh r).2).1.map ((Zh r).1++ ·),(urlS (Zh r).2).2)
  else((urlS r).1.map (c:: ·),(urlS r).2):=by rw[urlS];grind
theorem Rt(l:Str):(urlS l).2<:+l:=by
 match l with
 |[]=>rw[aI];grind
 |c::r=>
  rw[NJ];have a:=Oe c r;split
  ·exact a
  ·split
   ·have b:=(fq spB r).trans a;cases e:past spB r with
    |nil=>grind
    |cons d f=>
     rw[e]at b;simp only;split
     ·exact(Oe d f).trans b
     ·exact(DC _).trans b
   ·split
    ·exact DC _
    ·split
     ·have:=ZW r;exact(Rt (Zh r).2).trans ((Qh r).trans a)
     ·exact(Rt r).trans a
termination_by l.length
decreasing_by
 all_goals grind
def Ls:Option Str->zg
 |some t=>⟨7,t,0,[],false⟩
 |none=>⟨8,[],0,[],false⟩
theorem zM2(c:UInt8): ∃y,zF (!(bif bif bif bif (c.toNat:Int)==34 then true else(c.toNat:Int)==39 then true else(c.toNat:Int)==40 then true else decide ((c.toNat:Int)<=8)then true else(c.toNat:Int)==11)) (yo ((c.toNat:Int),14,31)) (default:Bool)=some y/\
  (bif bif bif bif bif bif (c.toNat:Int)==34 then true else(c.toNat:Int)==39 then true else(c.toNat:Int)==40 then true else decide ((c.toNat:Int)<=8)then true else(c.toNat:Int)==11 then true else y then true else(c.toNat:Int)==127)=(c==34||c==39||c==40||unB c):=by
 have a: ∀n:Nat,n<256->((zF (!(bif bif bif bif (n:Int)==34 then true else(n:Int)==39 then true else(n:Int)==40 then true else decide ((n:Int)<=8)then true else(n:Int)==11)) (yo ((n:Int),14,31)) (default:Bool)).elim false fun y=>
  (bif bif bif bif bif bif (n:Int)==34 then true else(n:Int)==39 then true else(n:Int)==40 then true else decide ((n:Int)<=8)then true else(n:Int)==11 then true else y then true else(n:Int)==127)==(UInt8.ofNat n==34||UInt8.ofNat n==39||UInt8.ofNat n==40||unB (UInt8.ofNat n)))=true:=by decide+kernel
 have h:=a c.toNat (Gd c);rw[Eg]at h;cases b:zF (!(bif bif bif bif (c.toNat:Int)==34 then true else(c.toNat:Int)==39 then true else(c.toNat:Int)==40 then true else decide ((c.toNat:Int)<=8)then true else(c.toNat:Int)==11)) (yo ((c.toNat:Int),14,31)) (default:Bool)with
 |none=>grind
 |some y=>
  grind
theorem aM(c:UInt8)(t:Str):(pk (c::t) 0== -1)=false:=by rw[Dq];rfl
theorem urlR{s w:Str}(f:s.length<=big)(v:w<:+s):vG (sr s w)=some (Ls (urlS (past spB w)).1,sr s (urlS (past spB w)).2):=by
 have L:big=4194304:=rfl;unfold vG;rw[FI f v];simp only[za,Aa];have E:=Sq spB v;generalize past spB w=q at E ⊢;refine RJ ?_;refine QA (fun z=> ∃(p e:Str),z=(sr s p,(⟨0,[],0,[],false⟩:zg),e)/\p<:+s/\e.length+4*p.length<=4*s.length/\(urlS q).1=(urlS p).1.map (e++ ·)/\(urlS q).2=(urlS p).2) (fun z=>s.length - z.1.at_.toNat) _ ?_
  ⟨q,[],rfl,E,by grind,by simp,rfl⟩
 rintro _ ⟨p,e,rfl,h,G,b,a⟩;simp only[Mh f h,Aa,Pw];cases p with
 |nil=> refine .inr (.inr ⟨_,rfl,?_⟩);rw[aI]at b a;rw[b,a];simp only[Cc,Yb,Ls]
 |cons c t=>
  have m:=h.length_le;rw[Ga]at m G;have r:=Kk h;have k: ∀u:Str,u.length<=t.length->u<:+s->s.length - beh s u<s.length - beh s (c::t):=by intro u M J;unfold beh;rw[Ga];omega
  rw[NJ]at b a;rw[show atS (c::t) 0=c from rfl];cases j:spB c with
  |true=>
   have i:(c==41)=false:=by rw[Ea];rintro rfl;exact absurd j (by decide)
   rw[i,j,Oa (by decide),Sa rfl]at b a;have D:past spB (c::t)=past spB t:=by rw[past,Sa j]
   have g:past spB t<:+s:=Sq spB r;rw[Ca,FI f h,D];simp only[Aa,Mh f g];cases o:past spB t with
   |nil=> rw[o]at b a;refine .inr (.inr ⟨_,rfl,?_⟩);simp only at b a;rw[b,a];simp only[Cc,Yb,Ls]
   |cons d F=>
    rw[o]at b a g;simp only at b a;unfold bne;rw[fM,aM,show atS (d::F) 0=d from rfl];cases C:d==41 with
    |true=> rw[C,Sa rfl]at b a;refine .inr (.inr ⟨_,?_,rfl⟩);simp only[Ya,Ba,zI,aM,fM,show atS (d::F) 0=d from rfl,C,Ca,Ei f g];rw[b,a];simp only[Cc,Yb,Ls]
    |false=> rw[C,Oa (by decide)]at b a;refine .inr (.inr ⟨_,?_,rfl⟩);simp only[Ua,Ca,badR f g,Aa,zAE];rw[b,a];rfl
  |false=>
   rw[Ba,zI];simp only[aM,fM,show atS (c::t) 0=c from rfl,Ba,Ei f h];cases i:c==41 with
   |true=> rw[i,Sa rfl]at b a;refine .inr (.inr ⟨_,by rw[Ca],?_⟩);rw[b,a];simp only[Cc,Yb,Ls]
   |false=>
    rw[i,Oa (by decide),j,Oa (by decide)]at b a;rw[Ba];obtain⟨y,B,A⟩:=zM2 c;rw[Kq,B];simp only[Aa];rw[A];cases x:(c==34||c==39||c==40||unB c)with
    |true=> rw[x,Ff,Sa rfl]at b a;refine .inr (.inr ⟨_,?_,rfl⟩);rw[Ca,badR f h];simp only[Aa];rw[b,a];rfl
    |false=>
     rw[x,Ld]at b a;rw[Ba];unfold bne;rw[show((c.toNat:Int)==92)=(c==92)from BC c 92];cases n:c==92 with
     |false=> rw[n,Ac,Oa (by decide),Oa (by decide)]at b a;rw[Ua,Ca,Fx];simp only[Aa];rw[ZQ (Kj (by omega))];exact .inl ⟨_,rfl,⟨t,e++[c],rfl,r,by grind,by rw[b,NY],a⟩,k t (Xa _) r⟩
     |true=>
      rw[n,aa]at b a;rw[Ya,Ba,oI f h];simp only[Aa];cases l:escS (c::t)with
      |true=> rw[l,Ya,Oa (by decide),Sa rfl]at b a;have K:=Ux t;have H:=ZW t;refine .inl ⟨(sr s (Zh t).2,⟨0,[],0,[],false⟩,e++(Zh t).1),?_,⟨_,_,rfl,(Qh _).trans r,by grind,by rw[b,BO],a⟩,k _ H ((Qh _).trans r)⟩;simp only[Ca,oJ f h (show e.length<=1000000000 by omega),Aa]
      |false=> rw[l,Ua,Sa rfl]at b a;refine .inr (.inr ⟨_,?_,rfl⟩);rw[Ba,badR f h];simp only[Aa];rw[b,a];rfl
theorem TJ {S X R:Type} {step:S->Option (LO S X R)} {k:X->Option R} (Inv:S->Prop) (b:S->Nat) (y:R)
  (h: ∀s,Inv s->(∃s',step s=some (.again s')/\Inv s'/\b s'<b s)\/(∃x,step s=some (.out x)/\k x=some y)\/step s=some (.ret y)) {s:S} (d:Inv s):zU step s k=some y:=by
 have c: ∀(m:Nat) (s:S),b s<m->Inv s-> ∃r:LX X R,qd step m s=some r/\r.go k=some y:=by
  intro m
  induction m with
  |zero=>intro s h;omega
  |succ m i=>
   intro s f d;simp only[qd];rcases h s d with⟨s',a,e,g⟩|⟨x,a,e⟩|a
   ·grind
   ·simp_all
   simp_all
 obtain⟨r,a,e⟩:=c (b s+1) s (by omega) d;rw[qP (Ai a)];exact e
theorem CZ(p:UInt8->Bool): ∀l:Str,past p l=l.dropWhile p
 |[]=>rfl
 |c::r=>by
  rw[past,Ic];cases h:p c with
  |true=>exact CZ p r
  |false=>rfl
theorem jI(p:UInt8->Bool)(l:Str):l.takeWhile p++past p l=l:=by rw[CZ,List.takeWhile_append_dropWhile]
theorem cO(p:UInt8->Bool): ∀l:Str,(l.takeWhile p).all p=true
 |[]=>rfl
 |c::r=>by simp_all
def sgOf(l:Str):Str:=if Uk (atS l 0)then [atS l 0]else []
theorem GU(l:Str):sgOf l++unsign l=l:=by
 unfold sgOf unsign;cases h:Uk (atS l 0)with
 |false=>rfl
 |true=>
  rw[Sa rfl,Sa rfl];cases l with
  |nil=>exact absurd h (by decide)
  |cons c r=>rfl
theorem IU(l:Str):sgB (sgOf l)=true:=by
 unfold sgOf;cases h:Uk (atS l 0)with
 |false=>rfl
 |true=> rw[Sa rfl];unfold Uk at h;rw[Yc,Db,Db]at h;rcases h with h|h<;>rw[h]<;>rfl
def dotP(q:Str):Option Str:=if atS q 0==46&&digB (atS q 1)then some ((q.drop 1).takeWhile digB)else none
def expP(q:Str):Option (UInt8×Str×Str):=
 if(atS q 0==101||atS q 0==69)&&digB (atS (unsign (q.drop 1)) 0)then some (atS q 0,sgOf (q.drop 1),(unsign (q.drop 1)).takeWhile digB)else none
def numP(l:Str):NumP:=⟨sgOf l,(unsign l).takeWhile digB,dotP (past digB (unsign l)),expP (Fh (past digB (unsign l))).1⟩
theorem zGc(q:Str):dotS (dotP q)++(Fh q).1=q/\(Fh q).2=(dotP q).isNone:=by
 unfold dotP Fh;cases h:atS q 0==46&&digB (atS q 1)with
 |false=>exact⟨rfl,rfl⟩
 |true=>
  rw[Sa rfl,Sa rfl];cases q with
  |nil=>exact absurd h (by decide)
  |cons c r=> rw[Da,Db]at h;refine⟨?_,rfl⟩;show(46::List.takeWhile digB r)++past digB r=c::r;rw[Sb,jI,show c=46 from h.1]
theorem zJs(q:Str):expT (expP q)++(match expS q with|some r=>r|none=>q)=q:=by
 unfold expP expS;cases a:atS q 0==101||atS q 0==69 with
 |false=>rfl
 |true=>
  cases b:digB (atS (unsign (q.drop 1)) 0)with
  |false=>rfl
  |true=>
   simp only[Bool.and_self,Df];cases q with
   |nil=>exact absurd a (by decide)
   |cons c r=> show(c::(sgOf r++List.takeWhile digB (unsign r)))++past digB (unsign r)=c::r;rw[Sb,Ub,jI,GU]
theorem cZ(l:Str):(numP l).txt++(qM l).1=l:=by
 have c:=(zGc (past digB (unsign l))).1;have b:=zJs (Fh (past digB (unsign l))).1;have a:(qM l).1=(match expS (Fh (past digB (unsign l))).1 with|some r=>r|none=>(Fh (past digB (unsign l))).1):=by unfold qM;simp only;cases expS (Fh (past digB (unsign l))).1<;>rfl
 rw[a];show(sgOf l++(List.takeWhile digB (unsign l)++(dotS (dotP (past digB (unsign l)))++expT (expP (Fh (past digB (unsign l))).1))))++_=l;rw[Ub,Ub,Ub,b,c,jI,GU]
theorem DN{p:UInt8->Bool}{q:Str}(h:p (atS q 0)=true)(a:p 0=false):(q.takeWhile p).isEmpty=false:=by
 cases q with
 |nil=>rw[show atS [] 0=0 from rfl,a]at h;cases h
 |cons c r=>rw[List.takeWhile_cons,Sa (show p c=true from h)];rfl
theorem uU{l:Str}(h:nbS l=true):(numP l).ok=true:=by
 unfold NumP.ok numP;simp only[IU,cO,aa,Da];refine⟨?_,?_⟩
 ·unfold dotP;cases a:atS (past digB (unsign l)) 0==46&&digB (atS (past digB (unsign l)) 1)with
  |true=> rw[Sa rfl];simp only[cO,Rb];rw[Da]at a;rw[DN (p:=digB) (by rw[Ck];exact a.2) (by decide)];rfl
  |false=>
   rw[Oa (by decide)];simp only;cases b:digB (atS (unsign l) 0)with
   |true=>rw[DN b (by decide)];rfl
   |false=>
    exfalso;have f:past digB (unsign l)=unsign l:=by
     cases e:unsign l with
     |nil=>rfl
     |cons c r=>rw[e]at b;rw[past,Oa (by rw[show digB c=false from b];decide)]
    rw[f]at a;unfold nbS undot at h;cases d:atS (unsign l) 0==46 with
    |false=>grind
    |true=>
     rw[d,Sa rfl,Ck]at h
     grind
 ·unfold expP;cases a:(atS (Fh (past digB (unsign l))).1 0==101||atS (Fh (past digB (unsign l))).1 0==69)&&digB (atS (unsign ((Fh (past digB (unsign l))).1.drop 1)) 0)with
  |false=>rfl
  |true=> rw[Sa rfl];rw[Da]at a;simp only[a.1,IU,cO,Rb,aa];rw[DN a.2 (by decide)];rfl
theorem zOt{n:NumP}(h:n.ok=true):n.txt≠[]:=by
 obtain⟨c,D,F,X⟩:=n;unfold NumP.ok at h;simp only[Da]at h;intro e;unfold NumP.txt at e;simp only[List.append_eq_nil_iff]at e;obtain⟨g,b,a,d⟩:=e;subst b;cases F with
 |none=>grind
 |some f=>cases a
theorem TQ{c:UInt8}{r:Str}(h:nbS (c::r)=true):(qM (c::r)).1<:+r:=by
 have e:=cZ (c::r);have b:=zOt (uU h);cases a:(numP (c::r)).txt with
 |nil=>grind
 |cons d t=>
  grind
def Ro(l:Str):zg×Str:=
 if nmS (qM l).1 then(⟨12,[],(numP l).val,(ZE (qM l).1).1,(qM l).2⟩,(ZE (qM l).1).2)
 else if atS (qM l).1 0==37 then(⟨11,[],(numP l).val,[],false⟩,(qM l).1.drop 1)
 else(⟨10,[],(numP l).val,[],(qM l).2⟩,(qM l).1)
theorem zLB{s l t e:Str}(a:l<:+s)(h:t++e=l):List.drop (beh s l) (List.take (beh s e) s)=t:=by
 obtain⟨p,rfl⟩:=a;subst h;have c:beh (p++(t++e)) (t++e)=p.length:=by unfold beh;simp only[Na];omega
 have b:beh (p++(t++e)) e=(p++t).length:=by unfold beh;simp only[Na];omega
 grind
theorem zJ4{s l:Str}(hs:s.length<=40000)(hl:l<:+s)(h:nbS l=true):QB (sr s l)=some ((Ro l).1,sr s (Ro l).2):=by
 have hsb:s.length<=big:=by unfold big;omega
 have he:=zE4 hl;have hle:=hl.length_le;have hsp:=cZ l;have hel:(qM l).1.length<=l.length:=by have:=congrArg List.length hsp;rw[Na]at this;omega
 have htl:(numP l).txt.length<=40000:=by have:=congrArg List.length hsp;rw[Na]at this;omega
 unfold QB;rw[zJu hsb hl];simp only[za,Aa];have h1:(beh s l:Int)<=(beh s (qM l).1:Int):=by unfold beh;omega
 have h2:=Wm s (qM l).1;rw[ZQ (by simp_all),Cb,Cb,zLB hl hsp,ztz (uU h) htl];simp only[Aa];rw[show ZC (0,sr s (qM l).1)=some (nmS (qM l).1)from PM (k:=0) hsb he (by omega)];simp only[Aa];unfold Ro;cases hn:nmS (qM l).1 with
 |true=> rw[Ca,oH hsb he,Sa rfl];rfl
 |false=>
  rw[Ba,Mh hsb he,Oa (by decide)];simp only[Aa,zOQ];cases h37:atS (qM l).1 0==37 with
  |true=> rw[Ca,zI,LA hsb he (by grind),Sa rfl]
  |false=>simp_all
theorem xN(l:Str):(ZE l).1.length<=4*l.length:=by
 match l with
 |[]=>rw[sD];grind
 |c::r=>
  rw[Cz];split
  ·have:=xN r
   grind
  ·split
   ·have b:=ZW r;have a:=Ux r;have:=xN (Zh r).2
    grind
   grind
termination_by l.length
decreasing_by
 all_goals grind
def Bo(l:Str):zg×Str:=
 if atS (ZE l).2 0==40 then
  (if(lowS (ZE l).1==[117,114,108])&& !(atS (past spB ((ZE l).2.drop 1)) 0==34||atS (past spB ((ZE l).2.drop 1)) 0==39)
  then(Ls (urlS (past spB ((ZE l).2.drop 1))).1,(urlS (past spB ((ZE l).2.drop 1))).2)
  else(⟨2,(ZE l).1,0,[],false⟩,(ZE l).2.drop 1))
 else(⟨1,(ZE l).1,0,[],false⟩,(ZE l).2)
theorem zL2{s q:Str}(m:s.length<=40000)(g:q<:+s):Qo (sr s q)=some ((Bo q).1,sr s (Bo q).2):=by
 have a:s.length<=big:=by unfold big;omega
 have e:(ZE q).2<:+s:=(Vo q).trans g;have l:=xN q;have i:=g.length_le;have f:(ZE q).1.length<=big:=by unfold big;omega
 unfold Qo;rw[oH a g];simp only[za,Aa,Mh a e];unfold bne Bo;rw[zOR];cases d:atS (ZE q).2 0==40 with
 |false=>rfl
 |true=>
  have c:atS (ZE q).2 0≠0:=by rw[Db.1 d];decide
  rw[Ya,Ba,Sa rfl,LA a e c,Yo f (by decide),FO];simp only[Aa];have b:=um e 1;cases n:lowS (ZE q).1==[117,114,108]with
  |false=>rfl
  |true=>
   rw[Ca,FI a b,aa];have k:=Sq spB b;simp only[Aa,Mh a k];rw[iU,gU];cases j:atS (past spB ((ZE q).2.drop 1)) 0==34 with
   |true=>rfl
   |false=>
    cases h:atS (past spB ((ZE q).2.drop 1)) 0==39 with
    |true=>rfl
    |false=> rw[urlR a b];rfl
theorem zJY{c:UInt8}{r:Str}(h:letB c=true\/escS (c::r)=true):(ZE (c::r)).2<:+r:=by
 rw[Cz];split
 ·exact Vo r
 ·rename_i a;rw[Sa (h.resolve_left a)];exact(Vo _).trans (Qh r)
theorem zJ1{c:UInt8}{r:Str}(h:nmS (c::r)=true):letB c=true\/escS (c::r)=true:=by
 unfold nmS at h;cases a:atS (c::r) 0==45 with
 |true=> left;rw[show c=45 from Db.1 a];decide
 |false=>
  rw[a,Oa (by decide),Yc]at h;rcases h with h|h
  ·left;unfold letB;rw[show fstB c=true from h];rfl
  ·exact .inr h
theorem zGF{c:UInt8}{r:Str}(h:nmS (c::r)=true):(Bo (c::r)).2<:+r:=by
 have b:=zJY (zJ1 h);have a:(ZE (c::r)).2.drop 1<:+r:=(Cf 1 _).trans b;unfold Bo;split
 ·split
  ·exact(Rt _).trans ((fq spB _).trans a)
  ·exact a
 ·exact b
def nxU(c:UInt8)(r:Str):zg×Str:=
  if nmS (c::r)then Bo (c::r)
  else if Xk c==0 then(⟨9,[c],0,[],false⟩,r)
  else(Aj (Xk c),r)
def nxT(c:UInt8)(r:Str):zg×Str:=
  if nbS (c::r)then Ro (c::r)
  else if [45,45,62].isPrefixOf (c::r)then(Aj 15,(c::r).drop 3)
  else if [60,33,45,45].isPrefixOf (c::r)then(Aj 14,(c::r).drop 4)
  else if c==64&&nmS r then(⟨3,(ZE r).1,0,[],false⟩,(ZE r).2)
  else nxU c r
def vg:Str->zg×Str
 |[]=>(⟨0,[],0,[],false⟩,[])
 |c::r=>
  if spB c then(Aj 13,past spB (c::r))
  else if c==34||c==39 then(WI (Z0 c r).1,(Z0 c r).2)
  else if c==35&&(letB (atS r 0)||escS r)then(⟨4,(ZE r).1,0,[],nmS r⟩,(ZE r).2)
  else nxT c r
theorem mP(c:UInt8)(r:Str):vg (c::r)=
  if spB c then(Aj 13,past spB (c::r))
  else if c==34||c==39 then(WI (Z0 c r).1,(Z0 c r).2)
  else if c==35&&(letB (atS r 0)||escS r)then(⟨4,(ZE r).1,0,[],nmS r⟩,(ZE r).2)
  else if nbS (c::r)then Ro (c::r)
  else if [45,45,62].isPrefixOf (c::r)then(Aj 15,(c::r).drop 3)
  else if [60,33,45,45].isPrefixOf (c::r)then(Aj 14,(c::r).drop 4)
  else if c==64&&nmS r then(⟨3,(ZE r).1,0,[],false⟩,(ZE r).2)
  else if nmS (c::r)then Bo (c::r)
  else if Xk c==0 then(⟨9,[c],0,[],false⟩,r)
  else(Aj (Xk c),r):=rfl
theorem zCx{c:UInt8}{r:Str}(h:nbS (c::r)=true):(Ro (c::r)).2<:+r:=by
 have a:=TQ h;unfold Ro;split
 ·exact(Vo _).trans a
 ·split
  ·exact(Cf 1 _).trans a
  ·exact a
theorem Gx(c:UInt8)(r:Str):(vg (c::r)).2<:+r:=by
 rw[mP];split
 ·rename_i h;show past spB (c::r)<:+r;rw[past,Sa h];exact fq spB r
 ·split
  ·exact bu c r
  ·split
   ·exact Vo r
   ·split
    ·rename_i h;exact zCx h
    ·split
     ·exact Cf 2 r
     ·split
      ·exact Cf 3 r
      ·split
       ·exact Vo r
       ·split
        ·rename_i h;exact zGF h
        grind
theorem zJV(c:UInt8):decide (Lib.indexByte [58,59,44,91,93,40,41,123,125] c>=0)= !(Xk c==0)/\(Xk c≠0->wu8 (16+wu8 (Lib.indexByte [58,59,44,91,93,40,41,123,125] c))=Xk c):=by
 have: ∀n:Nat,n<256->decide (Lib.indexByte [58,59,44,91,93,40,41,123,125] (UInt8.ofNat n)>=0)= !(Xk (UInt8.ofNat n)==0)/\(Xk (UInt8.ofNat n)≠0->wu8 (16+wu8 (Lib.indexByte [58,59,44,91,93,40,41,123,125] (UInt8.ofNat n)))=Xk (UInt8.ofNat n)):=by decide+kernel
 have:=this c.toNat (Gd c);simp_all
theorem fO{m q:Str}(h:m.isPrefixOf q=true):m.length<=q.length:=by
 grind
def RA(s:Str)(X:zg×Str):Option (zg×ze):=some (X.1,sr s X.2)
theorem zOM{s q:Str}{c:UInt8}{r:Str}(y:s.length<=40000)(b:q<:+s)(D:q=c::r):BA (sr s q)=some ((vg q).1,sr s (vg q).2):=by
 subst D;have a:s.length<=big:=by unfold big;omega
 have A:=Kk b;have J:(c::r).drop 1=r:=rfl;rw[show vg (c::r)=if spB c then(Aj 13,past spB (c::r))else if c==34||c==39 then(WI (Z0 c r).1,(Z0 c r).2)else if c==35&&(letB (atS r 0)||escS r)then(⟨4,(ZE r).1,0,[],nmS r⟩,(ZE r).2)else nxT c r from rfl];unfold BA;simp only[za,Mh a b,Aa];rw[ZQ PU];simp only[Pw,Aa,iU,gU,zOP,zOS,WN b,Bp,show atS (c::r) 0=c from rfl,MM];cases Q:spB c with
 |true=> rw[Ca,FI a b,Sa rfl];rfl
 |false=>
  rw[Ba,Oa (by decide)];cases H:c==34||c==39 with
  |true=> rw[Ca,zMJ a b,Sa rfl];rfl
  |false=>
   rw[Ba,Oa (by decide)];have p:ZA (1,sr s (c::r))=some (escS r):=oC (k:=1) a b (by omega);have g:ZC (1,sr s (c::r))=some (nmS r):=PM (k:=1) a b (by omega);have l:ZC (0,sr s (c::r))=some (nmS (c::r)):=PM (k:=0) a b (by omega);have u:(⟨s,w64 ((beh s (c::r):Int)+1)⟩:ze)=sr s r:=by rw[Ei a b]
   rw[u];have o:((Qa (sr s (c::r))).bind fun w=>
    bif w then
     (QB (sr s (c::r))).bind fun j=>
     some (j.1,j.2)
    else
     (some ([45,45,62].isPrefixOf (c::r))).bind fun v=>
     bif v then
      some ((⟨15,[],0,[],false⟩:zg),(⟨s,w64 ((beh s (c::r):Int)+3)⟩:ze))
     else
      (some ([60,33,45,45].isPrefixOf (c::r))).bind fun t=>
      bif t then
       some ((⟨14,[],0,[],false⟩:zg),(⟨s,w64 ((beh s (c::r):Int)+4)⟩:ze))
      else
       (zF (c==64) (ZC (1,sr s (c::r))) (default:Bool)).bind fun h=>
       bif bif c==64 then h else false then
        (ZR (sr s r)).bind fun f=>
        some ((⟨3,f.1,0,[],false⟩:zg),f.2)
       else
        (ZC (0,sr s (c::r))).bind fun i=>
        bif i then
         (Qo (sr s (c::r))).bind fun d=>
         some (d.1,d.2)
        else
         (strings_IndexByte ([58,59,44,91,93,40,41,123,125],wu8 (pk (c::r) 0))).bind fun e=>
         bif decide (e>=0)then
          some ((⟨wu8 (16+wu8 e),[],0,[],false⟩:zg),sr s r)
         else
          need (decide (1<=((c::r).length:Int)))<|
          some ((⟨9,List.take 1 (c::r),0,[],false⟩:zg),sr s r))=
    RA s (nxT c r):=by
    unfold nxT;simp only[zMs a b,Aa];cases x:nbS (c::r)with
    |true=> rw[Ca,zJ4 y b x,Sa rfl];rfl
    |false=>
     rw[Ba,Oa (by decide)];cases O:[45,45,62].isPrefixOf (c::r)with
     |true=> rw[Ca,Sa rfl,show(3:Int)=((3:Nat):Int)from rfl,uH (n:=3) a b (fO O)];rfl
     |false=>
      rw[Ba,Oa (by decide)];cases L:[60,33,45,45].isPrefixOf (c::r)with
      |true=> rw[Ca,Sa rfl,show(4:Int)=((4:Nat):Int)from rfl,uH (n:=4) a b (fO L)];rfl
      |false=>
       rw[Ba,Oa (by decide),g,l];have m: ∀z:Bool,((some z).bind fun h=>bif h then
        (ZR (sr s r)).bind fun f=>
        some ((⟨3,f.1,0,[],false⟩:zg),f.2)
       else
        (some (nmS (c::r))).bind fun i=>
        bif i then
         (Qo (sr s (c::r))).bind fun d=>
         some (d.1,d.2)
        else
         (strings_IndexByte ([58,59,44,91,93,40,41,123,125],wu8 (pk (c::r) 0))).bind fun e=>
         bif decide (e>=0)then
          some ((⟨wu8 (16+wu8 e),[],0,[],false⟩:zg),sr s r)
         else
          need (decide (1<=((c::r).length:Int)))<|
          some ((⟨9,List.take 1 (c::r),0,[],false⟩:zg),sr s r))=RA s (if z then(⟨3,(ZE r).1,0,[],false⟩,(ZE r).2)else nxU c r):=by
        intro z;unfold nxU;simp only[Aa];cases z with
        |true=> rw[Ca,oH a A];rfl
        |false=>
         rw[Ba,Oa (by decide)];cases G:nmS (c::r)with
         |true=>rw[Ca,zL2 y b];rfl
         |false=>
          rw[Ba,Oa (by decide),Kq,Pv];have R:(wu8 (c.toNat:Int)).toNat.toUInt8=c:=by rw[Ww,Vf (Gd c),Cb];exact Eg
          rw[R];obtain⟨K,S⟩:=zJV c;simp only[Aa,K];cases M:Xk c==0 with
          |true=> rw[Ya,Ba,ZQ (Fa (by grind))];rfl
          |false=> rw[Ua,Ca,S (Ea.1 M)];rfl
       cases N:c==64 with
       |false=> simp_all
       |true=> have:=m (nmS r);simp_all
   cases C:c==35 with
   |false=> simp only[ZO,Aa,Ba,Lc,Ac];exact o
   |true=>
    simp only[z8,Aa,Ca,Rb,aa,jA a b,WX];have E:atS (c::r) 1=atS r 0:=rfl;rw[E,p];have F:(bif letB (atS r 0)||escS r then(ZC (1,sr s (c::r))).bind fun P=>(ZR (sr s r)).bind fun B=>some ((⟨4,B.1,0,[],P⟩:zg),B.2)else RA s (nxT c r))=RA s (if(letB (atS r 0)||escS r)then(⟨4,(ZE r).1,0,[],nmS r⟩,(ZE r).2)else nxT c r):=by
     cases letB (atS r 0)||escS r with
     |false=>rfl
     |true=>rw[Ca,g,oH a A];rfl
    show _=RA s (if(letB (atS r 0)||escS r)then(⟨4,(ZE r).1,0,[],nmS r⟩,(ZE r).2)else nxT c r);rw[<-F];cases T:letB (atS r 0)with
    |true=>rfl
    |false=> simp_all
def jf:Nat->List zg->Int->Nat->Option (List zb×List zg)
 |0,_,_,_=>none
 |_+1,[],_,_=>some ([],[])
 |n+1,t::r,c,left=>
  if c≠0/\t.kind=c then some ([],r)
  else if Zn t.kind=0 then(jf n r c left).map fun v=>(⟨t,[]⟩::v.1,v.2)
  else match left with
   |0=>none
   |m+1=>(jf n r (Zn t.kind) m).bind fun w=>(jf n w.2 c (m+1)).map fun v=>(⟨t,w.1⟩::v.1,v.2)
theorem Hy(n:Nat)(t:zg)(r:List zg)(c:Int)(left:Nat):jf (n+1) (t::r) c left=if c≠0/\t.kind=c then some ([],r)
  else if Zn t.kind=0 then(jf n r c left).map fun v=>(⟨t,[]⟩::v.1,v.2)
  else match left with
   |0=>none
   |m+1=>(jf n r (Zn t.kind) m).bind fun w=>(jf n w.2 c (m+1)).map fun v=>(⟨t,w.1⟩::v.1,v.2):=rfl
theorem Yx: ∀(n:Nat) (l:List zg) (c:Int) (left:Nat) (v:List zb×List zg),jf n l c left=some v->v.2.length<=l.length/\(l≠[]->v.2.length<l.length)
 |0,_,_,_,_,h=>by cases h
 |n+1,[],c,left,v,h=>by
  rw[jf]at h;cases h;exact⟨Xa _,fun h=>absurd rfl h⟩
 |n+1,t::r,c,left,v,h=>by
  rw[Hy]at h;have key:v.2.length<=r.length:=by
   split at h
   ·cases h;exact Xa _
   split at h
   ·cases hv:jf n r c left with
    |none=>rw[hv]at h;cases h
    |some w=>rw[hv]at h;cases h;exact(Yx n r c left w hv).1
   ·cases left with
    |zero=>cases h
    |succ m=>
     simp only at h;cases hw:jf n r (Zn t.kind) m with
     |none=>rw[hw]at h;cases h
     |some w=>
      rw[hw,Aa]at h;cases hv:jf n w.2 c (m+1)with
      |none=>rw[hv]at h;cases h
      |some v'=> rw[hv]at h;cases h;have h1:=(Yx n r _ m w hw).1;have h2:=(Yx n w.2 c _ v' hv).1;exact Bb h2 h1
  exact⟨by rw[Ga];omega,fun _=>by rw[Ga];omega⟩
def Yn(l:List zg)(s:PSt):Option (List zb):=(ah l s).map fun s=>shutAll s.1 s.2
theorem bQ(t:zg)(l:List zg)(s:PSt):Yn (t::l) s=(xh s t).bind (Yn l):=by unfold Yn;rw[ah];cases xh s t<;>rfl
theorem XC: ∀(n:Nat) (l:List zg) (cur:List zb) (o:zg) (out:List zb) (st:List (zg×List zb)) (left:Nat),l.length<n->Zn o.kind≠0->left+(st.length+1)=16->
  Yn l (cur,(o,out)::st)=(jf n l (Zn o.kind) left).bind fun v=>Yn v.2 (out++[⟨o,cur++v.1⟩],st)
 |0,_,_,_,_,_,_,h,_,_=>by omega
 |n+1,[],cur,o,out,st,left,_,_,_=>by rw[jf,Aa];simp only[Yn,ah,Cc,shutAll,Yb]
 |n+1,t::r,cur,o,out,st,left,hn,ho,hl=>by
  rw[Ga]at hn;rw[Hy,bQ];unfold xh;simp only[Rs];by_cases h1:t.kind=Zn o.kind
  ·rw[Sa (by rw[h1,Kc]),Sa ⟨ho,h1⟩,Aa,Aa];simp only[Gp,Yb]
  ·rw[Oa (by rw[Db];exact h1),Oa (show¬(Zn o.kind≠0/\t.kind=Zn o.kind)from fun h=>h1 h.2)];by_cases h2:Zn t.kind=0
   ·rw[Oa (show¬Zn t.kind≠0 from fun h=>h h2),Sa h2,Aa,XC n r _ o out st left (by omega) ho hl];cases jf n r (Zn o.kind) left with
    |none=>rfl
    |some v=>simp only[Aa,Cc,Ub,List.singleton_append]
   ·rw[Sa h2,Oa h2];cases left with
    |zero=>rw[Sa (by rw[Ga];omega)];rfl
    |succ m=>
     rw[Oa (by rw[Ga];omega),Aa];simp only;rw[XC n r [] t cur ((o,out)::st) m (by omega) h2 (by rw[Ga];omega)];cases hw:jf n r (Zn t.kind) m with
     |none=>rfl
     |some w=>
      have hlen:=(Yx n r _ m w hw).1;simp only[Aa];rw[XC n w.2 _ o out st (m+1) (by omega) ho hl];cases jf n w.2 (Zn o.kind) (m+1)with
      |none=>rfl
      |some v=>simp only[Aa,Cc,Bc,Ub,List.singleton_append]
theorem WJ: ∀(n:Nat) (l:List zg) (cur:List zb),l.length<n->Yn l (cur,[])=(jf n l 0 16).map fun v=>cur++v.1
 |0,_,_,h=>by omega
 |n+1,[],cur,_=>by rw[jf];simp only[Yn,ah,Cc,shutAll,Yb]
 |n+1,t::r,cur,hn=>by
  rw[Ga]at hn;rw[Hy,bQ];unfold xh;simp only[Rs];rw[Oa (by decide),Oa (show¬((0:Int)≠0/\t.kind=0)from fun h=>h.1 rfl)];by_cases h2:Zn t.kind=0
  ·rw[Oa (show¬Zn t.kind≠0 from fun h=>h h2),Sa h2,Aa,WJ n r _ (by omega)];cases jf n r 0 16 with
   |none=>rfl
   |some v=>simp only[Cc,Ub,List.singleton_append]
  ·rw[Sa h2,Oa h2,Oa (by decide),Aa];rw[XC n r [] t cur [] 15 (by omega) h2 rfl];cases hw:jf n r (Zn t.kind) 15 with
   |none=>rfl
   |some w=>
    have hlen:=(Yx n r _ 15 w hw).1;simp only[Aa];rw[WJ n w.2 _ (by omega)];cases jf n w.2 0 16 with
    |none=>rfl
    |some v=>simp only[Cc,Bc,Ub,List.singleton_append]
theorem NC: ∀(a b:List zb),tokL (a++b)=tokL a++tokL b
 |[],b=>by rw[tokL];rfl
 |v::a,b=>by rw[Sb,tokL,tokL,NC a b,Ub]
theorem bI(v:zb):tokL [v]=tokV v:=by rw[tokL,tokL,Yb]
def Ak(s:PSt):Nat:=(tokL s.1).length+(s.2.map fun x=>1+(tokL x.2).length).sum
def xH(s:PSt):Prop:= ∀x∈s.2,Zn x.1.kind≠0
theorem zFa{s s':PSt}{t:zg}(h:xh s t=some s')(ho:xH s):xH s'/\Ak s'=Ak s+1:=by
 unfold xh at h;obtain⟨cur,st⟩:=s;split at h
 ·rename_i h1;cases st with
  |nil=>cases h1
  |cons x st=> obtain⟨o,out⟩:=x;cases h;have h2:Zn o.kind≠0:=ho (o,out) (Ob ..);refine⟨fun x hx=>ho x (Kb _ hx),?_⟩;simp only[Ak,Gp,NC,bI,Na,Jc,He,Pq,Ga,Oa h2,Na,Mc,Eb];omega
 split at h
 ·rename_i h1 h2;split at h
  ·cases h
  ·rename_i h3;cases h;refine⟨fun x hx=> ?_,?_⟩
   ·rcases Jb.1 hx with rfl|hx
    ·exact h2
    ·exact ho x hx
   ·simp only[Ak,Jc,He,tokL,Eb];omega
 ·rename_i h1 h2;cases h;refine⟨ho,?_⟩;have h2:Zn t.kind=0:=Me h2;simp only[Ak,NC,bI,Na,Pq,Ga,Sa h2,Eb];omega
theorem DZ: ∀(l:List zg) {s s':PSt},ah l s=some s'->xH s->xH s'/\Ak s'=Ak s+l.length
 |[],s,s',h,ho=>by cases h;exact⟨ho,rfl⟩
 |t::l,s,s',h,ho=>by
  rw[ah]at h;cases hs:xh s t with
  |none=>rw[hs]at h;cases h
  |some s1=> rw[hs,Aa]at h;obtain⟨h1,h2⟩:=zFa hs ho;obtain⟨h3,h4⟩:=DZ l h h1;exact⟨h3,by rw[h4,h2,Ga];omega⟩
theorem PQ: ∀(st:List (zg×List zb)) (cur:List zb),(∀x∈st,Zn x.1.kind≠0)->(tokL (shutAll cur st)).length=Ak (cur,st)+st.length
 |[],cur,_=>by simp[shutAll,Ak]
 |(o,out)::st,cur,h=>by have h2:Zn o.kind≠0:=h (o,out) (Ob ..);rw[shutAll,PQ st _ (fun x hx=>h x (Kb _ hx))];simp only[Ak,NC,bI,Na,Pq,Ga,Oa h2,Na,Mc,Jc,He,Ga,Eb];omega
def kM(l:List zg)(c:Int)(left:Nat):Option (List zb×List zg):=jf (l.length+1) l c left
def wtT:List zg->Nat
 |[]=>0
 |t::r=>1+t.text.length+t.unit.length+wtT r
theorem UW(l:List zg):(ah l ([],[])).map (fun s=>shutAll s.1 s.2)=(kM l 0 16).map Prod.fst:=WJ _ l [] (Fe _)
def clsS:Str->Option Str
 |[]=>none
 |c::r=>if c==42&&atS r 0==47 then some (r.drop 1)else clsS r
theorem yt: ∀(l:Str) {r:Str},clsS l=some r->r<:+l/\r.length+2<=l.length
 |[],r,h=>by cases h
 |c::t,r,h=>by
  unfold clsS at h;split at h
  ·rename_i a;rw[Da,Db,Db]at a;injection h with h;subst h;have:=XA (l:=t) (n:=0) (by rw[a.2];decide);exact⟨(Cf 1 t).trans (Oe c t),by grind⟩
  ·obtain⟨d,b⟩:=yt t h
   grind
theorem pre2(b:UInt8)(l:Str):([42,47]:Str).isPrefixOf (b::l)=(b==42&&atS l 0==47):=by
 have c:((42:UInt8)==b)=(b==42):=by rw[Ve,Db,Db];exact eq_comm
 rw[List.isPrefixOf,c];cases l with
 |nil=>rfl
 |cons d t=>
  have a:((47:UInt8)==d)=(d==47):=by rw[Ve,Db,Db];exact eq_comm
  rw[List.isPrefixOf,a,List.isPrefixOf];rw[Rb];rfl
theorem nZ: ∀l:Str,Lib.index l [42,47]=match clsS l with|none=> -1|some r=>((l.length - r.length - 2:Nat):Int)
 |[]=>rfl
 |b::l=>by
  rw[Lib.index,pre2,clsS];cases h:b==42&&atS l 0==47 with
  |true=>
   grind
  |false=>
   simp only[Ee,Rf];rw[nZ l];cases a:clsS l with
   |none=>rfl
   |some r=>
    have:=(yt l a).2
    grind
def cmtS(l:Str):Str:=
 if([47,42]:Str).isPrefixOf l then
  (match h:clsS (l.drop 2)with
  |some q=>cmtS q
  |none=>[])
 else l
termination_by l.length
decreasing_by
 have:=(yt _ h).2
 grind
theorem fB(l:Str):cmtS l=if([47,42]:Str).isPrefixOf l then(match clsS (l.drop 2)with|some q=>cmtS q|none=>[])else l:=by
 rw[cmtS]
 grind
theorem KI{l:Str}(h:([47,42]:Str).isPrefixOf l=false):cmtS l=l:=by rw[fB,h];rfl
theorem ut(l:Str):cmtS l<:+l:=by
 rw[fB];split
 ·split
  ·rename_i q b;have a:=yt _ b;have c:=a.2;rw[jb]at c;exact(ut q).trans (a.1.trans (Cf 2 l))
  grind
 grind
termination_by l.length
decreasing_by
 grind
theorem xC(l:Str):cmtS (cmtS l)=cmtS l:=by
 rw[fB l];split
 ·split
  ·rename_i q a;have b:=(yt _ a).2;rw[jb]at b;exact xC q
  ·exact KI rfl
 ·rename_i h;exact KI (Bool.eq_false_iff.2 h)
termination_by l.length
decreasing_by
 grind
theorem aZ{s q:Str}(hs:s.length<=40000)(hq:q<:+s):qp (sr s q)=some (sr s (cmtS q)):=by
 have hsb:s.length<=big:=by unfold big;omega
 unfold qp;refine TJ (fun z=> ∃p,z=sr s p/\p<:+s/\cmtS p=cmtS q) (fun z=>s.length - z.at_.toNat) _ ?_ ⟨q,rfl,hq,rfl⟩;rintro _ ⟨p,rfl,hp,he⟩;rw[ZQ PU];simp only[za,WN hp,Bp,Aa];rw[fB p]at he;cases hpre:([47,42]:Str).isPrefixOf p with
 |false=>
  grind
 |true=>
  rw[hpre,Sa rfl]at he;have hl:=fO hpre;rw[show([47,42]:Str).length=2 from rfl]at hl;have hle:=hp.length_le;have hb:=xW hp hl;have hb2:=Wm s (p.drop 2);rw[Ca];have hw:w64 ((beh s p:Int)+2)=((beh s (p.drop 2):Nat):Int):=by rw[<-hb,QW (by omega) (by omega)];omega
  rw[hw,ZQ (by grind),WN (um hp 2)];have hlen:(p.drop 2).length<=40000:=by rw[jb];omega
  have hi:Vm (p.drop 2,[42,47])=some (Lib.index (p.drop 2) [42,47]):=by unfold Vm;rw[ZQ (by exact Fa (show(p.drop 2).length<4294967281 by omega))]
  rw[hi,nZ];simp only[Aa];cases hc:clsS (p.drop 2)with
  |none=>
   rw[hc]at he;refine .inr (.inr ?_);rw[<-he];show _=some (LO.ret (⟨s,(beh s []:Int)⟩:ze));unfold beh
   grind
  |some r=>
   rw[hc]at he;obtain⟨h1,h2⟩:=yt _ hc;have hrs:r<:+s:=h1.trans (um hp 2);rw[jb]at h2 hlen;simp only;rw[Ia (by omega),Ba];refine .inl ⟨sr s r,?_,⟨r,rfl,hrs,he⟩,?_⟩
   ·rw[jb,QW (n:=_+4) (by omega) (by omega)];have:(beh s p:Int)+(((p.length - 2 - r.length - 2:Nat):Int)+4)=((beh s r:Nat):Int):=by unfold beh;omega
    rw[this,QW (by grind) (by grind)]
   ·show s.length - beh s r<s.length - beh s p;unfold beh;omega
def jg(l:Str):List zg:=
 match h:cmtS l with
 |[]=>[]
 |c::r=>(vg (c::r)).1::jg (vg (c::r)).2
termination_by l.length
decreasing_by
 have b:=(Gx c r).length_le;have a:=(ut l).length_le
 grind
theorem LC{l:Str}(h:cmtS l=[]):jg l=[]:=by
 rw[jg]
 grind
theorem JD{l:Str}{c:UInt8}{r:Str}(h:cmtS l=c::r):jg l=(vg (c::r)).1::jg (vg (c::r)).2:=by
 rw[jg]
 grind
theorem UX(l:Str):jg (cmtS l)=jg l:=by
 cases h:cmtS l with
 |nil=>rw[LC h];exact LC (KI rfl)
 |cons c r=> rw[JD h];exact JD (by rw[<-h,xC])
theorem KP: ∀l:Str,(Proofs.Cl.cleanS l).length<=3*l.length:=by
 have: ∀(n:Nat) (l:Str),l.length<=n->(Proofs.Cl.cleanS l).length<=3*l.length:=by
  intro n
  induction n with
  |zero=>
   intro l h;cases l with
   |nil=>rw[Proofs.Cl.cleanS];grind
   |cons c r=>grind
  |succ n ih=>
   intro l h;rw[Proofs.Cl.cleanS.eq_def]
   grind
 exact fun l=>this l.length l (Xa _)
def qh(w:Str):List zg×Int:=if 4000<w.length then([],28)else if 1500<(jg (Proofs.Cl.cleanS w)).length then([],4)else(jg (Proofs.Cl.cleanS w),0)
theorem zLk{n:Nat}(h:n<=100000):ZB n 1 56=true:=by unfold ZB;grind
theorem JP(w:Str):su w=some (qh w):=by
 unfold su qh;by_cases b:4000<w.length
 ·have e:yn w=some ([],28):=by unfold yn;rw[Sa b]
  unfold rE
  grind
 ·have e:yn w=some (Proofs.Cl.cleanS w,0):=by unfold yn;rw[Oa b]
  rw[Oa b];have x:=KP w;generalize Proofs.Cl.cleanS w=s at e x;have o:s.length<=40000:=by omega
  unfold rE;rw[e];simp only[za,Aa];rw[show((0:Int) != 0)=false from rfl,Ba,sr_0,aZ o (Xf s)];simp only[Aa];have f: ∃z:Int×List zg,zU (fun(d:Int×List zg×ze)=>
    bif decide (d.2.2.at_<(s.length:Int))then
     bif decide (w64 (d.1+1)>1500)then
      some (LO.ret (4,d.2.1))
     else
      (BA d.2.2).bind fun t=>
      (xG ((t.1,d.2.2.at_,t.2.at_),d.2.1)).bind fun y=>
      (qp t.2).bind fun A=>
      some (LO.again (w64 (d.1+1),y,A))
    else
     some (LO.out (d.2.1,d.2.2)):Int×List zg×ze->Option (LO (Int×List zg×ze) (List zg×ze) (Int×List zg))) (0,[],sr s (cmtS s)) (fun C=>some (0,C.1))=some z/\
    z=(if 1500<(jg s).length then(4,(jg s).take 1500)else(0,jg s)):=by
   refine⟨_,TJ (fun z=> ∃(a:List zg) (q:Str),z=((a.length:Int),a,sr s q)/\q<:+s/\cmtS q=q/\a.length<=1500/\a++jg q=jg s) (fun z=>s.length - z.2.2.at_.toNat) (if 1500<(jg s).length then(4,(jg s).take 1500)else(0,jg s)) ?_ ⟨[],cmtS s,rfl,ut s,xC s,by simp,by rw[Bc,UX]⟩,rfl⟩;rintro _ ⟨a,q,rfl,m,n,G,i⟩;simp only;have l:=m.length_le;cases q with
   |nil=>
    have B:((beh s []:Nat):Int)=(s.length:Int):=by unfold beh;rw[Eb];rfl
    have k:decide (((beh s []:Nat):Int)<(s.length:Int))=false:=Ia (by omega);simp only[k,Ba];rw[LC (KI rfl),Yb]at i
    grind
   |cons c r=>
    rw[Ga]at l;have B:beh s (c::r)<s.length:=by unfold beh;rw[Ga];omega
    have k:decide (((beh s (c::r):Nat):Int)<(s.length:Int))=true:=Fa (by omega);have v:w64 ((a.length:Int)+1)=(a.length:Int)+1:=QW (by omega) (by omega);simp only[k,Ca,v];rw[JD n]at i;have g:=congrArg List.length i;rw[Na,Ga]at g;by_cases j:a.length=1500
    ·grind
    ·have p:decide ((a.length:Int)+1>1500)=false:=Ia (by omega);simp only[p,Ba,zOM o m rfl,Aa];unfold xG;rw[ZQ (zLk (by simp only;omega))];have h:(vg (c::r)).2<:+s:=(Gx c r).trans (Kk m);simp only[Aa,aZ o h];refine .inl ⟨_,rfl,⟨a++[(vg (c::r)).1],cmtS (vg (c::r)).2,?_,(ut _).trans h,xC _,by grind,?_⟩,?_⟩
     ·grind
     ·rw[UX,Ub];exact i
     ·have E:=(Gx c r).length_le;have F:=(ut (vg (c::r)).2).length_le;show s.length - beh s (cmtS (vg (c::r)).2)<s.length - beh s (c::r);unfold beh at*
      grind
  obtain⟨z,D,u⟩:=f
  grind
theorem nJ(r:Str):(Zh r).1.length+3*(Zh r).2.length<=3*r.length+3:=by
 have h4:=Ux r;cases r with
 |nil=>exact Xa _
 |cons c t=>
  have h:(Zh (c::t)).2.length<=t.length:=by
   show(if Jg c then(Xj (hexes 6 0 (c::t)).1,unsp (hexes 6 0 (c::t)).2)else([c],t)).2.length<=t.length;cases hc:Jg c with
   |true=>
    have e:hexes 6 0 (c::t)=hexes 5 (16*0+hexN c) t:=by rw[hexes,hc,Sa rfl]
    rw[Sa rfl,e];exact((SX _).trans (Tx 5 _ t)).length_le
   |false=>exact Xa _
  rw[Ga];omega
theorem Nt(l:Str):(ZE l).1.length+3*(ZE l).2.length<=3*l.length:=by
 match l with
 |[]=>rw[sD];exact Xa _
 |c::r=>
  rw[Cz];split
  ·have:=Nt r;show(c::(ZE r).1).length+3*(ZE r).2.length<=_;rw[Ga,Ga];omega
  ·split
   ·have h1:=ZW r;have h2:=nJ r;have:=Nt (Zh r).2;show((Zh r).1++(ZE (Zh r).2).1).length+3*(ZE (Zh r).2).2.length<=_;rw[Na,Ga];omega
   ·show 0+3*(c::r).length<=_;omega
termination_by l.length
decreasing_by
 all_goals first|(have:=ZW r;simp only[Ga];omega)|(simp only[Ga];omega)
theorem vH{u:Str}{o:Option Str}{t:Str}{k:Nat}(h:o.map (u++ ·)=some t)(hk: ∀t',o=some t'->t'.length<=k):t.length<=u.length+k:=by
 cases o with
 |none=>cases h
 |some t'=> injection h with h;rw[<-h,Na];have:=hk t' rfl;omega
theorem VC{m:UInt8}{q t:Str}(h:(Z0 m q).1=some t):t.length+3*(Z0 m q).2.length<=3*q.length:=by
 match q with
 |[]=>rw[uy]at h ⊢;cases h;exact Xa _
 |c::r=>
  rw[tK]at h ⊢;rw[Ga];split
  ·rename_i h1;rw[Sa h1]at h;cases h;show 0+3*r.length<=_;omega
  ·rename_i h1;rw[Oa h1]at h;split
   ·rename_i h2;rw[Sa h2]at h;cases h
   ·rename_i h2;rw[Oa h2]at h;split
    ·rename_i h3;rw[Sa h3]at h;split
     ·rename_i h4;rw[Sa h4]at h;cases h;show 0+3*0<=_;omega
     ·rename_i h4;rw[Oa h4]at h;split
      ·rename_i h5;rw[Sa h5]at h;have:=VC (q:=r.drop 1) h;rw[jb]at this;omega
      ·rename_i h5;rw[Oa h5]at h;have h6:=ZW r;have h7:=nJ r;have:=vH (k:=3*(Zh r).2.length - 3*(Z0 m (Zh r).2).2.length) h (fun t' ht'=>by have:=VC ht';omega);have h8:=(bu m (Zh r).2).length_le;show t.length+3*(Z0 m (Zh r).2).2.length<=_;omega
    ·rename_i h3;rw[Oa h3]at h;have:=vH (u:=[c]) (k:=3*r.length - 3*(Z0 m r).2.length) h (fun t' ht'=>by have:=VC ht';omega);have h8:=(bu m r).length_le;rw[Mc]at this;show t.length+3*(Z0 m r).2.length<=_;omega
termination_by q.length
decreasing_by
 all_goals first|(have:=ZW r;simp only[Ga];omega)|(simp only[Ga,jb];omega)
theorem lM{q t:Str}(h:(urlS q).1=some t):t.length+3*(urlS q).2.length<=3*q.length:=by
 match q with
 |[]=>rw[aI]at h ⊢;cases h;exact Xa _
 |c::r=>
  rw[NJ]at h ⊢;rw[Ga];split
  ·rename_i h1;rw[Sa h1]at h;cases h;show 0+3*r.length<=_;omega
  ·rename_i h1;rw[Oa h1]at h;split
   ·rename_i h2;rw[Sa h2]at h;have hp:=(fq spB r).length_le;split
    ·rename_i h3;rw[h3]at h;cases h;show 0+3*0<=_;omega
    ·rename_i d r' h3;rw[h3]at h hp;rw[Ga]at hp;simp only at h;split
     ·rename_i h4;rw[Sa h4]at h;cases h;show 0+3*r'.length<=_;omega
     ·rename_i h4;rw[Oa h4]at h;cases h
   ·rename_i h2;rw[Oa h2]at h;split
    ·rename_i h3;rw[Sa h3]at h;cases h
    ·rename_i h3;rw[Oa h3]at h;split
     ·rename_i h5;rw[Sa h5]at h;have h6:=ZW r;have h7:=nJ r;have:=vH (k:=3*(Zh r).2.length - 3*(urlS (Zh r).2).2.length) h (fun t' ht'=>by have:=lM ht';omega);have h8:=(Rt (Zh r).2).length_le;show t.length+3*(urlS (Zh r).2).2.length<=_;omega
     ·rename_i h5;rw[Oa h5]at h;have:=vH (u:=[c]) (k:=3*r.length - 3*(urlS r).2.length) h (fun t' ht'=>by have:=lM ht';omega);have h8:=(Rt r).length_le;rw[Mc]at this;show t.length+3*(urlS r).2.length<=_;omega
termination_by q.length
decreasing_by
 all_goals first|(have:=ZW r;simp only[Ga];omega)|(simp only[Ga];omega)
theorem zNS(c:UInt8)(r:Str):(vg (c::r)).1.text.length+(vg (c::r)).1.unit.length+3*(vg (c::r)).2.length<=3*(r.length+1):=by
 have hs:=(Gx c r).length_le;rw[mP]at hs ⊢;split
 ·rename_i h1;rw[Sa h1]at hs;simp only[Aj,Eb]at hs ⊢;omega
 rename_i h1;rw[Oa h1]at hs;split
 ·rename_i h2;rw[Sa h2]at hs;simp only at hs ⊢;cases ho:(Z0 c r).1 with
  |none=>show 0+0+_<=_;omega
  |some t=>have:=VC ho;show t.length+0+_<=_;omega
 rename_i h2;rw[Oa h2]at hs;split
 ·have:=Nt r;simp only[Eb];omega
 rename_i h3;rw[Oa h3]at hs;split
 ·rename_i h4;have h5:=(TQ h4).length_le;rw[Sa h4]at hs;unfold Ro at hs ⊢;split
  ·have:=Nt (qM (c::r)).1;simp only[Eb];omega
  ·rename_i h6;rw[Oa h6]at hs;split
   ·rename_i h7;rw[Sa h7]at hs;simp only[Eb]at hs ⊢;omega
   ·rename_i h7;rw[Oa h7]at hs;simp only[Eb]at hs ⊢;omega
 rename_i h4;rw[Oa h4]at hs;split
 ·rename_i h5;rw[Sa h5]at hs;simp only[Aj,Eb]at hs ⊢;omega
 rename_i h5;rw[Oa h5]at hs;split
 ·rename_i h6;rw[Sa h6]at hs;simp only[Aj,Eb]at hs ⊢;omega
 rename_i h6;rw[Oa h6]at hs;split
 ·have:=Nt r;simp only[Eb];omega
 rename_i h7;rw[Oa h7]at hs;split
 ·have hn:=Nt (c::r);rw[Ga]at hn;unfold Bo;split
  ·split
   ·have h8:=(fq spB ((ZE (c::r)).2.drop 1)).length_le;have h9:=(Rt (past spB ((ZE (c::r)).2.drop 1))).length_le;rw[jb]at h8;simp only;cases ho:(urlS (past spB ((ZE (c::r)).2.drop 1))).1 with
    |none=>show 0+0+_<=_;omega
    |some t=>have:=lM ho;show t.length+0+_<=_;omega
   ·simp only[Eb,jb];omega
  ·simp only[Eb];omega
 split
 ·simp only[Eb,Mc];omega
 ·simp only[Aj,Eb];omega
theorem pU(q:Str):wtT (jg q)<=5*q.length:=by
 cases hc:cmtS q with
 |nil=>rw[LC hc,wtT];exact Va _
 |cons c r=>
  have h2:=(ut q).length_le;have h3:=(Gx c r).length_le;rw[hc,Ga]at h2;rw[JD hc,wtT];have h4:(vg (c::r)).2.length<q.length:=by omega
  have:=pU (vg (c::r)).2;have:=zNS c r;omega
termination_by q.length
decreasing_by all_goals omega
end Go.Lv.VT
