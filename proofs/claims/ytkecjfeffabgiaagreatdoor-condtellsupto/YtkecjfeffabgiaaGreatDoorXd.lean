/- Urls that are bad: what the scanner's function computes. -/
import Derived.Test.YtkecjfeffabgiaaGreatDoorXc
import Derived.Test.YtkecjfeffabgiaaGreatDoorXa
set_option linter.unusedSimpArgs false
set_option linter.unusedVariables false
namespace Go.Lv.VT
set_option maxRecDepth 100000
theorem aZ{n:Nat}(l:n≠0)(h:n<16777216):qO (w32 (n:Int))=some (xg n):=by
 have j:Zj 0 1 1=true:=Lh (by omega);have f:Zj 0 2 1=true:=Lh (by omega);have d:Zj 0 3 1=true:=Lh (by omega);have g:Zj 0 4 1=true:=Lh (by omega);have c:(128+n%64)<256:=by omega
 have a:(128+n / 64%64)<256:=by omega
 have b:(128+n / 4096%64)<256:=by omega
 unfold qO qW xg;simp only[Io (show n<2147483648 by omega),vP (show n<2147483648 by omega),za,shr6,nZ,mZ,eQ,ZJ c,ZJ a,ZJ b,Aa];by_cases e:n<128
 ·rw[Ga (by omega),Ca,Nu,ZJ (by omega),Aa,zo j,Ja (by omega),Ka e,ve (by omega)]
 ·rw[La (by omega),Ba];by_cases i:n<2048
  ·rw[Ga (by omega),Ca,lZ (by omega),ZJ (by omega)];simp only[Aa];rw[zo f,Ja (by omega),Ja (by omega),Ka i];rfl
  ·rw[La (by omega),Ba];by_cases m:n<55296
   ·rw[Ga (by omega),Ca,zk];simp only[Ca];rw[WH (by omega),ZJ (by omega)];simp only[Aa];rw[zo d,Ja (by omega),Ja (by omega),Ja (by omega),Ka (by omega)];rfl
   ·rw[La (by omega),Ba,zk];simp only[P5];by_cases k:57343<n/\n<65536
    ·rw[Ga (by omega),Ga (by omega),Lb,Ca,WH (by omega),ZJ (by omega)];simp only[Aa];rw[zo d,Ja (by omega),Ja (by omega),Ja (by omega),Ka (by omega)];rfl
    ·rw[show(decide ((57343:Int)<(n:Int))&&decide ((n:Int)<=65535))=false by grind,Ba];by_cases o:65535<n/\n<=1114111
     ·rw[Ga (by omega),Ga (by omega),Lb,Ca,kZ (by omega),ZJ (by omega)];simp only[Aa];rw[zo g,Ja (by omega),Ja (by omega),Ja (by omega),Ja (by omega)];rfl
     ·rw[show(decide ((n:Int)>65535)&&decide ((n:Int)<=1114111))=false by grind,Ba,zo d,Ka (by omega)];rfl
theorem JU:qO 65533=some Hl:=by have h:=aZ (n:=65533) (by omega) (by omega);rw[Io (by omega)]at h;exact h
theorem zBq{s l:Str}{c:UInt8}(hs:s.length<=big)(hr:c::l<:+s):
  qB (sr s (c::l))=some (sr s (zA l).2,(zA l).1):=by
 have hl:=Zq hr;unfold qB;simp only[yh hs hr,za,Wh hs hl,Aa,Jq];cases l with
 |nil=> rw[show([]:Str).isEmpty=true from rfl,Ca,JU];rfl
 |cons d r=>
  rw[show(d::r).isEmpty=false from rfl,Ba,eH];simp only[Aa,gu];cases hx:Qw (atS (d::r) 0)with
  |false=>
   rw[Ra,Ca,Tq,uy];simp only[Aa,yh hs hl];rw[zo (Lh (n:=0) (by omega))];have:zA (d::r)=([d],r):=by show(if Qw d then _ else _)=_;rw[Ja (by rw[show Qw d=false from hx];decide)]
   rw[this]
  |true=>
   rw[Ta,Ba];have he:zA (d::r)=(xg (hexes 6 0 (d::r)).1,unsp (hexes 6 0 (d::r)).2):=by show(if Qw d then _ else _)=_;rw[Ka (show Qw d=true from hx)]
   rw[he];rw[Zk (EQ (l:=d::r) hl (fun n i q hq hn hi=> ?_))]
   ·have hq:(hexes 6 0 (d::r)).2<:+s:=(Gz 6 0 _).trans hl;have hlt:=JE 6 0 (d::r);rw[show 16 ^ 6*(0+1)=16777216 from rfl]at hlt;simp only[Wh hs hq,Aa,Dy];have hj:(bif spB (atS (hexes 6 0 (d::r)).2 0)then some (LX.out (((hexes 6 0 (d::r)).1:Int),(⟨s,w64 ((beh s (hexes 6 0 (d::r)).2:Int)+1)⟩:zb)))else some (LX.out (((hexes 6 0 (d::r)).1:Int),sr s (hexes 6 0 (d::r)).2)):Option (LX (Int×zb) (zb×List UInt8)))
      =some (LX.out (((hexes 6 0 (d::r)).1:Int),sr s (unsp (hexes 6 0 (d::r)).2))):=by
     cases hh:(hexes 6 0 (d::r)).2 with
     |nil=>rfl
     |cons e t=>
      rw[hh]at hq;rw[show atS (e::t) 0=e from rfl,yh hs hq];show _=some (LX.out (_,sr s (if spB e then t else e::t)))
      grind
    rw[hj,zk];simp only;by_cases h0:(hexes 6 0 (d::r)).1=0
    ·rw[h0,show((((0:Nat):Int))==0)=true from rfl,Ca,zk];simp only[Io (show 65533<2147483648 by omega),show w32 (65533:Int)=65533 from Io (n:=65533) (by omega),JU,Aa];rfl
    ·rw[show(((hexes 6 0 (d::r)).1:Int)==0)=false by grind,Ba,zk];simp only[aZ h0 hlt,Aa]
   ·simp only[Wh hs hq,Aa,eH,gu];have hb6:decide ((i:Int)<6)=decide (i<6):=by rw[Bg];omega
    rw[hb6];cases decide (i<6)with
    |false=>rfl
    |true=>
     rw[Ca,aa];cases hx2:Qw (atS q 0)with
     |false=>rfl
     |true=>
      cases q with
      |nil=>exact absurd hx2 (by decide)
      |cons e t=>
       have hI:hexI (atS (e::t) 0)=(hexN (atS (e::t) 0):Int):=by unfold hexI;rw[Ka hx2]
       rw[hI,U1 hn (Ry hx2),yh hs hq,zM (by omega) (by omega)];rfl
theorem pu:badS []=[]:=by rw[badS]
theorem Av(c:UInt8)(r:Str):badS (c::r)=if c==41 then r else if escS (c::r)then badS (zA r).2 else badS r:=by rw[badS]
theorem wD(l:Str):badS l<:+l:=by
 match l with
 |[]=>rw[pu];grind
 |c::r=>
  rw[Av];have a:=jd c r;split
  ·exact a
  ·split
   ·have:=Zu r;exact(wD (zA r).2).trans ((Zw r).trans a)
   ·exact(wD r).trans a
termination_by l.length
decreasing_by
 all_goals grind
theorem zJh{s t:Str}{c:UInt8}(e:s.length<=big)(h:c::t<:+s):geti s (w64 ((beh s t:Int) - 1))=some c:=by
 have f:big=4194304:=rfl;have b:=h.length_le;rw[Fa]at b;have d:=iq h;have g:beh s t=beh s (c::t)+1:=by unfold beh;rw[Fa];omega
 have a:beh s (c::t)<s.length:=by unfold beh;rw[Fa];omega
 rw[zM (by omega) (by omega),show(beh s t:Int) - 1=((beh s (c::t):Nat):Int) by omega,Zb a];rw[Cb a]at d
 grind
theorem badR{s q:Str}(e:s.length<=big)(j:q<:+s):qM (sr s q)=some (⟨8,[],0,[],false⟩,sr s (badS q)):=by
 unfold qM;refine NK ?_;refine ZI (fun z=> ∃(p:Str),z=(sr s p,(⟨0,[],0,[],false⟩:ze))/\p<:+s/\badS q=badS p) (fun z=>s.length - z.1.at_.toNat) _ ?_ ⟨q,rfl,j,rfl⟩;rintro _ ⟨p,rfl,b,g⟩;simp only[za,Wh e b,Aa,Jq];cases p with
 |nil=>exact .inr (.inr ⟨_,rfl,by rw[g,pu]⟩)
 |cons c t=>
  have d:=b.length_le;rw[Fa]at d;have i:=Zq b;have f: ∀u:Str,u.length<=t.length->u<:+s->s.length - beh s u<s.length - beh s (c::t):=by intro u l k;unfold beh;rw[Fa];omega
  rw[show(c::t).isEmpty=false from rfl,Ba,YJ e b];rw[Av]at g;simp only[Aa];cases a:escS (c::t)with
  |true=>
   have h:(c==41)=false:=by unfold escS at a;rw[Da,ma]at a;rw[show c=92 from a.1];decide
   rw[a,h,Ja (by decide),Ka rfl]at g;rw[Ca,zBq e b];exact .inl ⟨_,rfl,⟨_,rfl,(Zw t).trans i,g⟩,f _ (Zu t) ((Zw t).trans i)⟩
  |false=>
   rw[Ba,yh e b,zJh e b];simp only[Aa];rw[show((c.toNat:Int)==41)=(c==41)from Oh c 41]
   grind
theorem dm:urlS []=(some [],[]):=by rw[urlS]
theorem Xj(c:UInt8)(r:Str):urlS (c::r)=if c==41 then(some [],r)
  else if spB c then(match past spB r with
   |[]=>(some [],[])
   |d::a=>if d==41 then(some [],a)else(none,badS (d::a)))
  else if c==34||c==39||c==40||unB c||c==92&& !escS (c::r)then(none,badS (c::r))
  else if c==92 then((urlS (zA r).2).1.map ((zA r).1++ ·),(urlS (zA r).2).2)
  else((urlS r).1.map (c:: ·),(urlS r).2):=by rw[urlS];grind
theorem KI(l:Str):(urlS l).2<:+l:=by
 match l with
 |[]=>rw[dm];grind
 |c::r=>
  rw[Xj];have a:=jd c r;split
  ·exact a
  ·split
   ·have b:=(Xq spB r).trans a;cases e:past spB r with
    |nil=>grind
    |cons d f=>
     rw[e]at b;simp only;split
     ·exact(jd d f).trans b
     ·exact(wD _).trans b
   ·split
    ·exact wD _
    ·split
     ·have:=Zu r;exact(KI (zA r).2).trans ((Zw r).trans a)
     ·exact(KI r).trans a
termination_by l.length
decreasing_by
 all_goals grind
def Bi:Option Str->ze
 |some t=>⟨7,t,0,[],false⟩
 |none=>⟨8,[],0,[],false⟩
theorem zIx(c:UInt8): ∃y,zq (!(bif bif bif bif (c.toNat:Int)==34 then true else(c.toNat:Int)==39 then true else(c.toNat:Int)==40 then true else decide ((c.toNat:Int)<=8)then true else(c.toNat:Int)==11)) (qH ((c.toNat:Int),14,31)) (default:Bool)=some y/\
  (bif bif bif bif bif bif (c.toNat:Int)==34 then true else(c.toNat:Int)==39 then true else(c.toNat:Int)==40 then true else decide ((c.toNat:Int)<=8)then true else(c.toNat:Int)==11 then true else y then true else(c.toNat:Int)==127)=(c==34||c==39||c==40||unB c):=by
 have a: ∀n:Nat,n<256->((zq (!(bif bif bif bif (n:Int)==34 then true else(n:Int)==39 then true else(n:Int)==40 then true else decide ((n:Int)<=8)then true else(n:Int)==11)) (qH ((n:Int),14,31)) (default:Bool)).elim false fun y=>
  (bif bif bif bif bif bif (n:Int)==34 then true else(n:Int)==39 then true else(n:Int)==40 then true else decide ((n:Int)<=8)then true else(n:Int)==11 then true else y then true else(n:Int)==127)==(UInt8.ofNat n==34||UInt8.ofNat n==39||UInt8.ofNat n==40||unB (UInt8.ofNat n)))=true:=by decide+kernel
 have h:=a c.toNat (Ib c);rw[Yc]at h;cases b:zq (!(bif bif bif bif (c.toNat:Int)==34 then true else(c.toNat:Int)==39 then true else(c.toNat:Int)==40 then true else decide ((c.toNat:Int)<=8)then true else(c.toNat:Int)==11)) (qH ((c.toNat:Int),14,31)) (default:Bool)with
 |none=>grind
 |some y=>
  grind
theorem TN(c:UInt8)(t:Str):(pk (c::t) 0== -1)=false:=by rw[Jq];rfl
theorem urlR{s w:Str}(f:s.length<=big)(v:w<:+s):TB (sr s w)=some (Bi (urlS (past spB w)).1,sr s (urlS (past spB w)).2):=by
 have L:big=4194304:=rfl;unfold TB;rw[IC f v];simp only[za,Aa];have E:=Vk spB v;generalize past spB w=q at E ⊢;refine NK ?_;refine ZI (fun z=> ∃(p e:Str),z=(sr s p,(⟨0,[],0,[],false⟩:ze),e)/\p<:+s/\e.length+4*p.length<=4*s.length/\(urlS q).1=(urlS p).1.map (e++ ·)/\(urlS q).2=(urlS p).2) (fun z=>s.length - z.1.at_.toNat) _ ?_
  ⟨q,[],rfl,E,by grind,by simp,rfl⟩
 rintro _ ⟨p,e,rfl,h,G,b,a⟩;simp only[Wh f h,Aa,Dy];cases p with
 |nil=> refine .inr (.inr ⟨_,rfl,?_⟩);rw[dm]at b a;rw[b,a];simp only[Gd,Db,Bi]
 |cons c t=>
  have m:=h.length_le;rw[Fa]at m G;have r:=Zq h;have k: ∀u:Str,u.length<=t.length->u<:+s->s.length - beh s u<s.length - beh s (c::t):=by intro u M J;unfold beh;rw[Fa];omega
  rw[Xj]at b a;rw[show atS (c::t) 0=c from rfl];cases j:spB c with
  |true=>
   have i:(c==41)=false:=by rw[Ia];rintro rfl;exact absurd j (by decide)
   rw[i,j,Ja (by decide),Ka rfl]at b a;have D:past spB (c::t)=past spB t:=by rw[past,Ka j]
   have g:past spB t<:+s:=Vk spB r;rw[Ca,IC f h,D];simp only[Aa,Wh f g];cases o:past spB t with
   |nil=> rw[o]at b a;refine .inr (.inr ⟨_,rfl,?_⟩);simp only at b a;rw[b,a];simp only[Gd,Db,Bi]
   |cons d F=>
    rw[o]at b a g;simp only at b a;unfold bne;rw[WN,TN,show atS (d::F) 0=d from rfl];cases C:d==41 with
    |true=> rw[C,Ka rfl]at b a;refine .inr (.inr ⟨_,?_,rfl⟩);simp only[Ta,Ba,zk,TN,WN,show atS (d::F) 0=d from rfl,C,Ca,yh f g];rw[b,a];simp only[Gd,Db,Bi]
    |false=> rw[C,Ja (by decide)]at b a;refine .inr (.inr ⟨_,?_,rfl⟩);simp only[Ra,Ca,badR f g,Aa,zB1];rw[b,a];rfl
  |false=>
   rw[Ba,zk];simp only[TN,WN,show atS (c::t) 0=c from rfl,Ba,yh f h];cases i:c==41 with
   |true=> rw[i,Ka rfl]at b a;refine .inr (.inr ⟨_,by rw[Ca],?_⟩);rw[b,a];simp only[Gd,Db,Bi]
   |false=>
    rw[i,Ja (by decide),j,Ja (by decide)]at b a;rw[Ba];obtain⟨y,B,A⟩:=zIx c;rw[Tq,B];simp only[Aa];rw[A];cases x:(c==34||c==39||c==40||unB c)with
    |true=> rw[x,jc,Ka rfl]at b a;refine .inr (.inr ⟨_,?_,rfl⟩);rw[Ca,badR f h];simp only[Aa];rw[b,a];rfl
    |false=>
     rw[x,Xb]at b a;rw[Ba];unfold bne;rw[show((c.toNat:Int)==92)=(c==92)from Oh c 92];cases n:c==92 with
     |false=> rw[n,Ob,Ja (by decide),Ja (by decide)]at b a;rw[Ra,Ca,uy];simp only[Aa];rw[zo (Lh (by omega))];exact .inl ⟨_,rfl,⟨t,e++[c],rfl,r,by grind,by rw[b,dE],a⟩,k t (ja _) r⟩
     |true=>
      rw[n,aa]at b a;rw[Ta,Ba,YJ f h];simp only[Aa];cases l:escS (c::t)with
      |true=> rw[l,Ta,Ja (by decide),Ka rfl]at b a;have K:=xq t;have H:=Zu t;refine .inl ⟨(sr s (zA t).2,⟨0,[],0,[],false⟩,e++(zA t).1),?_,⟨_,_,rfl,(Zw _).trans r,by grind,by rw[b,yx],a⟩,k _ H ((Zw _).trans r)⟩;simp only[Ca,gK f h (show e.length<=1000000000 by omega),Aa]
      |false=> rw[l,Ra,Ka rfl]at b a;refine .inr (.inr ⟨_,?_,rfl⟩);rw[Ba,badR f h];simp only[Aa];rw[b,a];rfl
theorem Vl {S X R:Type} {step:S->Option (LO S X R)} {k:X->Option R} (Inv:S->Prop) (b:S->Nat) (y:R)
  (h: ∀s,Inv s->(∃s',step s=some (.again s')/\Inv s'/\b s'<b s)\/(∃x,step s=some (.out x)/\k x=some y)\/step s=some (.ret y)) {s:S} (d:Inv s):zS step s k=some y:=by
 have c: ∀(m:Nat) (s:S),b s<m->Inv s-> ∃r:LX X R,Z7 step m s=some r/\r.go k=some y:=by
  intro m
  induction m with
  |zero=>intro s h;omega
  |succ m i=>
   intro s f d;simp only[Z7];rcases h s d with⟨s',a,e,g⟩|⟨x,a,e⟩|a
   ·grind
   ·simp_all
   simp_all
 obtain⟨r,a,e⟩:=c (b s+1) s (by omega) d;rw[Pi (QY a)];exact e
theorem dS(p:UInt8->Bool): ∀l:Str,past p l=l.dropWhile p
 |[]=>rfl
 |c::r=>by
  rw[past,yc];cases h:p c with
  |true=>exact dS p r
  |false=>rfl
theorem uu(p:UInt8->Bool)(l:Str):l.takeWhile p++past p l=l:=by rw[dS,List.takeWhile_append_dropWhile]
theorem DD(p:UInt8->Bool): ∀l:Str,(l.takeWhile p).all p=true
 |[]=>rfl
 |c::r=>by simp_all
def sgOf(l:Str):Str:=if Lg (atS l 0)then [atS l 0]else []
theorem SN(l:Str):sgOf l++unsign l=l:=by
 unfold sgOf unsign;cases h:Lg (atS l 0)with
 |false=>rfl
 |true=>
  rw[Ka rfl,Ka rfl];cases l with
  |nil=>exact absurd h (by decide)
  |cons c r=>rfl
theorem oZ(l:Str):sgB (sgOf l)=true:=by
 unfold sgOf;cases h:Lg (atS l 0)with
 |false=>rfl
 |true=> rw[Ka rfl];unfold Lg at h;rw[Sb,ma,ma]at h;rcases h with h|h<;>rw[h]<;>rfl
def dotP(q:Str):Option Str:=if atS q 0==46&&digB (atS q 1)then some ((q.drop 1).takeWhile digB)else none
def expP(q:Str):Option (UInt8×Str×Str):=
 if(atS q 0==101||atS q 0==69)&&digB (atS (unsign (q.drop 1)) 0)then some (atS q 0,sgOf (q.drop 1),(unsign (q.drop 1)).takeWhile digB)else none
def numP(l:Str):NumP:=⟨sgOf l,(unsign l).takeWhile digB,dotP (past digB (unsign l)),expP (Zi (past digB (unsign l))).1⟩
theorem zBk(q:Str):dotS (dotP q)++(Zi q).1=q/\(Zi q).2=(dotP q).isNone:=by
 unfold dotP Zi;cases h:atS q 0==46&&digB (atS q 1)with
 |false=>exact⟨rfl,rfl⟩
 |true=>
  rw[Ka rfl,Ka rfl];cases q with
  |nil=>exact absurd h (by decide)
  |cons c r=> rw[Da,ma]at h;refine⟨?_,rfl⟩;show(46::List.takeWhile digB r)++past digB r=c::r;rw[Bb,uu,show c=46 from h.1]
theorem zEs(q:Str):expT (expP q)++(match expS q with|some r=>r|none=>q)=q:=by
 unfold expP expS;cases a:atS q 0==101||atS q 0==69 with
 |false=>rfl
 |true=>
  cases b:digB (atS (unsign (q.drop 1)) 0)with
  |false=>rfl
  |true=>
   simp only[Bool.and_self,Ee];cases q with
   |nil=>exact absurd a (by decide)
   |cons c r=> show(c::(sgOf r++List.takeWhile digB (unsign r)))++past digB (unsign r)=c::r;rw[Bb,Na,uu,SN]
theorem nE(l:Str):(numP l).txt++(zJ l).1=l:=by
 have c:=(zBk (past digB (unsign l))).1;have b:=zEs (Zi (past digB (unsign l))).1;have a:(zJ l).1=(match expS (Zi (past digB (unsign l))).1 with|some r=>r|none=>(Zi (past digB (unsign l))).1):=by unfold zJ;simp only;cases expS (Zi (past digB (unsign l))).1<;>rfl
 rw[a];show(sgOf l++(List.takeWhile digB (unsign l)++(dotS (dotP (past digB (unsign l)))++expT (expP (Zi (past digB (unsign l))).1))))++_=l;rw[Na,Na,Na,b,c,uu,SN]
theorem RO{p:UInt8->Bool}{q:Str}(h:p (atS q 0)=true)(a:p 0=false):(q.takeWhile p).isEmpty=false:=by
 cases q with
 |nil=>rw[show atS [] 0=0 from rfl,a]at h;cases h
 |cons c r=>rw[Ih,Ka (show p c=true from h)];rfl
theorem YC{l:Str}(h:nbS l=true):(numP l).ok=true:=by
 unfold NumP.ok numP;simp only[oZ,DD,aa,Da];refine⟨?_,?_⟩
 ·unfold dotP;cases a:atS (past digB (unsign l)) 0==46&&digB (atS (past digB (unsign l)) 1)with
  |true=> rw[Ka rfl];simp only[DD,Lb];rw[Da]at a;rw[RO (p:=digB) (by rw[Ni];exact a.2) (by decide)];rfl
  |false=>
   rw[Ja (by decide)];simp only;cases b:digB (atS (unsign l) 0)with
   |true=>rw[RO b (by decide)];rfl
   |false=>
    exfalso;have f:past digB (unsign l)=unsign l:=by
     cases e:unsign l with
     |nil=>rfl
     |cons c r=>rw[e]at b;rw[past,Ja (by rw[show digB c=false from b];decide)]
    rw[f]at a;unfold nbS undot at h;cases d:atS (unsign l) 0==46 with
    |false=>grind
    |true=>
     rw[d,Ka rfl,Ni]at h
     grind
 ·unfold expP;cases a:(atS (Zi (past digB (unsign l))).1 0==101||atS (Zi (past digB (unsign l))).1 0==69)&&digB (atS (unsign ((Zi (past digB (unsign l))).1.drop 1)) 0)with
  |false=>rfl
  |true=> rw[Ka rfl];rw[Da]at a;simp only[a.1,oZ,DD,Lb,aa];rw[RO a.2 (by decide)];rfl
theorem zKd{n:NumP}(h:n.ok=true):n.txt≠[]:=by
 obtain⟨c,D,F,X⟩:=n;unfold NumP.ok at h;simp only[Da]at h;intro e;unfold NumP.txt at e;simp only[List.append_eq_nil_iff]at e;obtain⟨g,b,a,d⟩:=e;subst b;cases F with
 |none=>grind
 |some f=>cases a
theorem zxj{c:UInt8}{r:Str}(h:nbS (c::r)=true):(zJ (c::r)).1<:+r:=by
 have e:=nE (c::r);have b:=zKd (YC h);cases a:(numP (c::r)).txt with
 |nil=>grind
 |cons d t=>
  grind
def zN(l:Str):ze×Str:=
 if nmS (zJ l).1 then(⟨12,[],(numP l).val,(zt (zJ l).1).1,(zJ l).2⟩,(zt (zJ l).1).2)
 else if atS (zJ l).1 0==37 then(⟨11,[],(numP l).val,[],false⟩,(zJ l).1.drop 1)
 else(⟨10,[],(numP l).val,[],(zJ l).2⟩,(zJ l).1)
theorem iI{s l t e:Str}(a:l<:+s)(h:t++e=l):List.drop (beh s l) (List.take (beh s e) s)=t:=by
 obtain⟨p,rfl⟩:=a;subst h;have c:beh (p++(t++e)) (t++e)=p.length:=by unfold beh;simp only[Ea];omega
 have b:beh (p++(t++e)) e=(p++t).length:=by unfold beh;simp only[Ea];omega
 grind
theorem zE9{s l:Str}(hs:s.length<=40000)(hl:l<:+s)(h:nbS l=true):qj (sr s l)=some ((zN l).1,sr s (zN l).2):=by
 have hsb:s.length<=big:=by unfold big;omega
 have he:=NU hl;have hle:=hl.length_le;have hsp:=nE l;have hel:(zJ l).1.length<=l.length:=by have:=congrArg List.length hsp;rw[Ea]at this;omega
 have htl:(numP l).txt.length<=40000:=by have:=congrArg List.length hsp;rw[Ea]at this;omega
 unfold qj;rw[zEt hsb hl];simp only[za,Aa];have h1:(beh s l:Int)<=(beh s (zJ l).1:Int):=by unfold beh;omega
 have h2:=Li s (zJ l).1;rw[zo (by simp_all),Oa,Oa,iI hl hsp,yX (YC h) htl];simp only[Aa];rw[show zW (0,sr s (zJ l).1)=some (nmS (zJ l).1)from kN (k:=0) hsb he (by omega)];simp only[Aa];unfold zN;cases hn:nmS (zJ l).1 with
 |true=> rw[Ca,aH hsb he,Ka rfl];rfl
 |false=>
  rw[Ba,Wh hsb he,Ja (by decide)];simp only[Aa,zKw];cases h37:atS (zJ l).1 0==37 with
  |true=> rw[Ca,zk,iB hsb he (by grind),Ka rfl]
  |false=>simp_all
theorem nD(l:Str):(zt l).1.length<=4*l.length:=by
 match l with
 |[]=>rw[Qx];grind
 |c::r=>
  rw[zZ];split
  ·have:=nD r
   grind
  ·split
   ·have b:=Zu r;have a:=xq r;have:=nD (zA r).2
    grind
   grind
termination_by l.length
decreasing_by
 all_goals grind
def Qm(l:Str):ze×Str:=
 if atS (zt l).2 0==40 then
  (if(lowS (zt l).1==[117,114,108])&& !(atS (past spB ((zt l).2.drop 1)) 0==34||atS (past spB ((zt l).2.drop 1)) 0==39)
  then(Bi (urlS (past spB ((zt l).2.drop 1))).1,(urlS (past spB ((zt l).2.drop 1))).2)
  else(⟨2,(zt l).1,0,[],false⟩,(zt l).2.drop 1))
 else(⟨1,(zt l).1,0,[],false⟩,(zt l).2)
theorem zHz{s q:Str}(m:s.length<=40000)(g:q<:+s):qf (sr s q)=some ((Qm q).1,sr s (Qm q).2):=by
 have a:s.length<=big:=by unfold big;omega
 have e:(zt q).2<:+s:=(Ul q).trans g;have l:=nD q;have i:=g.length_le;have f:(zt q).1.length<=big:=by unfold big;omega
 unfold qf;rw[aH a g];simp only[za,Aa,Wh a e];unfold bne Qm;rw[zKx];cases d:atS (zt q).2 0==40 with
 |false=>rfl
 |true=>
  have c:atS (zt q).2 0≠0:=by rw[ma.1 d];decide
  rw[Ta,Ba,Ka rfl,iB a e c,yK f (by decide),Gu];simp only[Aa];have b:=Xk e 1;cases n:lowS (zt q).1==[117,114,108]with
  |false=>rfl
  |true=>
   rw[Ca,IC a b,aa];have k:=Vk spB b;simp only[Aa,Wh a k];rw[iZ,gZ];cases j:atS (past spB ((zt q).2.drop 1)) 0==34 with
   |true=>rfl
   |false=>
    cases h:atS (past spB ((zt q).2.drop 1)) 0==39 with
    |true=>rfl
    |false=> rw[urlR a b];rfl
theorem zE0{c:UInt8}{r:Str}(h:letB c=true\/escS (c::r)=true):(zt (c::r)).2<:+r:=by
 rw[zZ];split
 ·exact Ul r
 ·rename_i a;rw[Ka (h.resolve_left a)];exact(Ul _).trans (Zw r)
theorem YQ{c:UInt8}{r:Str}(h:nmS (c::r)=true):letB c=true\/escS (c::r)=true:=by
 unfold nmS at h;cases a:atS (c::r) 0==45 with
 |true=> left;rw[show c=45 from ma.1 a];decide
 |false=>
  rw[a,Ja (by decide),Sb]at h;rcases h with h|h
  ·left;unfold letB;rw[show fstB c=true from h];rfl
  ·exact .inr h
theorem zBQ{c:UInt8}{r:Str}(h:nmS (c::r)=true):(Qm (c::r)).2<:+r:=by
 have b:=zE0 (YQ h);have a:(zt (c::r)).2.drop 1<:+r:=(Bf 1 _).trans b;unfold Qm;split
 ·split
  ·exact(KI _).trans ((Xq spB _).trans a)
  ·exact a
 ·exact b
def nxU(c:UInt8)(r:Str):ze×Str:=
  if nmS (c::r)then Qm (c::r)
  else if pg c==0 then(⟨9,[c],0,[],false⟩,r)
  else(lh (pg c),r)
def nxT(c:UInt8)(r:Str):ze×Str:=
  if nbS (c::r)then zN (c::r)
  else if [45,45,62].isPrefixOf (c::r)then(lh 15,(c::r).drop 3)
  else if [60,33,45,45].isPrefixOf (c::r)then(lh 14,(c::r).drop 4)
  else if c==64&&nmS r then(⟨3,(zt r).1,0,[],false⟩,(zt r).2)
  else nxU c r
def ZV:Str->ze×Str
 |[]=>(⟨0,[],0,[],false⟩,[])
 |c::r=>
  if spB c then(lh 13,past spB (c::r))
  else if c==34||c==39 then(Mk (Zo c r).1,(Zo c r).2)
  else if c==35&&(letB (atS r 0)||escS r)then(⟨4,(zt r).1,0,[],nmS r⟩,(zt r).2)
  else nxT c r
theorem Pv(c:UInt8)(r:Str):ZV (c::r)=
  if spB c then(lh 13,past spB (c::r))
  else if c==34||c==39 then(Mk (Zo c r).1,(Zo c r).2)
  else if c==35&&(letB (atS r 0)||escS r)then(⟨4,(zt r).1,0,[],nmS r⟩,(zt r).2)
  else if nbS (c::r)then zN (c::r)
  else if [45,45,62].isPrefixOf (c::r)then(lh 15,(c::r).drop 3)
  else if [60,33,45,45].isPrefixOf (c::r)then(lh 14,(c::r).drop 4)
  else if c==64&&nmS r then(⟨3,(zt r).1,0,[],false⟩,(zt r).2)
  else if nmS (c::r)then Qm (c::r)
  else if pg c==0 then(⟨9,[c],0,[],false⟩,r)
  else(lh (pg c),r):=rfl
theorem zxm{c:UInt8}{r:Str}(h:nbS (c::r)=true):(zN (c::r)).2<:+r:=by
 have a:=zxj h;unfold zN;split
 ·exact(Ul _).trans a
 ·split
  ·exact(Bf 1 _).trans a
  ·exact a
theorem Yk(c:UInt8)(r:Str):(ZV (c::r)).2<:+r:=by
 rw[Pv];split
 ·rename_i h;show past spB (c::r)<:+r;rw[past,Ka h];exact Xq spB r
 ·split
  ·exact iF c r
  ·split
   ·exact Ul r
   ·split
    ·rename_i h;exact zxm h
    ·split
     ·exact Bf 2 r
     ·split
      ·exact Bf 3 r
      ·split
       ·exact Ul r
       ·split
        ·rename_i h;exact zBQ h
        grind
theorem zEU(c:UInt8):decide (Lib.indexByte [58,59,44,91,93,40,41,123,125] c>=0)= !(pg c==0)/\(pg c≠0->wu8 (16+wu8 (Lib.indexByte [58,59,44,91,93,40,41,123,125] c))=pg c):=by
 have: ∀n:Nat,n<256->decide (Lib.indexByte [58,59,44,91,93,40,41,123,125] (UInt8.ofNat n)>=0)= !(pg (UInt8.ofNat n)==0)/\(pg (UInt8.ofNat n)≠0->wu8 (16+wu8 (Lib.indexByte [58,59,44,91,93,40,41,123,125] (UInt8.ofNat n)))=pg (UInt8.ofNat n)):=by decide+kernel
 have:=this c.toNat (Ib c);simp_all
theorem Wj{m q:Str}(h:m.isPrefixOf q=true):m.length<=q.length:=by
 grind
def wB(s:Str)(X:ze×Str):Option (ze×zb):=some (X.1,sr s X.2)
theorem zKq{s q:Str}{c:UInt8}{r:Str}(y:s.length<=40000)(b:q<:+s)(D:q=c::r):Qg (sr s q)=some ((ZV q).1,sr s (ZV q).2):=by
 subst D;have a:s.length<=big:=by unfold big;omega
 have A:=Zq b;have J:(c::r).drop 1=r:=rfl;rw[show ZV (c::r)=if spB c then(lh 13,past spB (c::r))else if c==34||c==39 then(Mk (Zo c r).1,(Zo c r).2)else if c==35&&(letB (atS r 0)||escS r)then(⟨4,(zt r).1,0,[],nmS r⟩,(zt r).2)else nxT c r from rfl];unfold Qg;simp only[za,Wh a b,Aa];rw[zo vZ];simp only[Dy,Aa,iZ,gZ,zKv,zKy,vO b,Jp,show atS (c::r) 0=c from rfl,Rs];cases Q:spB c with
 |true=> rw[Ca,IC a b,Ka rfl];rfl
 |false=>
  rw[Ba,Ja (by decide)];cases H:c==34||c==39 with
  |true=> rw[Ca,zIk a b,Ka rfl];rfl
  |false=>
   rw[Ba,Ja (by decide)];have p:zD (1,sr s (c::r))=some (escS r):=OE (k:=1) a b (by omega);have g:zW (1,sr s (c::r))=some (nmS r):=kN (k:=1) a b (by omega);have l:zW (0,sr s (c::r))=some (nmS (c::r)):=kN (k:=0) a b (by omega);have u:(⟨s,w64 ((beh s (c::r):Int)+1)⟩:zb)=sr s r:=by rw[yh a b]
   rw[u];have o:((Z0 (sr s (c::r))).bind fun w=>
    bif w then
     (qj (sr s (c::r))).bind fun j=>
     some (j.1,j.2)
    else
     (some ([45,45,62].isPrefixOf (c::r))).bind fun v=>
     bif v then
      some ((⟨15,[],0,[],false⟩:ze),(⟨s,w64 ((beh s (c::r):Int)+3)⟩:zb))
     else
      (some ([60,33,45,45].isPrefixOf (c::r))).bind fun t=>
      bif t then
       some ((⟨14,[],0,[],false⟩:ze),(⟨s,w64 ((beh s (c::r):Int)+4)⟩:zb))
      else
       (zq (c==64) (zW (1,sr s (c::r))) (default:Bool)).bind fun h=>
       bif bif c==64 then h else false then
        (Zh (sr s r)).bind fun f=>
        some ((⟨3,f.1,0,[],false⟩:ze),f.2)
       else
        (zW (0,sr s (c::r))).bind fun i=>
        bif i then
         (qf (sr s (c::r))).bind fun d=>
         some (d.1,d.2)
        else
         (strings_IndexByte ([58,59,44,91,93,40,41,123,125],wu8 (pk (c::r) 0))).bind fun e=>
         bif decide (e>=0)then
          some ((⟨wu8 (16+wu8 e),[],0,[],false⟩:ze),sr s r)
         else
          need (decide (1<=((c::r).length:Int)))<|
          some ((⟨9,List.take 1 (c::r),0,[],false⟩:ze),sr s r))=
    wB s (nxT c r):=by
    unfold nxT;simp only[zHW a b,Aa];cases x:nbS (c::r)with
    |true=> rw[Ca,zE9 y b x,Ka rfl];rfl
    |false=>
     rw[Ba,Ja (by decide)];cases O:[45,45,62].isPrefixOf (c::r)with
     |true=> rw[Ca,Ka rfl,show(3:Int)=((3:Nat):Int)from rfl,mH (n:=3) a b (Wj O)];rfl
     |false=>
      rw[Ba,Ja (by decide)];cases L:[60,33,45,45].isPrefixOf (c::r)with
      |true=> rw[Ca,Ka rfl,show(4:Int)=((4:Nat):Int)from rfl,mH (n:=4) a b (Wj L)];rfl
      |false=>
       rw[Ba,Ja (by decide),g,l];have m: ∀z:Bool,((some z).bind fun h=>bif h then
        (Zh (sr s r)).bind fun f=>
        some ((⟨3,f.1,0,[],false⟩:ze),f.2)
       else
        (some (nmS (c::r))).bind fun i=>
        bif i then
         (qf (sr s (c::r))).bind fun d=>
         some (d.1,d.2)
        else
         (strings_IndexByte ([58,59,44,91,93,40,41,123,125],wu8 (pk (c::r) 0))).bind fun e=>
         bif decide (e>=0)then
          some ((⟨wu8 (16+wu8 e),[],0,[],false⟩:ze),sr s r)
         else
          need (decide (1<=((c::r).length:Int)))<|
          some ((⟨9,List.take 1 (c::r),0,[],false⟩:ze),sr s r))=wB s (if z then(⟨3,(zt r).1,0,[],false⟩,(zt r).2)else nxU c r):=by
        intro z;unfold nxU;simp only[Aa];cases z with
        |true=> rw[Ca,aH a A];rfl
        |false=>
         rw[Ba,Ja (by decide)];cases G:nmS (c::r)with
         |true=>rw[Ca,zHz y b];rfl
         |false=>
          rw[Ba,Ja (by decide),Tq,mr];have R:(wu8 (c.toNat:Int)).toNat.toUInt8=c:=by rw[Nu,ve (Ib c),Oa];exact Yc
          rw[R];obtain⟨K,S⟩:=zEU c;simp only[Aa,K];cases M:pg c==0 with
          |true=> rw[Ta,Ba,zo (Ga (by grind))];rfl
          |false=> rw[Ra,Ca,S (Ia.1 M)];rfl
       cases N:c==64 with
       |false=> simp_all
       |true=> have:=m (nmS r);simp_all
   cases C:c==35 with
   |false=> simp only[zU,Aa,Ba,Ec,Ob];exact o
   |true=>
    simp only[zu,Aa,Ca,Lb,aa,Lx a b,eP];have E:atS (c::r) 1=atS r 0:=rfl;rw[E,p];have F:(bif letB (atS r 0)||escS r then(zW (1,sr s (c::r))).bind fun P=>(Zh (sr s r)).bind fun B=>some ((⟨4,B.1,0,[],P⟩:ze),B.2)else wB s (nxT c r))=wB s (if(letB (atS r 0)||escS r)then(⟨4,(zt r).1,0,[],nmS r⟩,(zt r).2)else nxT c r):=by
     cases letB (atS r 0)||escS r with
     |false=>rfl
     |true=>rw[Ca,g,aH a A];rfl
    show _=wB s (if(letB (atS r 0)||escS r)then(⟨4,(zt r).1,0,[],nmS r⟩,(zt r).2)else nxT c r);rw[<-F];cases T:letB (atS r 0)with
    |true=>rfl
    |false=> simp_all
def clsS:Str->Option Str
 |[]=>none
 |c::r=>if c==42&&atS r 0==47 then some (r.drop 1)else clsS r
theorem Wm: ∀(l:Str) {r:Str},clsS l=some r->r<:+l/\r.length+2<=l.length
 |[],r,h=>by cases h
 |c::t,r,h=>by
  unfold clsS at h;split at h
  ·rename_i a;rw[Da,ma,ma]at a;injection h with h;subst h;have:=EC (l:=t) (n:=0) (by rw[a.2];decide);exact⟨(Bf 1 t).trans (jd c t),by grind⟩
  ·obtain⟨d,b⟩:=Wm t h
   grind
theorem pre2(b:UInt8)(l:Str):([42,47]:Str).isPrefixOf (b::l)=(b==42&&atS l 0==47):=by
 have c:((42:UInt8)==b)=(b==42):=by rw[Ef,ma,ma];exact eq_comm
 rw[List.isPrefixOf,c];cases l with
 |nil=>rfl
 |cons d t=>
  have a:((47:UInt8)==d)=(d==47):=by rw[Ef,ma,ma];exact eq_comm
  rw[List.isPrefixOf,a,List.isPrefixOf];rw[Lb];rfl
theorem BS: ∀l:Str,Lib.index l [42,47]=match clsS l with|none=> -1|some r=>((l.length - r.length - 2:Nat):Int)
 |[]=>rfl
 |b::l=>by
  rw[Lib.index,pre2,clsS];cases h:b==42&&atS l 0==47 with
  |true=>
   grind
  |false=>
   simp only[Yb,Ud];rw[BS l];cases a:clsS l with
   |none=>rfl
   |some r=>
    have:=(Wm l a).2
    grind
def cmtS(l:Str):Str:=
 if([47,42]:Str).isPrefixOf l then
  (match h:clsS (l.drop 2)with
  |some q=>cmtS q
  |none=>[])
 else l
termination_by l.length
decreasing_by
 have:=(Wm _ h).2
 grind
theorem Fj(l:Str):cmtS l=if([47,42]:Str).isPrefixOf l then(match clsS (l.drop 2)with|some q=>cmtS q|none=>[])else l:=by
 rw[cmtS]
 grind
theorem qQ{l:Str}(h:([47,42]:Str).isPrefixOf l=false):cmtS l=l:=by rw[Fj,h];rfl
theorem Ej(l:Str):cmtS l<:+l:=by
 rw[Fj];split
 ·split
  ·rename_i q b;have a:=Wm _ b;have c:=a.2;rw[Dc]at c;exact(Ej q).trans (a.1.trans (Bf 2 l))
  grind
 grind
termination_by l.length
decreasing_by
 grind
theorem um(l:Str):cmtS (cmtS l)=cmtS l:=by
 rw[Fj l];split
 ·split
  ·rename_i q a;have b:=(Wm _ a).2;rw[Dc]at b;exact um q
  ·exact qQ rfl
 ·rename_i h;exact qQ (Bool.eq_false_iff.2 h)
termination_by l.length
decreasing_by
 grind
theorem Jy(l:Str):([47,42]:Str).isPrefixOf (cmtS l)=false:=by
 have h:=um l;cases b:([47,42]:Str).isPrefixOf (cmtS l)with
 |false=>rfl
 |true=>
  exfalso;rw[Fj (cmtS l),b,Ka rfl]at h;have c:=Wj b;rw[show([47,42]:Str).length=2 from rfl]at c;cases a:clsS ((cmtS l).drop 2)with
  |none=>grind
  |some q=>
   rw[a]at h;have d:=(Wm _ a).2;have e:=(Ej q).length_le
   grind
theorem uS{s q:Str}(hs:s.length<=40000)(hq:q<:+s):ZG (sr s q)=some (sr s (cmtS q)):=by
 have hsb:s.length<=big:=by unfold big;omega
 unfold ZG;refine Vl (fun z=> ∃p,z=sr s p/\p<:+s/\cmtS p=cmtS q) (fun z=>s.length - z.at_.toNat) _ ?_ ⟨q,rfl,hq,rfl⟩;rintro _ ⟨p,rfl,hp,he⟩;rw[zo vZ];simp only[za,vO hp,Jp,Aa];rw[Fj p]at he;cases hpre:([47,42]:Str).isPrefixOf p with
 |false=>
  grind
 |true=>
  rw[hpre,Ka rfl]at he;have hl:=Wj hpre;rw[show([47,42]:Str).length=2 from rfl]at hl;have hle:=hp.length_le;have hb:=oI hp hl;have hb2:=Li s (p.drop 2);rw[Ca];have hw:w64 ((beh s p:Int)+2)=((beh s (p.drop 2):Nat):Int):=by rw[<-hb,zM (by omega) (by omega)];omega
  rw[hw,zo (by grind),vO (Xk hp 2)];have hlen:(p.drop 2).length<=40000:=by rw[Dc];omega
  have hi:Km (p.drop 2,[42,47])=some (Lib.index (p.drop 2) [42,47]):=by unfold Km;rw[zo (by exact Ga (show(p.drop 2).length<4294967281 by omega))]
  rw[hi,BS];simp only[Aa];cases hc:clsS (p.drop 2)with
  |none=>
   rw[hc]at he;refine .inr (.inr ?_);rw[<-he];show _=some (LO.ret (⟨s,(beh s []:Int)⟩:zb));unfold beh
   grind
  |some r=>
   rw[hc]at he;obtain⟨h1,h2⟩:=Wm _ hc;have hrs:r<:+s:=h1.trans (Xk hp 2);rw[Dc]at h2 hlen;simp only;rw[La (by omega),Ba];refine .inl ⟨sr s r,?_,⟨r,rfl,hrs,he⟩,?_⟩
   ·rw[Dc,zM (n:=_+4) (by omega) (by omega)];have:(beh s p:Int)+(((p.length - 2 - r.length - 2:Nat):Int)+4)=((beh s r:Nat):Int):=by unfold beh;omega
    rw[this,zM (by grind) (by grind)]
   ·show s.length - beh s r<s.length - beh s p;unfold beh;omega
def Qc(l:Str):List ze:=
 match h:cmtS l with
 |[]=>[]
 |c::r=>(ZV (c::r)).1::Qc (ZV (c::r)).2
termination_by l.length
decreasing_by
 have b:=(Yk c r).length_le;have a:=(Ej l).length_le
 grind
theorem di{l:Str}(h:cmtS l=[]):Qc l=[]:=by
 rw[Qc]
 grind
theorem Yj{l:Str}{c:UInt8}{r:Str}(h:cmtS l=c::r):Qc l=(ZV (c::r)).1::Qc (ZV (c::r)).2:=by
 rw[Qc]
 grind
theorem au(l:Str):Qc (cmtS l)=Qc l:=by
 cases h:cmtS l with
 |nil=>rw[di h];exact di (qQ rfl)
 |cons c r=> rw[Yj h];exact Yj (by rw[<-h,um])
theorem EJ(l:Str):(Qc l).length<=l.length:=by
 cases h:cmtS l with
 |nil=>rw[di h];grind
 |cons c r=>
  have b:(ZV (c::r)).2.length<l.length:=by have d:=(Yk c r).length_le;have a:=(Ej l).length_le;rw[h,Fa]at a;omega
  rw[Yj h,Fa];have:=EJ (ZV (c::r)).2;omega
termination_by l.length
decreasing_by
 all_goals omega
theorem zA1: ∀l:Str,(Proofs.Cl.cleanS l).length<=3*l.length:=by
 have: ∀(n:Nat) (l:Str),l.length<=n->(Proofs.Cl.cleanS l).length<=3*l.length:=by
  intro n
  induction n with
  |zero=>
   intro l h;cases l with
   |nil=>rw[Proofs.Cl.cleanS];grind
   |cons c r=>grind
  |succ n ih=>
   intro l h;rw[Proofs.Cl.cleanS.eq_def]
   grind
 exact fun l=>this l.length l (ja _)
def Pq(w:Str):List ze×Int:=if 4000<w.length then([],28)else if 1500<(Qc (Proofs.Cl.cleanS w)).length then([],4)else(Qc (Proofs.Cl.cleanS w),0)
theorem F9{n:Nat}(h:n<=100000):Zj n 1 56=true:=by unfold Zj;grind
theorem zAv(w:Str):LA w=some (Pq w):=by
 unfold LA Pq;by_cases b:4000<w.length
 ·have e:Rm w=some ([],28):=by unfold Rm;rw[Ka b]
  unfold KA
  grind
 ·have e:Rm w=some (Proofs.Cl.cleanS w,0):=by unfold Rm;rw[Ja b]
  rw[Ja b];have x:=zA1 w;generalize Proofs.Cl.cleanS w=s at e x;have o:s.length<=40000:=by omega
  unfold KA;rw[e];simp only[za,Aa];rw[show((0:Int) != 0)=false from rfl,Ba,sr_0,uS o (Me s)];simp only[Aa];have f: ∃z:Int×List ze,zS (fun(d:Int×List ze×zb)=>
    bif decide (d.2.2.at_<(s.length:Int))then
     bif decide (w64 (d.1+1)>1500)then
      some (LO.ret (4,d.2.1))
     else
      (Qg d.2.2).bind fun t=>
      (WB ((t.1,d.2.2.at_,t.2.at_),d.2.1)).bind fun y=>
      (ZG t.2).bind fun A=>
      some (LO.again (w64 (d.1+1),y,A))
    else
     some (LO.out (d.2.1,d.2.2)):Int×List ze×zb->Option (LO (Int×List ze×zb) (List ze×zb) (Int×List ze))) (0,[],sr s (cmtS s)) (fun C=>some (0,C.1))=some z/\
    z=(if 1500<(Qc s).length then(4,(Qc s).take 1500)else(0,Qc s)):=by
   refine⟨_,Vl (fun z=> ∃(a:List ze) (q:Str),z=((a.length:Int),a,sr s q)/\q<:+s/\cmtS q=q/\a.length<=1500/\a++Qc q=Qc s) (fun z=>s.length - z.2.2.at_.toNat) (if 1500<(Qc s).length then(4,(Qc s).take 1500)else(0,Qc s)) ?_ ⟨[],cmtS s,rfl,Ej s,um s,by simp,by rw[Vb,au]⟩,rfl⟩;rintro _ ⟨a,q,rfl,m,n,G,i⟩;simp only;have l:=m.length_le;cases q with
   |nil=>
    have B:((beh s []:Nat):Int)=(s.length:Int):=by unfold beh;rw[Va];rfl
    have k:decide (((beh s []:Nat):Int)<(s.length:Int))=false:=La (by omega);simp only[k,Ba];rw[di (qQ rfl),Db]at i
    grind
   |cons c r=>
    rw[Fa]at l;have B:beh s (c::r)<s.length:=by unfold beh;rw[Fa];omega
    have k:decide (((beh s (c::r):Nat):Int)<(s.length:Int))=true:=Ga (by omega);have v:w64 ((a.length:Int)+1)=(a.length:Int)+1:=zM (by omega) (by omega);simp only[k,Ca,v];rw[Yj n]at i;have g:=congrArg List.length i;rw[Ea,Fa]at g;by_cases j:a.length=1500
    ·grind
    ·have p:decide ((a.length:Int)+1>1500)=false:=La (by omega);simp only[p,Ba,zKq o m rfl,Aa];unfold WB;rw[zo (F9 (by simp only;omega))];have h:(ZV (c::r)).2<:+s:=(Yk c r).trans (Zq m);simp only[Aa,uS o h];refine .inl ⟨_,rfl,⟨a++[(ZV (c::r)).1],cmtS (ZV (c::r)).2,?_,(Ej _).trans h,um _,by grind,?_⟩,?_⟩
     ·grind
     ·rw[au,Na];exact i
     ·have E:=(Yk c r).length_le;have F:=(Ej (ZV (c::r)).2).length_le;show s.length - beh s (cmtS (ZV (c::r)).2)<s.length - beh s (c::r);unfold beh at*
      grind
  obtain⟨z,D,u⟩:=f
  grind
theorem bi{q:Str}{n:Nat}(x:Str)(h:n<q.length):atS (q++x) n=atS q n:=by
 unfold atS
 grind
theorem gm{p:UInt8->Bool}(x:Str): ∀{q:Str},past p q≠[]->past p (q++x)=past p q++x
 |[],h=>absurd rfl h
 |c::r,h=>by
  rw[Bb,past,past];rw[past]at h;cases a:p c with
  |true=>rw[a,Ka rfl]at h;rw[Ka rfl,Ka rfl];exact gm x h
  |false=>rfl
theorem BD{p:UInt8->Bool}(x:Str): ∀{q:Str},past p q≠[]->(q++x).takeWhile p=q.takeWhile p
 |[],h=>absurd rfl h
 |c::r,h=>by
  rw[Bb,Ih,Ih];rw[past]at h;cases a:p c with
  |true=>rw[a,Ka rfl]at h;rw[Ka rfl,Ka rfl,BD x h]
  |false=>rfl
theorem JS(x:Str): ∀{k n:Nat} {l:Str},(hexes k n l).2≠[]->hexes k n (l++x)=((hexes k n l).1,(hexes k n l).2++x)
 |0,n,l,_=>rfl
 |k+1,n,[],h=>absurd rfl h
 |k+1,n,c::r,h=>by
  rw[Bb,hexes,hexes];rw[hexes]at h;split
  ·rename_i a;rw[Ka a]at h;exact JS x h
  ·rfl
theorem zFK{l:Str}(x:Str)(h:l≠[]):unsp (l++x)=unsp l++x:=by
 cases l with
 |nil=>grind
 |cons c r=> show(if spB c then r++x else c::(r++x))=(if spB c then r else c::r)++x;split<;>rfl
theorem sF{r:Str}(x:Str)(h:(zA r).2≠[]):zA (r++x)=((zA r).1,(zA r).2++x):=by
 cases r with
 |nil=>exact absurd rfl h
 |cons c r=>
  have e: ∀t:Str,zA (c::t)=if Qw c then(xg (hexes 6 0 (c::t)).1,unsp (hexes 6 0 (c::t)).2)else([c],t):=fun t=>rfl;rw[Bb,e,e];rw[e]at h;split
  ·rename_i b;rw[Ka b]at h;have a:(hexes 6 0 (c::r)).2≠[]:=by intro d;rw[d]at h;exact h rfl
   rw[show c::(r++x)=(c::r)++x from rfl,JS x a,zFK x a]
  ·rfl
theorem Iy{c:UInt8}{r:Str}(x:Str)(h:r≠[]\/c≠92):escS (c::(r++x))=escS (c::r):=by
 unfold escS;show(c==92&& !(atS (r++x) 0==10))=(c==92&& !(atS r 0==10));rcases h with h|h
 ·cases r with
  |nil=>grind
  |cons d t=>rfl
 grind
theorem Ev{q:Str}(x:Str)(h:(zt q).2≠[]):zt (q++x)=((zt q).1,(zt q).2++x):=by
 match q with
 |[]=>rw[Qx]at h;grind
 |c::r=>
  rw[Bb,zZ,zZ];rw[zZ]at h;cases f:letB c with
  |true=> rw[f,Ka rfl]at h;simp only[Ee];rw[Ev x h]
  |false=>
   rw[f,Ja (by decide)]at h;simp only[Yb,Ud];cases a:escS (c::r)with
   |true=>
    rw[a,Ka rfl]at h;have g:(zA r).2≠[]:=by intro e;simp only[e,Qx]at h;exact h rfl
    have b:r≠[]:=by rintro rfl;exact g rfl
    rw[Iy x (.inl b),a];simp only[Ee];rw[sF x g];have:=Zu r;simp only;rw[Ev x h]
   |false=>
    have b:r≠[]\/c≠92:=by
     cases r with
     |nil=> right;rintro rfl;exact absurd a (by decide)
     |cons d t=>left;simp
    rw[Iy x b,a];grind
termination_by q.length
decreasing_by
 all_goals grind
theorem jF{m:UInt8}{q:Str}(x:Str)(h:(Zo m q).2≠[]):Zo m (q++x)=((Zo m q).1,(Zo m q).2++x):=by
 match q with
 |[]=>rw[Gn]at h;grind
 |c::r=>
  rw[Bb,Q0,Q0];rw[Q0]at h;cases g:c==m with
  |true=>grind
  |false=>
   rw[g,Ja (by decide)]at h;simp only[Yb,Ud];cases k:c==10 with
   |true=>grind
   |false=>
    rw[k,Ja (by decide)]at h;simp only[Yb,Ud];cases b:c==92 with
    |false=> rw[b,Ja (by decide)]at h;simp only[Yb,Ud];rw[jF x h]
    |true=>
     rw[b,Ka rfl]at h;simp only[Ee];cases f:r with
     |nil=>grind
     |cons d t=>
      rw[f]at h;have j:r.length=t.length+1:=by rw[f];rfl
      rw[Bb,show(d::(t++x)).isEmpty=false from rfl,show(d::t).isEmpty=false from rfl];simp only[Yb,Ud];rw[show(d::t).isEmpty=false from rfl,Ja (by decide)]at h;rw[show atS (d::(t++x)) 0=atS (d::t) 0 from rfl];cases a:atS (d::t) 0==10 with
      |true=> rw[a,Ka rfl]at h;simp only[Ee];exact jF (q:=t) x h
      |false=>
       rw[a,Ja (by decide)]at h;simp only[Yb,Ud];have i:(zA (d::t)).2≠[]:=by intro e;simp only[e,Gn]at h;exact h rfl
       rw[show d::(t++x)=(d::t)++x from rfl,sF x i];have:=Zu (d::t);simp only;rw[jF x h]
termination_by q.length
decreasing_by
 all_goals grind
theorem xD{q:Str}(x:Str)(h:badS q≠[]):badS (q++x)=badS q++x:=by
 match q with
 |[]=>rw[pu]at h;grind
 |c::r=>
  rw[Bb,Av,Av];rw[Av]at h;cases f:c==41 with
  |true=>grind
  |false=>
   rw[f,Ja (by decide)]at h;simp only[Yb,Ud];cases a:escS (c::r)with
   |true=>
    rw[a,Ka rfl]at h;have d:(zA r).2≠[]:=by intro e;rw[e,pu]at h;exact h rfl
    have b:r≠[]:=by rintro rfl;exact d rfl
    rw[Iy x (.inl b),a];simp only[Ee];rw[sF x d];have:=Zu r;exact xD x h
   |false=>
    rw[a,Ja (by decide)]at h;have b:r≠[]\/c≠92:=by left;rintro rfl;rw[pu]at h;exact h rfl
    rw[Iy x b,a];simp only[Yb,Ud];exact xD x h
termination_by q.length
decreasing_by
 all_goals grind
theorem MI{q:Str}(x:Str)(h:(urlS q).2≠[]):urlS (q++x)=((urlS q).1,(urlS q).2++x):=by
 match q with
 |[]=>rw[dm]at h;grind
 |c::r=>
  rw[Bb,Xj,Xj];rw[Xj]at h;cases l:c==41 with
  |true=>grind
  |false=>
   rw[l,Ja (by decide)]at h;simp only[Yb,Ud];cases j:spB c with
   |true=>
    rw[j,Ka rfl]at h;simp only[Ee];cases f:past spB r with
    |nil=>grind
    |cons d t=>
     rw[gm x (by rw[f];simp),f];rw[f]at h;simp only[Bb]at h ⊢;cases a:d==41 with
     |true=>grind
     |false=> rw[a,Ja (by decide)]at h;simp only[Yb,Ud];rw[show d::(t++x)=(d::t)++x from rfl,xD x h]
   |false=>
    rw[j,Ja (by decide)]at h;simp only[Yb,Ud];have b:(c=92->r≠[])->escS (c::(r++x))=escS (c::r):=by
     intro k;refine Iy x ?_;by_cases e:c=92
     ·exact .inl (k e)
     ·exact .inr e
    have m:c=92->r≠[]:=by
     rintro rfl rfl;have o:escS [92]=true:=by decide
     rw[o,show((92:UInt8)==92&& !true)=false from rfl,Rc]at h;cases i:((92:UInt8)==34||(92:UInt8)==39||(92:UInt8)==40||unB 92)with
     |true=>exact absurd i (by decide)
     |false=> rw[i,Ja (by decide),Ka (by decide)]at h;exact absurd (by show(urlS (zA []).2).2=[];rw[show(zA []).2=[]from rfl,dm]) h
    rw[b m];cases a:c==34||c==39||c==40||unB c||c==92&& !escS (c::r)with
    |true=> rw[a,Ka rfl]at h;simp only[Ee];rw[show c::(r++x)=(c::r)++x from rfl,xD x h]
    |false=>
     rw[a,Ja (by decide)]at h;simp only[Yb,Ud];cases g:c==92 with
     |true=>
      rw[g,Ka rfl]at h;simp only[Ee];have n:(zA r).2≠[]:=by intro e;simp only[e,dm]at h;exact h rfl
      rw[sF x n];have:=Zu r;simp only;rw[MI x h]
     |false=> rw[g,Ja (by decide)]at h;simp only[Yb,Ud];rw[MI x h]
termination_by q.length
decreasing_by
 all_goals grind
theorem yo{q:Str}(x:Str)(h:q≠[]):unsign (q++x)=unsign q++x/\sgOf (q++x)=sgOf q:=by
 cases q with
 |nil=>grind
 |cons c r=> unfold unsign sgOf;show(if Lg c then r++x else c::(r++x))=(if Lg c then r else c::r)++x/\_;refine⟨by split<;>rfl,rfl⟩
def Ag(q:Str):Str:=past digB (unsign q)
theorem NR{q x:Str}(h:(Zi q).1≠[])(f:q=[46]->digB (atS x 0)=false):Zi (q++x)=((Zi q).1++x,(Zi q).2)/\dotP (q++x)=dotP q:=by
 unfold Zi dotP;unfold Zi at h;cases q with
 |nil=>exact absurd rfl h
 |cons c r=>
  have g:(atS ((c::r)++x) 0==46&&digB (atS ((c::r)++x) 1))=(atS (c::r) 0==46&&digB (atS (c::r) 1)):=by
   show(c==46&&digB (atS (r++x) 0))=(c==46&&digB (atS r 0));cases r with
   |nil=>
    cases a:c==46 with
    |false=>rfl
    |true=> rw[ma]at a;subst a;show(true&&digB (atS x 0))=(true&&digB (atS [] 0));rw[f rfl];rfl
   |cons d t=>rfl
  rw[g];cases e:(atS (c::r) 0==46&&digB (atS (c::r) 1))with
  |false=>grind
  |true=>
   rw[e,Ka rfl]at h;simp only[Ee];rw[show((c::r)++x).drop 1=r++x from rfl,show(c::r).drop 1=r from rfl];have b:past digB r≠[]:=h;rw[gm x b,BD x b]
   grind
theorem zHm{w x:Str}(hw:w≠[])(h: ∀r,expS w=some r->r≠[])(hn:expS w=none->expS (w++x)=none):
  expS (w++x)=(expS w).map (· ++x)/\expP (w++x)=expP w:=by
 have hP: ∀q:Str,expP q=if(expS q).isSome then some (atS q 0,sgOf (q.drop 1),(unsign (q.drop 1)).takeWhile digB)else none:=by
  intro q;unfold expP expS;cases atS q 0==101||atS q 0==69 with
  |false=>rfl
  |true=>
   grind
 cases he:expS w with
 |none=>
  grind
 |some r=>
  have hr:=h r he;cases w with
  |nil=>grind
  |cons c t=>
   have he':=he;unfold expS at he';cases h1:atS (c::t) 0==101||atS (c::t) 0==69 with
   |false=>grind
   |true=>
    rw[h1,Ka rfl]at he';cases h2:digB (atS (unsign ((c::t).drop 1)) 0)with
    |false=>grind
    |true=>
     rw[h2,Ka rfl]at he';have hrr:past digB (unsign t)=r:=by injection he'
     have ht:t≠[]:=by rintro rfl;exact absurd (show digB (atS (unsign []) 0)=true from h2) (by decide)
     obtain⟨u1,u2⟩:=yo x ht;have hun:unsign t≠[]:=by intro e;rw[show(c::t).drop 1=t from rfl,e]at h2;exact absurd h2 (by decide)
     have hexp:expS ((c::t)++x)=some (r++x):=by unfold expS;rw[show atS ((c::t)++x) 0=atS (c::t) 0 from rfl,h1,Ka rfl,show((c::t)++x).drop 1=t++x from rfl,u1];have:atS (unsign t++x) 0=atS (unsign t) 0:=bi x (ae.2 hun);rw[this,show digB (atS (unsign t) 0)=true from h2,Ka rfl,gm x (by grind),hrr]
     refine⟨by rw[hexp];rfl,?_⟩;rw[hP,hP,hexp,he];simp only[Option.isSome_some,Ee];rw[show((c::t)++x).drop 1=t++x from rfl,show(c::t).drop 1=t from rfl,u1,u2,BD x (by grind)];rfl
theorem Mj(q:Str):zJ q=(match expS (Zi (Ag q)).1 with|some r=>(r,false)|none=>Zi (Ag q)):=rfl
theorem BI{q x:Str}(h:(zJ q).1≠[])(j:Ag q=[46]->digB (atS x 0)=false)(l:expS (Zi (Ag q)).1=none->expS ((Zi (Ag q)).1++x)=none):
  zJ (q++x)=((zJ q).1++x,(zJ q).2)/\numP (q++x)=numP q:=by
 rw[Mj]at h;have a: ∀r,expS (Zi (Ag q)).1=some r->r≠[]:=by intro r p;rw[p]at h;exact h
 have b:(Zi (Ag q)).1≠[]:=by intro e;rw[e,show expS []=none from rfl]at h;exact h e
 have c:Ag q≠[]:=by intro e;rw[e]at b;exact b rfl
 have n:q≠[]:=by rintro rfl;exact c rfl
 obtain⟨d,k⟩:=yo x n;have f:Ag (q++x)=Ag q++x:=by unfold Ag;rw[d];exact gm x c
 obtain⟨i,m⟩:=NR b j;obtain⟨s,o⟩:=zHm b a l;have g: ∀z:Str,numP z=⟨sgOf z,(unsign z).takeWhile digB,dotP (Ag z),expP (Zi (Ag z)).1⟩:=fun z=>rfl;constructor
 ·rw[Mj,Mj,f,i]
  grind
 ·rw[g,g,k,d,BD x c,f,i,m,o]
def brS(c:UInt8)(r:Str):Nat:=
 if spB c then 0
 else if c==34||c==39 then 1
 else if c==35&&(letB (atS r 0)||escS r)then 2
 else if nbS (c::r)then 3
 else if [45,45,62].isPrefixOf (c::r)then 4
 else if [60,33,45,45].isPrefixOf (c::r)then 5
 else if c==64&&nmS r then 6
 else if nmS (c::r)then 7
 else if pg c==0 then 8
 else 9
def nxB:Nat->UInt8->Str->ze×Str
 |0,c,r=>(lh 13,past spB (c::r))
 |1,c,r=>(Mk (Zo c r).1,(Zo c r).2)
 |2,_,r=>(⟨4,(zt r).1,0,[],nmS r⟩,(zt r).2)
 |3,c,r=>zN (c::r)
 |4,c,r=>(lh 15,(c::r).drop 3)
 |5,c,r=>(lh 14,(c::r).drop 4)
 |6,_,r=>(⟨3,(zt r).1,0,[],false⟩,(zt r).2)
 |7,c,r=>Qm (c::r)
 |8,c,r=>(⟨9,[c],0,[],false⟩,r)
 |_+9,c,r=>(lh (pg c),r)
theorem YH(c:UInt8)(r:Str):nxB 0 c r=(lh 13,past spB (c::r)):=by rw[nxB]
theorem Vs(c:UInt8)(r:Str):nxB 1 c r=(Mk (Zo c r).1,(Zo c r).2):=by rw[nxB]
theorem Un(c:UInt8)(r:Str):nxB 2 c r=(⟨4,(zt r).1,0,[],nmS r⟩,(zt r).2):=by rw[nxB]
theorem yj(c:UInt8)(r:Str):nxB 3 c r=zN (c::r):=by rw[nxB]
theorem iN(c:UInt8)(r:Str):nxB 4 c r=(lh 15,(c::r).drop 3):=by rw[nxB]
theorem gN(c:UInt8)(r:Str):nxB 5 c r=(lh 14,(c::r).drop 4):=by rw[nxB]
theorem Us(c:UInt8)(r:Str):nxB 6 c r=(⟨3,(zt r).1,0,[],false⟩,(zt r).2):=by rw[nxB]
theorem Rj(c:UInt8)(r:Str):nxB 7 c r=Qm (c::r):=by rw[nxB]
theorem fB(c:UInt8)(r:Str):nxB 8 c r=(⟨9,[c],0,[],false⟩,r):=by rw[nxB]
theorem XH(c:UInt8)(r:Str):nxB 9 c r=(lh (pg c),r):=rfl
theorem Qq(c:UInt8)(r:Str):ZV (c::r)=nxB (brS c r) c r:=by
 rw[Pv];unfold brS;split
 ·rfl
 ·split
  ·rfl
  ·split
   ·rfl
   ·split
    ·rfl
    ·split
     ·rfl
     ·split
      ·rfl
      ·split
       ·rfl
       ·split
        ·rfl
        ·split<;>rfl
theorem br_4{c:UInt8}{r:Str}:brS c r=4->[45,45,62].isPrefixOf (c::r)=true:=by unfold brS;grind
theorem br_5{c:UInt8}{r:Str}:brS c r=5->[60,33,45,45].isPrefixOf (c::r)=true:=by unfold brS;grind
theorem br_9{c:UInt8}{r:Str}:brS c r=9-> ¬(pg c==0)=true:=by unfold brS;grind
theorem tZ(c:UInt8)(r:Str):brS c r<=9:=by unfold brS;grind
def brK(k:Int):Nat:=
 if k=13 then 0 else if k=5\/k=6 then 1 else if k=4 then 2 else if k=10\/k=11\/k=12 then 3 else if k=15 then 4 else if k=14 then 5 else if k=3 then 6
 else if k=1\/k=2\/k=7\/k=8 then 7 else if k=9 then 8 else 9
theorem zEV(c:UInt8):pg c=0\/(16<=pg c/\pg c<=24):=by
 have: ∀n:Nat,n<256->pg (UInt8.ofNat n)=0\/(16<=pg (UInt8.ofNat n)/\pg (UInt8.ofNat n)<=24):=by decide+kernel
 have:=this c.toNat (Ib c);simp_all
theorem zFj(o:Option Str):(Mk o).kind=5\/(Mk o).kind=6:=by cases o<;>simp[Mk]
theorem DJ(o:Option Str):(Bi o).kind=7\/(Bi o).kind=8:=by cases o<;>simp[Bi]
theorem N9(l:Str):(Qm l).1.kind=1\/(Qm l).1.kind=2\/(Qm l).1.kind=7\/(Qm l).1.kind=8:=by
 unfold Qm;split
 ·split
  ·exact .inr (.inr (DJ _))
  grind
 ·exact .inl rfl
theorem zvH(l:Str):(zN l).1.kind=10\/(zN l).1.kind=11\/(zN l).1.kind=12:=by
 unfold zN
 grind
theorem TZ{i:Nat}(h:i<=9):i=0\/i=1\/i=2\/i=3\/i=4\/i=5\/i=6\/i=7\/i=8\/i=9:=by omega
theorem Mo(c:UInt8)(r:Str):brK (ZV (c::r)).1.kind=brS c r:=by
 rw[Qq];rcases TZ (tZ c r)with h|h|h|h|h|h|h|h|h|h
 ·rw[h];rfl
 ·rw[h,Vs];show brK (Mk (Zo c r).1).kind=1;rcases zFj (Zo c r).1 with h|h<;>rw[h]<;>rfl
 ·rw[h];rfl
 ·rw[h,yj];rcases zvH (c::r)with h|h|h<;>rw[h]<;>rfl
 ·rw[h];rfl
 ·rw[h];rfl
 ·rw[h];rfl
 ·rw[h,Rj];rcases N9 (c::r)with h|h|h|h<;>rw[h]<;>rfl
 ·rw[h];rfl
 ·have b:=zEV c;have a:=br_9 h;rw[ma]at a;rw[h,XH];show brK (pg c)=9;unfold brK
  repeat rw[Ja (by omega)]
theorem zBP{q x:Str}(h:(Qm q).2≠[]):Qm (q++x)=((Qm q).1,(Qm q).2++x):=by
 have g:(zt q).2≠[]:=by intro e;unfold Qm at h;rw[e,Ja (by decide)]at h;exact h rfl
 have e:=Ev x g;unfold Qm;unfold Qm at h;rw[e];simp only;have i:atS ((zt q).2++x) 0=atS (zt q).2 0:=bi x (ae.2 g);rw[i];cases b:atS (zt q).2 0==40 with
 |false=>rfl
 |true=>
  rw[b,Ka rfl]at h;simp only[Ee];cases f:(zt q).2 with
  |nil=>grind
  |cons c r=>
   rw[f]at h;rw[show((c::r)++x).drop 1=r++x from rfl];rw[show(c::r).drop 1=r from rfl]at h ⊢;cases j:lowS (zt q).1==[117,114,108]with
   |false=>
    grind
   |true=>
    rw[j,aa]at h;simp only[aa];cases a:past spB r with
    |nil=>
     rw[a,Ka (by decide),dm]at h
     grind
    |cons d t=>
     rw[gm x (by rw[a];simp),a];rw[a]at h;rw[show atS ((d::t)++x) 0=atS (d::t) 0 from rfl];split
     ·rename_i k;rw[Ka k]at h;rw[MI x h]
     ·rfl
theorem nu{q x:Str}{n:Nat}(h:n<=q.length):(q++x).drop n=q.drop n++x:=List.drop_append_of_le_length h
structure zoe (q x:Str):Prop where
 e:zJ (q++x)=((zJ q).1++x,(zJ q).2)
 p:numP (q++x)=numP q
 n:nmS ((zJ q).1++x)=nmS (zJ q).1
theorem zxl{q x:Str}(a:zoe q x)(h:(zN q).2≠[]):zN (q++x)=((zN q).1,(zN q).2++x):=by
 have f:(zJ q).1≠[]:=by intro e;unfold zN at h;rw[e,Ja (by decide),Ja (by decide)]at h;exact h rfl
 have b:atS ((zJ q).1++x) 0=atS (zJ q).1 0:=bi x (ae.2 f);unfold zN;unfold zN at h;rw[a.e,a.p];simp only[a.n,b];cases c:nmS (zJ q).1 with
 |true=> rw[c,Ka rfl]at h;simp only[Ee];rw[Ev x h]
 |false=>
  simp only[Yb,Ud];cases d:atS (zJ q).1 0==37 with
  |true=> simp_all
  |false=>grind
theorem bE {c:UInt8} {r x:Str} (f:brS c (r++x)=brS c r) (h:(ZV (c::r)).2≠[]) (e:brS c r=2->nmS (r++x)=nmS r)
  (b:brS c r=3->zoe (c::r) x):ZV (c::(r++x))=((ZV (c::r)).1,(ZV (c::r)).2++x):=by
 rw[Qq c (r++x),f];rw[Qq]at h ⊢;rcases TZ (tZ c r)with a|a|a|a|a|a|a|a|a|a
 ·rw[a,YH]at h;rw[a,YH,YH,show c::(r++x)=(c::r)++x from rfl,gm x h]
 ·rw[a,Vs]at h;rw[a,Vs,Vs,jF x h]
 ·rw[a,Un]at h;rw[a,Un,Un,Ev x h,e a]
 ·have g:=b a;rw[a,yj]at h;rw[a,yj,yj,show c::(r++x)=(c::r)++x from rfl,zxl g h]
 ·have d:=Wj (br_4 a);rw[a,iN,iN,show c::(r++x)=(c::r)++x from rfl,nu (show 3<=(c::r).length from d)]
 ·have d:=Wj (br_5 a);rw[a,gN,gN,show c::(r++x)=(c::r)++x from rfl,nu (show 4<=(c::r).length from d)]
 ·rw[a,Us]at h;rw[a,Us,Us,Ev x h]
 ·rw[a,Rj]at h;rw[a,Rj,Rj,show c::(r++x)=(c::r)++x from rfl,zBP h]
 ·rw[a,fB,fB]
 ·rw[a,XH,XH]
theorem UR{q:Str}(x:Str)(h:q≠[]):undot (q++x)=undot q++x:=by
 cases q with
 |nil=>grind
 |cons c r=> unfold undot;show(if c==46 then r++x else c::(r++x))=(if c==46 then r else c::r)++x;split<;>rfl
theorem zDH(q:Str):q.length<=(undot q).length+1:=by
 unfold undot
 grind
theorem KL(q:Str):q.length<=(unsign q).length+1:=by
 unfold unsign
 grind
theorem rq{q:Str}(h:1<=q.length):q≠[]:=by grind
theorem zJv{q:Str}(x:Str)(h:3<=q.length):nbS (q++x)=nbS q:=by have b:=KL q;have a:=zDH (unsign q);unfold nbS;rw[(yo x (rq (by omega))).1,UR x (rq (by omega)),bi x (by omega)]
theorem jC{q:Str}(x:Str)(h:3<=q.length):nmS (q++x)=nmS q:=by unfold nmS escS;rw[nu (by omega),bi x (show 0<q.length by omega),bi x (show 1<q.length by omega),bi x (show 0<(q.drop 1).length by grind),bi x (show 1<(q.drop 1).length by grind)]
theorem Cu{m:Str}: ∀{q:Str} (x:Str),m.length<=q.length->m.isPrefixOf (q++x)=m.isPrefixOf q:=by
 induction m with
 |nil=>grind
 |cons a m c=>
  intro q x h;cases q with
  |nil=>grind
  |cons b t=>
   grind
theorem zIU{c:UInt8}{r:Str}(x:Str)(h:4<=r.length):brS c (r++x)=brS c r:=by
 have e:c::(r++x)=(c::r)++x:=rfl;have hl:(c::r).length=r.length+1:=rfl;unfold brS;rw[e,zJv x (by omega),Cu x (by grind),Cu x (by grind),jC x (q:=r) (by omega),jC x (q:=c::r) (by omega),bi x (show 0<r.length by omega)];have:escS (r++x)=escS r:=by unfold escS;rw[bi x (show 0<r.length by omega),bi x (show 1<r.length by omega)]
 rw[this]
theorem Vo{w:Str}:expS w=none↔((atS w 0==101||atS w 0==69)&&digB (atS (unsign (w.drop 1)) 0))=false:=by
 unfold expS
 grind
theorem zHo{w:Str}(x:Str)(h:3<=w.length)(a:expS w=none):expS (w++x)=none:=by rw[Vo]at a ⊢;have b:=KL (w.drop 1);rw[Dc]at b;rw[nu (by omega),(yo x (rq (by grind))).1,bi x (show 0<w.length by omega),bi x (by omega)];exact a
theorem zAq(q:Str):(Zi q).1<:+q:=by
 unfold Zi;split
 ·exact(Xq _ _).trans (Bf 1 q)
 grind
theorem zI6(q:Str):(zJ q).1<:+(Zi (Ag q)).1:=by
 rw[Mj];cases h:expS (Zi (Ag q)).1 with
 |some r=>exact F8 (Me _) h
 |none=>grind
theorem PU(q:Str):(zN q).2<:+(zJ q).1:=by
 unfold zN;split
 ·exact Ul _
 ·split
  ·exact Bf 1 _
  grind
theorem zHV{q:Str}(x:Str)(h:4<=(zJ q).1.length):zoe q x:=by have d:=(zI6 q).length_le;have c:=(zAq (Ag q)).length_le;obtain⟨a,b⟩:=BI (q:=q) (x:=x) (rq (by omega)) (fun e=>by grind) (zHo x (by omega));exact⟨a,b,jC x (by omega)⟩
theorem zE3{c:UInt8}{r:Str}(x:Str)(h:4<=(ZV (c::r)).2.length):ZV (c::(r++x))=((ZV (c::r)).1,(ZV (c::r)).2++x):=by have b:=(Yk c r).length_le;refine bE (zIU x (by omega)) (rq (by omega)) (fun _=>jC x (by omega)) (fun a=>zHV x ?_);rw[Qq,a,yj]at h;have:=(PU (c::r)).length_le;omega
theorem SC(q y:Str):escS (q++47::y)=escS q:=by
 match q with
 |[]=>rfl
 |[c]=>rfl
 |c::d::t=>rfl
theorem gB(q y:Str):nmS (q++47::y)=nmS q:=by
 match q with
 |[]=>rfl
 |[c]=> unfold nmS;show(if c==45 then fstB 47||47==45||escS (47::y)else fstB c||escS ([c]++47::y))=(if c==45 then fstB 0||0==45||escS []else fstB c||escS [c]);rw[SC];rfl
 |c::d::t=> unfold nmS;show(if c==45 then fstB d||d==45||escS ((d::t)++47::y)else fstB c||escS ((c::d::t)++47::y))=(if c==45 then fstB d||d==45||escS (d::t)else fstB c||escS (c::d::t));rw[SC,SC]
theorem X5(q y:Str):digB (atS (q++47::y) 0)=digB (atS q 0):=by
 cases q with
 |nil=>rfl
 |cons c t=>rfl
theorem TR(q y:Str):unsign (q++47::y)=unsign q++47::y:=by
 cases q with
 |nil=>rfl
 |cons c t=>exact(yo (47::y) (by simp)).1
theorem zFJ(q y:Str):undot (q++47::y)=undot q++47::y:=by
 cases q with
 |nil=>rfl
 |cons c t=>exact UR (47::y) (by simp)
theorem zKp(q y:Str):nbS (q++47::y)=nbS q:=by unfold nbS;rw[TR,zFJ,X5]
theorem M3{m:Str}(c: ∀b∈m,b≠47): ∀(q y:Str),m.isPrefixOf (q++47::y)=m.isPrefixOf q:=by
 induction m with
 |nil=>grind
 |cons a m d=>
  intro q y;cases q with
  |nil=>
   grind
  |cons b t=>grind
theorem zJn(q y:Str):letB (atS (q++47::y) 0)=letB (atS q 0):=by
 cases q with
 |nil=>rfl
 |cons c t=>rfl
theorem sZ(c:UInt8)(r y:Str):brS c (r++47::y)=brS c r:=by have e:c::(r++47::y)=(c::r)++47::y:=rfl;unfold brS;rw[e,zKp,M3 (by decide),M3 (by decide),gB,gB,zJn,SC]
theorem zI9{w:Str}(y:Str)(a:expS w=none):expS (w++47::y)=none:=by
 cases w with
 |nil=>rfl
 |cons c t=> rw[Vo]at a ⊢;show((c==101||c==69)&&digB (atS (unsign (t++47::y)) 0))=false;rw[TR,X5];exact a
theorem zJA{q:Str}(y:Str)(h:(zJ q).1≠[]):zoe q (47::y):=by obtain⟨a,b⟩:=BI (q:=q) (x:=47::y) h (fun _=>rfl) (zI9 y);exact⟨a,b,gB _ y⟩
theorem MU{q:Str}(h:(zN q).2≠[]):(zJ q).1≠[]:=by intro e;have:=(PU q).length_le;simp_all
theorem zHS{c:UInt8}{r:Str}(y:Str)(h:(ZV (c::r)).2≠[]):ZV (c::(r++47::y))=((ZV (c::r)).1,(ZV (c::r)).2++47::y):=by refine bE (sZ c r y) h (fun _=>gB r y) (fun a=>zJA y ?_);rw[Qq,a,yj]at h;exact MU h
def uN(c:UInt8)(r x:Str):Prop:=(∃e a,(e=101\/e=69)/\Zi (Ag (c::r))=([e,43],a))/\(ZV (c::r)).2=[43]/\(ZV (c::r)).1.kind=12/\digB (atS x 0)=true
theorem zE8{c:UInt8}{r x:Str}(hb:brS c r=3)(h:(ZV (c::r)).2≠[])(hx:x≠[])(ht:(zN ((c::r)++x)).1=(zN (c::r)).1):
  zoe (c::r) x\/uN c r x:=by
 have hnx:ZV (c::r)=zN (c::r):=by rw[Qq,hb,yj]
 rw[hnx]at h;have he:=MU h;have hflag: ∀q:Str,(zN q).1.kind=10->(zN q).1.flag=(zJ q).2:=by
  intro q;unfold zN;split
  ·intro h;cases h
  ·grind
 have hnm: ∀q:Str,((zN q).1.kind=12↔nmS (zJ q).1=true):=by
  intro q;unfold zN;split
  ·grind
  ·grind
 by_cases hd:Ag (c::r)=[46]->digB (atS x 0)=false
 ·by_cases hn:expS (Zi (Ag (c::r))).1=none->expS ((Zi (Ag (c::r))).1++x)=none
  ·obtain⟨a,b⟩:=BI he hd hn;refine .inl ⟨a,b,?_⟩
   grind
  ·right;obtain⟨hn1,hn2⟩:=Classical.not_imp.1 hn;have hend:zJ (c::r)=Zi (Ag (c::r)):=by rw[Mj,hn1]
   rw[hend]at he;obtain⟨w,fl⟩: ∃w fl,Zi (Ag (c::r))=(w,fl):=⟨_,_,rfl⟩;obtain⟨fl,hw⟩:=fl;rw[hw]at he hn1 hn2 hend;simp only at he hn1 hn2;rw[Vo]at hn1;rw[Vo]at hn2;cases w with
   |nil=>grind
   |cons e t=>
    have h2:((e==101||e==69)&&digB (atS (unsign (t++x)) 0))=true:=by
     have:((atS ((e::t)++x) 0==101||atS ((e::t)++x) 0==69)&&digB (atS (unsign (((e::t)++x).drop 1)) 0))=true:=by
      cases hh:((atS ((e::t)++x) 0==101||atS ((e::t)++x) 0==69)&&digB (atS (unsign (((e::t)++x).drop 1)) 0))with
      |true=>rfl
      |false=>grind
     exact this
    have h1:((e==101||e==69)&&digB (atS (unsign t) 0))=false:=hn1;rw[Da]at h2;rw[h2.1,aa]at h1;have hee:e=101\/e=69:=by have:=h2.1;rw[Sb,ma,ma]at this;exact this
    have hfst:fstB e=true/\letB e=true/\(e==45)=false:=by rcases hee with rfl|rfl<;>decide
    have hnmw:nmS (e::t)=true:=by unfold nmS;rw[show atS (e::t) 0=e from rfl,hfst.2.2,Ja (by decide),hfst.1];rfl
    have hnum:zN (c::r)=(⟨12,[],(numP (c::r)).val,(zt (e::t)).1,fl⟩,(zt (e::t)).2):=by unfold zN;rw[hend,Ka hnmw]
    rw[hnum]at h;have h':(zt (e::t)).2≠[]:=h;have ht43:t=[43]/\digB (atS x 0)=true:=by
     match t with
     |[]=>rw[zZ,Ka hfst.2.1,Qx]at h';grind
     |[d]=>
      have hux:unsign ([d]++x)=if Lg d then x else d::x:=rfl;have hu:unsign [d]=if Lg d then []else [d]:=rfl;rw[hux]at h2;rw[hu]at h1;cases hs:Lg d with
      |false=>
       rw[hs,Ja (by decide)]at h1 h2;have:=h2.2;rw[show atS (d::x) 0=atS [d] 0 from rfl,h1]at this;cases this
      |true=>
       rw[hs,Ka rfl]at h2;unfold Lg at hs;rw[Sb,ma,ma]at hs;rcases hs with rfl|rfl
       ·grind
       ·rw[zZ,Ka hfst.2.1,zZ,Ka (by decide),Qx]at h';grind
     |d::d2::t2=>
      exfalso;have hlen:1<=(unsign (d::d2::t2)).length:=by have:=KL (d::d2::t2);rw[Fa,Fa]at this;omega
      have:=h2.2;rw[(yo x (by simp)).1,bi x (by omega),h1]at this;cases this
    obtain⟨rfl,hdx⟩:=ht43;refine⟨⟨e,fl,hee,hw⟩,?_,?_,hdx⟩
    ·rw[hnx,hnum];show(zt [e,43]).2=[43];rw[zZ,Ka hfst.2.1,zZ,Ja (by decide),Ja (by decide)]
    ·rw[hnx,hnum]
 ·exfalso;obtain⟨hq2,hdx⟩:=Classical.not_imp.1 hd;have hend:zJ (c::r)=([46],true):=by rw[Mj,hq2];rfl
  have hnum:zN (c::r)=(⟨10,[],(numP (c::r)).val,[],true⟩,[46]):=by unfold zN;rw[hend,Ja (by decide),Ja (by decide)]
  rw[hnum]at ht;have hf:=hflag ((c::r)++x) (by rw[ht]);rw[ht]at hf;have hun:unsign (c::r)≠[]:=by intro e;rw[Ag,e]at hq2;cases hq2
  have e2:Ag ((c::r)++x)=46::x:=by unfold Ag;rw[(yo x (by simp)).1,gm x (by unfold Ag at hq2;rw[hq2];simp)];unfold Ag at hq2;rw[hq2];rfl
  have hw:Zi (46::x)=(past digB x,false):=by
   unfold Zi;have:digB (atS x 0)=true:=by cases hh:digB (atS x 0)with|true=>rfl|false=>grind
   rw[show atS (46::x) 0=46 from rfl,show atS (46::x) 1=atS x 0 from rfl,this];rfl
  have hfl:(zJ ((c::r)++x)).2=false:=by rw[Mj,e2,hw];simp only;cases expS (past digB x)<;>rfl
  rw[hfl]at hf;cases hf
theorem zCq{c:UInt8}{r x:Str}(h:(ZV (c::r)).2≠[])(hx:x≠[])(ht:(ZV (c::(r++x))).1=(ZV (c::r)).1):
  (ZV (c::(r++x))).2=(ZV (c::r)).2++x\/uN c r x:=by
 have hb:brS c (r++x)=brS c r:=by rw[<-Mo,<-Mo,ht]
 have hh:brS c r=2->nmS (r++x)=nmS r:=by intro hi;have:=congrArg ze.flag ht;rw[Qq,Qq,hb,hi,Un,Un]at this;exact this
 by_cases hi:brS c r=3
 ·have hnx:ZV (c::r)=zN (c::r):=by rw[Qq,hi,yj]
  have hnx2:ZV (c::(r++x))=zN ((c::r)++x):=by rw[Qq,hb,hi,yj];rfl
  have ht':=ht;rw[hnx,hnx2]at ht';rcases zE8 hi h hx ht' with hs|hp
  ·left;rw[bE hb h hh (fun _=>hs)]
  ·exact .inr hp
 ·left;rw[bE hb h hh (fun e=>absurd e hi)]
def run:Str->List ze->Str->Prop
 |q,[],R=>q=R
 |q,t::a,R=> ∃c r,cmtS q=c::r/\(ZV (c::r)).1=t/\run (ZV (c::r)).2 a R
theorem Ay: ∀{ts:List ze} {q R:Str},run q ts R->R<:+q
 |[],q,R,h=>by rw[run]at h;grind
 |t::ts,q,R,h=>by obtain⟨c,r,d,e,b⟩:=h;have a:=Ej q;rw[d]at a;exact(Ay b).trans ((Yk c r).trans ((jd c r).trans a))
theorem tu: ∀{ts:List ze} {q R:Str},run q ts R->Qc q=ts++Qc R
 |[],q,R,h=>by rw[run]at h;subst h;rfl
 |t::ts,q,R,h=>by obtain⟨c,r,d,b,a⟩:=h;rw[Yj d,b,tu a];rfl
theorem JJ: ∀{ts us:List ze} {q R S:Str},run q ts R->run R us S->run q (ts++us) S
 |[],us,q,R,S,h,a=>by rw[run]at h;subst h;exact a
 |t::ts,us,q,R,S,h,a=>by obtain⟨c,r,e,d,b⟩:=h;exact⟨c,r,e,d,JJ b a⟩
theorem YP: ∀{ts us:List ze} {q:Str},Qc q=ts++us-> ∃R,run q ts R/\Qc R=us
 |[],us,q,h=>⟨q,rfl,h⟩
 |t::ts,us,q,h=>by
  cases a:cmtS q with
  |nil=>rw[di a]at h;cases h
  |cons c r=> rw[Yj a,Bb]at h;injection h with d f;obtain⟨R,e,b⟩:=YP f;exact⟨R,⟨c,r,a,d,e⟩,b⟩
theorem R6: ∀{ts:List ze} {q R S:Str},run q ts R->run q ts S->R=S
 |[],q,R,S,h,b=>by rw[run]at h b;rw[<-h,b]
 |t::ts,q,R,S,h,b=>by obtain⟨c,r,f,m,g⟩:=h;obtain⟨l,k,a,e,d⟩:=b;rw[f]at a;injection a with i j;subst i j;exact R6 g d
theorem U6{ts:List ze}{q R:Str}(d:ts≠[]):run (cmtS q) ts R↔run q ts R:=by
 cases ts with
 |nil=>grind
 |cons t ts=>
  constructor
  ·rintro⟨c,r,a,b⟩;rw[um]at a;exact⟨c,r,a,b⟩
  ·rintro⟨c,r,a,b⟩;exact⟨c,r,by rw[um];exact a,b⟩
theorem jI(x:Str): ∀{l r:Str},clsS l=some r->clsS (l++x)=some (r++x)
 |[],r,h=>by cases h
 |c::t,r,h=>by
  rw[clsS]at h;rw[Bb,clsS];cases t with
  |nil=>
   cases a:c==42&&atS ([]:Str) 0==47 with
   |true=>rw[Da]at a;exact absurd a.2 (by decide)
   |false=>rw[a,Ja (by decide)]at h;cases h
  |cons d u=>
   rw[show atS ((d::u)++x) 0=atS (d::u) 0 from rfl];split
   ·grind
   ·rename_i a;rw[Ja a]at h;exact jI x h
theorem Ky{q x:Str}(h:cmtS q≠[])(a:([47,42]:Str).isPrefixOf (cmtS q++x)=false):cmtS (q++x)=cmtS q++x:=by
 rw[Fj q]at h a ⊢;split at h
 ·rename_i b;have c:=Wj b;rw[show([47,42]:Str).length=2 from rfl]at c;rw[Ka b]at a ⊢;cases d:clsS (q.drop 2)with
  |none=>grind
  |some p=>
   rw[d]at h a;simp only at h a ⊢;rw[Fj (q++x),Cu x (by exact c),b,Ka rfl,nu c,jI x d];simp only;have e:p.length<q.length:=by have e:=(Wm _ d).2;rw[Dc]at e;omega
   exact Ky h a
 ·rename_i b;rw[Ja b]at a ⊢;exact qQ a
termination_by q.length
decreasing_by omega
theorem zFg{c d:UInt8}(t x:Str):([47,42]:Str).isPrefixOf ((c::d::t)++x)=([47,42]:Str).isPrefixOf (c::d::t):=Cu x (by grind)
theorem H9{q x:Str}(h:2<=(cmtS q).length):cmtS (q++x)=cmtS q++x:=by refine Ky (rq (by omega)) ?_;rw[Cu x (by exact h)];exact Jy q
theorem aQ{c:UInt8}{r:Str}(h:(ZV (c::r)).2≠[]):2<=(c::r).length:=by
 have b:=(Yk c r).length_le;have a:=ae.2 h
 grind
theorem P6: ∀{ts:List ze} {q R:Str} (x:Str),run q ts R->4<=R.length->run (q++x) ts (R++x)
 |[],q,R,x,h,_=>by rw[run]at h;subst h;rfl
 |t::ts,q,R,x,h,e=>by obtain⟨c,r,a,f,b⟩:=h;have i:=(Ay b).length_le;have d:=zE3 x (c:=c) (r:=r) (by omega);have g:=aQ (c:=c) (r:=r) (rq (by omega));refine⟨c,r++x,by rw[H9 (by rw[a];exact g),a];rfl,by rw[d];exact f,?_⟩;rw[d];exact P6 x b e
theorem PP{q:Str}(y:Str)(h:cmtS q≠[]):cmtS (q++47::42::y)=cmtS q++47::42::y:=by
 refine Ky h ?_;have b:=Jy q;cases a:cmtS q with
 |nil=>exact absurd a h
 |cons c t=>
  cases t with
  |nil=>
   grind
  |cons d u=>grind
theorem PO: ∀{ts:List ze} {q R:Str} (y:Str),run q ts R->R≠[]->run (q++47::42::y) ts (R++47::42::y)
 |[],q,R,y,h,_=>by rw[run]at h;subst h;rfl
 |t::ts,q,R,y,h,hl=>by
  obtain⟨c,r,h1,h2,h3⟩:=h;have h4:(ZV (c::r)).2≠[]:=by intro e;have:=(Ay h3).length_le;rw[e]at this;exact hl (List.length_eq_zero_iff.1 (by simpa using this))
  have h5:=zHS (42::y) h4;refine⟨c,r++47::42::y,by rw[PP y (by rw[h1];simp),h1];rfl,by rw[h5];exact h2,?_⟩;rw[h5];exact PO y h3 hl
def M0(q x:Str)(us:List ze):Prop:= ∃c r,cmtS q=c::r/\uN c r x/\(ZV (c::(r++x))).1=(ZV (c::r)).1/\Qc (ZV (c::(r++x))).2=us
theorem mP: ∀{ts us:List ze} {q R:Str} {x:Str},run q ts R->R≠[]->x≠[]->Qc (q++x)=ts++us->run (q++x) ts (R++x)\/(R=[43]/\ ∃p,p<:+q/\M0 p x us)
 |[],us,q,R,x,h,_,_,_=>by rw[run]at h;subst h;exact .inl rfl
 |t::ts,us,q,R,x,h,hl,hx,ht=>by
  obtain⟨c,r,h1,h2,h3⟩:=h;have h4:(ZV (c::r)).2≠[]:=by intro e;have:=(Ay h3).length_le;rw[e]at this;exact hl (List.length_eq_zero_iff.1 (by simpa using this))
  have hc:cmtS (q++x)=c::(r++x):=by rw[H9 (by rw[h1];exact aQ h4),h1];rfl
  rw[Yj hc,Bb]at ht;injection ht with ht1 ht2;rcases zCq h4 hx (by rw[ht1,h2])with h5|h5
  ·rw[h5]at ht2;rcases mP h3 hl hx ht2 with h6|⟨h6,p,hp,h7⟩
   ·exact .inl ⟨c,r++x,hc,ht1,by rw[h5];exact h6⟩
   ·refine .inr ⟨h6,p,hp.trans ((Yk c r).trans ((jd c r).trans ?_)),h7⟩;rw[<-h1];exact Ej q
  ·right;have h43:=h5.2.1;have hR:R=[43]/\ts=[]:=by
    cases ts with
    |nil=>rw[run,h43]at h3;grind
    |cons u us'=> exfalso;rw[h43]at h3;obtain⟨c',r',e1,e2,e3⟩:=h3;rw[show cmtS [43]=[43]from qQ rfl]at e1;injection e1 with e4 e5;subst e4 e5;have:=(Ay e3).length_le;have h9:=(Yk (43:UInt8) []).length_le;simp_all
   obtain⟨hR,rfl⟩:=hR;refine⟨hR,q,Me _,c,r,h1,h5,by rw[ht1,h2],?_⟩;rw[ht2];rfl
end Go.Lv.VT
