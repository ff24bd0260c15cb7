/- Urls that are bad: what the scanner's function computes. -/
import Derived.Test.YtkecjfeffabgiaaGreatDoorXc
import Derived.Test.YtkecjfeffabgiaaGreatDoorXa
set_option linter.unusedSimpArgs false
set_option linter.unusedVariables false
namespace Go.Lv.VT
set_option maxRecDepth 100000
theorem iZ{n:Nat}(l:n≠0)(h:n<16777216):qD (w32 (n:Int))=some (Yh n):=by
 have j:zW 0 1 1=true:=jh (by omega);have f:zW 0 2 1=true:=jh (by omega);have d:zW 0 3 1=true:=jh (by omega);have g:zW 0 4 1=true:=jh (by omega);have c:(128+n%64)<256:=by omega
 have a:(128+n / 64%64)<256:=by omega
 have b:(128+n / 4096%64)<256:=by omega
 unfold qD qH Yh;simp only[Fq (show n<2147483648 by omega),mP (show n<2147483648 by omega),ze,shr6,dZ,cZ,PQ,ZX c,ZX a,ZX b,Aa];by_cases e:n<128
 ·rw[Ga (by omega),Da,Sz,ZX (by omega),Aa,zF j,Ia (by omega),Ka e,Vf (by omega)]
 ·rw[Db (by omega),Ba];by_cases i:n<2048
  ·rw[Ga (by omega),Da,O3 (by omega),ZX (by omega)];simp only[Aa];rw[zF f,Ia (by omega),Ia (by omega),Ka i];rfl
  ·rw[Db (by omega),Ba];by_cases m:n<55296
   ·rw[Ga (by omega),Da,zq];simp only[Da];rw[VH (by omega),ZX (by omega)];simp only[Aa];rw[zF d,Ia (by omega),Ia (by omega),Ia (by omega),Ka (by omega)];rfl
   ·rw[Db (by omega),Ba,zq];simp only[I7];by_cases k:57343<n/\n<65536
    ·rw[Ga (by omega),Ga (by omega),ib,Da,VH (by omega),ZX (by omega)];simp only[Aa];rw[zF d,Ia (by omega),Ia (by omega),Ia (by omega),Ka (by omega)];rfl
    ·rw[show(decide ((57343:Int)<(n:Int))&&decide ((n:Int)<=65535))=false by grind,Ba];by_cases o:65535<n/\n<=1114111
     ·rw[Ga (by omega),Ga (by omega),ib,Da,M3 (by omega),ZX (by omega)];simp only[Aa];rw[zF g,Ia (by omega),Ia (by omega),Ia (by omega),Ia (by omega)];rfl
     ·rw[show(decide ((n:Int)>65535)&&decide ((n:Int)<=1114111))=false by grind,Ba,zF d,Ka (by omega)];rfl
theorem AV:qD 65533=some Xo:=by have h:=iZ (n:=65533) (by omega) (by omega);rw[Fq (by omega)]at h;exact h
theorem zAq{s l:Str}{c:UInt8}(hs:s.length<=big)(hr:c::l<:+s):
  ql (sr s (c::l))=some (sr s (zy l).2,(zy l).1):=by
 have hl:=Xk hr;unfold ql;simp only[ai hs hr,ze,xh hs hl,Aa,Ur];cases l with
 |nil=> rw[show([]:Str).isEmpty=true from rfl,Da,AV];rfl
 |cons d r=>
  rw[show(d::r).isEmpty=false from rfl,Ba,MH];simp only[Aa,CF];cases hx:QW (atS (d::r) 0)with
  |false=>
   rw[Ta,Da,Ns,AA];simp only[Aa,ai hs hl];rw[zF (jh (n:=0) (by omega))];have:zy (d::r)=([d],r):=by show(if QW d then _ else _)=_;rw[Ia (by rw[show QW d=false from hx];decide)]
   rw[this]
  |true=>
   rw[Va,Ba];have he:zy (d::r)=(Yh (hexes 6 0 (d::r)).1,unsp (hexes 6 0 (d::r)).2):=by show(if QW d then _ else _)=_;rw[Ka (show QW d=true from hx)]
   rw[he];rw[qK (XR (l:=d::r) hl (fun n i q hq hn hi=> ?_))]
   ·have hq:(hexes 6 0 (d::r)).2<:+s:=(WA 6 0 _).trans hl;have hlt:=xJ 6 0 (d::r);rw[show 16 ^ 6*(0+1)=16777216 from rfl]at hlt;simp only[xh hs hq,Aa,Oz];have hj:(bif spB (atS (hexes 6 0 (d::r)).2 0)then some (LX.out (((hexes 6 0 (d::r)).1:Int),(⟨s,w64 ((beh s (hexes 6 0 (d::r)).2:Int)+1)⟩:za)))else some (LX.out (((hexes 6 0 (d::r)).1:Int),sr s (hexes 6 0 (d::r)).2)):Option (LX (Int×za) (za×List UInt8)))
      =some (LX.out (((hexes 6 0 (d::r)).1:Int),sr s (unsp (hexes 6 0 (d::r)).2))):=by
     cases hh:(hexes 6 0 (d::r)).2 with
     |nil=>rfl
     |cons e t=>
      rw[hh]at hq;rw[show atS (e::t) 0=e from rfl,ai hs hq];show _=some (LX.out (_,sr s (if spB e then t else e::t)))
      grind
    rw[hj,zq];simp only;by_cases h0:(hexes 6 0 (d::r)).1=0
    ·rw[h0,show((((0:Nat):Int))==0)=true from rfl,Da,zq];simp only[Fq (show 65533<2147483648 by omega),show w32 (65533:Int)=65533 from Fq (n:=65533) (by omega),AV,Aa];rfl
    ·rw[show(((hexes 6 0 (d::r)).1:Int)==0)=false by grind,Ba,zq];simp only[iZ h0 hlt,Aa]
   ·simp only[xh hs hq,Aa,MH,CF];have hb6:decide ((i:Int)<6)=decide (i<6):=by rw[og];omega
    rw[hb6];cases decide (i<6)with
    |false=>rfl
    |true=>
     rw[Da,Cb];cases hx2:QW (atS q 0)with
     |false=>rfl
     |true=>
      cases q with
      |nil=>exact absurd hx2 (by decide)
      |cons e t=>
       have hI:hexI (atS (e::t) 0)=(hexN (atS (e::t) 0):Int):=by unfold hexI;rw[Ka hx2]
       rw[hI,R4 hn (fE hx2),ai hs hq,Zq (by omega) (by omega)];rfl
theorem BA:badS []=[]:=by rw[badS]
theorem iA(c:UInt8)(r:Str):badS (c::r)=if c==41 then r else if escS (c::r)then badS (zy r).2 else badS r:=by rw[badS]
theorem XE(l:Str):badS l<:+l:=by
 match l with
 |[]=>rw[BA];grind
 |c::r=>
  rw[iA];have a:=Oe c r;split
  ·exact a
  ·split
   ·have:=Zl r;exact(XE (zy r).2).trans ((qy r).trans a)
   ·exact(XE r).trans a
termination_by l.length
decreasing_by
 all_goals grind
theorem zJD{s t:Str}{c:UInt8}(e:s.length<=big)(h:c::t<:+s):geti s (w64 ((beh s t:Int) - 1))=some c:=by
 have f:big=4194304:=rfl;have b:=h.length_le;rw[Fa]at b;have d:=Nw h;have g:beh s t=beh s (c::t)+1:=by unfold beh;rw[Fa];omega
 have a:beh s (c::t)<s.length:=by unfold beh;rw[Fa];omega
 rw[Zq (by omega) (by omega),show(beh s t:Int) - 1=((beh s (c::t):Nat):Int) by omega,Zo a];rw[Lb a]at d
 grind
theorem badR{s q:Str}(e:s.length<=big)(j:q<:+s):qB (sr s q)=some (⟨8,[],0,[],false⟩,sr s (badS q)):=by
 unfold qB;refine DL ?_;refine qa (fun z=> ∃(p:Str),z=(sr s p,(⟨0,[],0,[],false⟩:zg))/\p<:+s/\badS q=badS p) (fun z=>s.length - z.1.at_.toNat) _ ?_ ⟨q,rfl,j,rfl⟩;rintro _ ⟨p,rfl,b,g⟩;simp only[ze,xh e b,Aa,Ur];cases p with
 |nil=>exact .inr (.inr ⟨_,rfl,by rw[g,BA]⟩)
 |cons c t=>
  have d:=b.length_le;rw[Fa]at d;have i:=Xk b;have f: ∀u:Str,u.length<=t.length->u<:+s->s.length - beh s u<s.length - beh s (c::t):=by intro u l k;unfold beh;rw[Fa];omega
  rw[show(c::t).isEmpty=false from rfl,Ba,EK e b];rw[iA]at g;simp only[Aa];cases a:escS (c::t)with
  |true=>
   have h:(c==41)=false:=by unfold escS at a;rw[Ca,Bb]at a;rw[show c=92 from a.1];decide
   rw[a,h,Ia (by decide),Ka rfl]at g;rw[Da,zAq e b];exact .inl ⟨_,rfl,⟨_,rfl,(qy t).trans i,g⟩,f _ (Zl t) ((qy t).trans i)⟩
  |false=>
   rw[Ba,ai e b,zJD e b];simp only[Aa];rw[show((c.toNat:Int)==41)=(c==41)from EJ c 41]
   grind
theorem Ht:urlS []=(some [],[]):=by rw[urlS]
theorem Bo(c:UInt8)(r:Str):urlS (c::r)=if c==41 then(some [],r)
  else if spB c then(match past spB r with
   |[]=>(some [],[])
   |d::a=>if d==41 then(some [],a)else(none,badS (d::a)))
  else if c==34||c==39||c==40||unB c||c==92&& !escS (c::r)then(none,badS (c::r))
  else if c==92 then((urlS (zy r).2).1.map ((zy r).1++ ·),(urlS (zy r).2).2)
  else((urlS r).1.map (c:: ·),(urlS r).2):=by rw[urlS];grind
theorem Uv(l:Str):(urlS l).2<:+l:=by
 match l with
 |[]=>rw[Ht];grind
 |c::r=>
  rw[Bo];have a:=Oe c r;split
  ·exact a
  ·split
   ·have b:=(Oq spB r).trans a;cases e:past spB r with
    |nil=>grind
    |cons d f=>
     rw[e]at b;simp only;split
     ·exact(Oe d f).trans b
     ·exact(XE _).trans b
   ·split
    ·exact XE _
    ·split
     ·have:=Zl r;exact(Uv (zy r).2).trans ((qy r).trans a)
     ·exact(Uv r).trans a
termination_by l.length
decreasing_by
 all_goals grind
def ol:Option Str->zg
 |some t=>⟨7,t,0,[],false⟩
 |none=>⟨8,[],0,[],false⟩
theorem zIK(c:UInt8): ∃y,zA (!(bif bif bif bif (c.toNat:Int)==34 then true else(c.toNat:Int)==39 then true else(c.toNat:Int)==40 then true else decide ((c.toNat:Int)<=8)then true else(c.toNat:Int)==11)) (qo ((c.toNat:Int),14,31)) (default:Bool)=some y/\
  (bif bif bif bif bif bif (c.toNat:Int)==34 then true else(c.toNat:Int)==39 then true else(c.toNat:Int)==40 then true else decide ((c.toNat:Int)<=8)then true else(c.toNat:Int)==11 then true else y then true else(c.toNat:Int)==127)=(c==34||c==39||c==40||unB c):=by
 have a: ∀n:Nat,n<256->((zA (!(bif bif bif bif (n:Int)==34 then true else(n:Int)==39 then true else(n:Int)==40 then true else decide ((n:Int)<=8)then true else(n:Int)==11)) (qo ((n:Int),14,31)) (default:Bool)).elim false fun y=>
  (bif bif bif bif bif bif (n:Int)==34 then true else(n:Int)==39 then true else(n:Int)==40 then true else decide ((n:Int)<=8)then true else(n:Int)==11 then true else y then true else(n:Int)==127)==(UInt8.ofNat n==34||UInt8.ofNat n==39||UInt8.ofNat n==40||unB (UInt8.ofNat n)))=true:=by decide+kernel
 have h:=a c.toNat (Sb c);rw[jd]at h;cases b:zA (!(bif bif bif bif (c.toNat:Int)==34 then true else(c.toNat:Int)==39 then true else(c.toNat:Int)==40 then true else decide ((c.toNat:Int)<=8)then true else(c.toNat:Int)==11)) (qo ((c.toNat:Int),14,31)) (default:Bool)with
 |none=>grind
 |some y=>
  grind
theorem TN(c:UInt8)(t:Str):(pk (c::t) 0== -1)=false:=by rw[Ur];rfl
theorem urlR{s w:Str}(f:s.length<=big)(v:w<:+s):OC (sr s w)=some (ol (urlS (past spB w)).1,sr s (urlS (past spB w)).2):=by
 have L:big=4194304:=rfl;unfold OC;rw[JD f v];simp only[ze,Aa];have E:=Vs spB v;generalize past spB w=q at E ⊢;refine DL ?_;refine qa (fun z=> ∃(p e:Str),z=(sr s p,(⟨0,[],0,[],false⟩:zg),e)/\p<:+s/\e.length+4*p.length<=4*s.length/\(urlS q).1=(urlS p).1.map (e++ ·)/\(urlS q).2=(urlS p).2) (fun z=>s.length - z.1.at_.toNat) _ ?_
  ⟨q,[],rfl,E,by grind,by simp,rfl⟩
 rintro _ ⟨p,e,rfl,h,G,b,a⟩;simp only[xh f h,Aa,Oz];cases p with
 |nil=> refine .inr (.inr ⟨_,rfl,?_⟩);rw[Ht]at b a;rw[b,a];simp only[jc,Xa,ol]
 |cons c t=>
  have m:=h.length_le;rw[Fa]at m G;have r:=Xk h;have k: ∀u:Str,u.length<=t.length->u<:+s->s.length - beh s u<s.length - beh s (c::t):=by intro u M J;unfold beh;rw[Fa];omega
  rw[Bo]at b a;rw[show atS (c::t) 0=c from rfl];cases j:spB c with
  |true=>
   have i:(c==41)=false:=by rw[Ha];rintro rfl;exact absurd j (by decide)
   rw[i,j,Ia (by decide),Ka rfl]at b a;have D:past spB (c::t)=past spB t:=by rw[past,Ka j]
   have g:past spB t<:+s:=Vs spB r;rw[Da,JD f h,D];simp only[Aa,xh f g];cases o:past spB t with
   |nil=> rw[o]at b a;refine .inr (.inr ⟨_,rfl,?_⟩);simp only at b a;rw[b,a];simp only[jc,Xa,ol]
   |cons d F=>
    rw[o]at b a g;simp only at b a;unfold bne;rw[WN,TN,show atS (d::F) 0=d from rfl];cases C:d==41 with
    |true=> rw[C,Ka rfl]at b a;refine .inr (.inr ⟨_,?_,rfl⟩);simp only[Va,Ba,zq,TN,WN,show atS (d::F) 0=d from rfl,C,Da,ai f g];rw[b,a];simp only[jc,Xa,ol]
    |false=> rw[C,Ia (by decide)]at b a;refine .inr (.inr ⟨_,?_,rfl⟩);simp only[Ta,Da,badR f g,Aa,znE];rw[b,a];rfl
  |false=>
   rw[Ba,zq];simp only[TN,WN,show atS (c::t) 0=c from rfl,Ba,ai f h];cases i:c==41 with
   |true=> rw[i,Ka rfl]at b a;refine .inr (.inr ⟨_,by rw[Da],?_⟩);rw[b,a];simp only[jc,Xa,ol]
   |false=>
    rw[i,Ia (by decide),j,Ia (by decide)]at b a;rw[Ba];obtain⟨y,B,A⟩:=zIK c;rw[Ns,B];simp only[Aa];rw[A];cases x:(c==34||c==39||c==40||unB c)with
    |true=> rw[x,Td,Ka rfl]at b a;refine .inr (.inr ⟨_,?_,rfl⟩);rw[Da,badR f h];simp only[Aa];rw[b,a];rfl
    |false=>
     rw[x,Jc]at b a;rw[Ba];unfold bne;rw[show((c.toNat:Int)==92)=(c==92)from EJ c 92];cases n:c==92 with
     |false=> rw[n,Ub,Ia (by decide),Ia (by decide)]at b a;rw[Ta,Da,AA];simp only[Aa];rw[zF (jh (by omega))];exact .inl ⟨_,rfl,⟨t,e++[c],rfl,r,by grind,by rw[b,MQ],a⟩,k t (Ua _) r⟩
     |true=>
      rw[n,Cb]at b a;rw[Va,Ba,EK f h];simp only[Aa];cases l:escS (c::t)with
      |true=> rw[l,Va,Ia (by decide),Ka rfl]at b a;have K:=nA t;have H:=Zl t;refine .inl ⟨(sr s (zy t).2,⟨0,[],0,[],false⟩,e++(zy t).1),?_,⟨_,_,rfl,(qy _).trans r,by grind,by rw[b,pI],a⟩,k _ H ((qy _).trans r)⟩;simp only[Da,nK f h (show e.length<=1000000000 by omega),Aa]
      |false=> rw[l,Ta,Ka rfl]at b a;refine .inr (.inr ⟨_,?_,rfl⟩);rw[Ba,badR f h];simp only[Aa];rw[b,a];rfl
theorem CG {S X R:Type} {step:S->Option (LO S X R)} {k:X->Option R} (Inv:S->Prop) (b:S->Nat) (y:R)
  (h: ∀s,Inv s->(∃s',step s=some (.again s')/\Inv s'/\b s'<b s)\/(∃x,step s=some (.out x)/\k x=some y)\/step s=some (.ret y)) {s:S} (d:Inv s):Zj step s k=some y:=by
 have c: ∀(m:Nat) (s:S),b s<m->Inv s-> ∃r:LX X R,ZT step m s=some r/\r.go k=some y:=by
  intro m
  induction m with
  |zero=>intro s h;omega
  |succ m i=>
   intro s f d;simp only[ZT];rcases h s d with⟨s',a,e,g⟩|⟨x,a,e⟩|a
   ·grind
   ·simp_all
   simp_all
 obtain⟨r,a,e⟩:=c (b s+1) s (by omega) d;rw[Qd (Q4 a)];exact e
theorem EU(p:UInt8->Bool): ∀l:Str,past p l=l.dropWhile p
 |[]=>rfl
 |c::r=>by
  rw[past,Bc];cases h:p c with
  |true=>exact EU p r
  |false=>rfl
theorem pz(p:UInt8->Bool)(l:Str):l.takeWhile p++past p l=l:=by rw[EU,List.takeWhile_append_dropWhile]
theorem JE(p:UInt8->Bool): ∀l:Str,(l.takeWhile p).all p=true
 |[]=>rfl
 |c::r=>by simp_all
def sgOf(l:Str):Str:=if Ng (atS l 0)then [atS l 0]else []
theorem jN(l:Str):sgOf l++unsign l=l:=by
 unfold sgOf unsign;cases h:Ng (atS l 0)with
 |false=>rfl
 |true=>
  rw[Ka rfl,Ka rfl];cases l with
  |nil=>exact absurd h (by decide)
  |cons c r=>rfl
theorem eZ(l:Str):sgB (sgOf l)=true:=by
 unfold sgOf;cases h:Ng (atS l 0)with
 |false=>rfl
 |true=> rw[Ka rfl];unfold Ng at h;rw[Vb,Bb,Bb]at h;rcases h with h|h<;>rw[h]<;>rfl
def dotP(q:Str):Option Str:=if atS q 0==46&&digB (atS q 1)then some ((q.drop 1).takeWhile digB)else none
def expP(q:Str):Option (UInt8×Str×Str):=
 if(atS q 0==101||atS q 0==69)&&digB (atS (unsign (q.drop 1)) 0)then some (atS q 0,sgOf (q.drop 1),(unsign (q.drop 1)).takeWhile digB)else none
def numP(l:Str):NumP:=⟨sgOf l,(unsign l).takeWhile digB,dotP (past digB (unsign l)),expP (Zf (past digB (unsign l))).1⟩
theorem zAk(q:Str):dotS (dotP q)++(Zf q).1=q/\(Zf q).2=(dotP q).isNone:=by
 unfold dotP Zf;cases h:atS q 0==46&&digB (atS q 1)with
 |false=>exact⟨rfl,rfl⟩
 |true=>
  rw[Ka rfl,Ka rfl];cases q with
  |nil=>exact absurd h (by decide)
  |cons c r=> rw[Ca,Bb]at h;refine⟨?_,rfl⟩;show(46::List.takeWhile digB r)++past digB r=c::r;rw[Sa,pz,show c=46 from h.1]
theorem zD0(q:Str):expT (expP q)++(match expS q with|some r=>r|none=>q)=q:=by
 unfold expP expS;cases a:atS q 0==101||atS q 0==69 with
 |false=>rfl
 |true=>
  cases b:digB (atS (unsign (q.drop 1)) 0)with
  |false=>rfl
  |true=>
   simp only[vg,Te];cases q with
   |nil=>exact absurd a (by decide)
   |cons c r=> show(c::(sgOf r++List.takeWhile digB (unsign r)))++past digB (unsign r)=c::r;rw[Sa,La,pz,jN]
theorem yK(l:Str):(numP l).txt++(zX l).1=l:=by
 have c:=(zAk (past digB (unsign l))).1;have b:=zD0 (Zf (past digB (unsign l))).1;have a:(zX l).1=(match expS (Zf (past digB (unsign l))).1 with|some r=>r|none=>(Zf (past digB (unsign l))).1):=by unfold zX;simp only;cases expS (Zf (past digB (unsign l))).1<;>rfl
 rw[a];show(sgOf l++(List.takeWhile digB (unsign l)++(dotS (dotP (past digB (unsign l)))++expT (expP (Zf (past digB (unsign l))).1))))++_=l;rw[La,La,La,b,c,pz,jN]
theorem WO{p:UInt8->Bool}{q:Str}(h:p (atS q 0)=true)(a:p 0=false):(q.takeWhile p).isEmpty=false:=by
 cases q with
 |nil=>rw[show atS [] 0=0 from rfl,a]at h;cases h
 |cons c r=>rw[List.takeWhile_cons,Ka (show p c=true from h)];rfl
theorem wO{l:Str}(h:nbS l=true):(numP l).ok=true:=by
 unfold NumP.ok numP;simp only[eZ,JE,Cb,Ca];refine⟨?_,?_⟩
 ·unfold dotP;cases a:atS (past digB (unsign l)) 0==46&&digB (atS (past digB (unsign l)) 1)with
  |true=> rw[Ka rfl];simp only[JE,ib];rw[Ca]at a;rw[WO (p:=digB) (by rw[Bj];exact a.2) (by decide)];rfl
  |false=>
   rw[Ia (by decide)];simp only;cases b:digB (atS (unsign l) 0)with
   |true=>rw[WO b (by decide)];rfl
   |false=>
    exfalso;have f:past digB (unsign l)=unsign l:=by
     cases e:unsign l with
     |nil=>rfl
     |cons c r=>rw[e]at b;rw[past,Ia (by rw[show digB c=false from b];decide)]
    rw[f]at a;unfold nbS undot at h;cases d:atS (unsign l) 0==46 with
    |false=>grind
    |true=>
     rw[d,Ka rfl,Bj]at h
     grind
 ·unfold expP;cases a:(atS (Zf (past digB (unsign l))).1 0==101||atS (Zf (past digB (unsign l))).1 0==69)&&digB (atS (unsign ((Zf (past digB (unsign l))).1.drop 1)) 0)with
  |false=>rfl
  |true=> rw[Ka rfl];rw[Ca]at a;simp only[a.1,eZ,JE,ib,Cb];rw[WO a.2 (by decide)];rfl
theorem zKD{n:NumP}(h:n.ok=true):n.txt≠[]:=by
 obtain⟨c,D,F,X⟩:=n;unfold NumP.ok at h;simp only[Ca]at h;intro e;unfold NumP.txt at e;simp only[List.append_eq_nil_iff]at e;obtain⟨g,b,a,d⟩:=e;subst b;cases F with
 |none=>grind
 |some f=>cases a
theorem jV{c:UInt8}{r:Str}(h:nbS (c::r)=true):(zX (c::r)).1<:+r:=by
 have e:=yK (c::r);have b:=zKD (wO h);cases a:(numP (c::r)).txt with
 |nil=>grind
 |cons d t=>
  grind
def zS(l:Str):zg×Str:=
 if nmS (zX l).1 then(⟨12,[],(numP l).val,(zu (zX l).1).1,(zX l).2⟩,(zu (zX l).1).2)
 else if atS (zX l).1 0==37 then(⟨11,[],(numP l).val,[],false⟩,(zX l).1.drop 1)
 else(⟨10,[],(numP l).val,[],(zX l).2⟩,(zX l).1)
theorem zG7{s l t e:Str}(a:l<:+s)(h:t++e=l):List.drop (beh s l) (List.take (beh s e) s)=t:=by
 obtain⟨p,rfl⟩:=a;subst h;have c:beh (p++(t++e)) (t++e)=p.length:=by unfold beh;simp only[Ja];omega
 have b:beh (p++(t++e)) e=(p++t).length:=by unfold beh;simp only[Ja];omega
 grind
theorem zEU{s l:Str}(hs:s.length<=40000)(hl:l<:+s)(h:nbS l=true):qf (sr s l)=some ((zS l).1,sr s (zS l).2):=by
 have hsb:s.length<=big:=by unfold big;omega
 have he:=zyS hl;have hle:=hl.length_le;have hsp:=yK l;have hel:(zX l).1.length<=l.length:=by have:=congrArg List.length hsp;rw[Ja]at this;omega
 have htl:(numP l).txt.length<=40000:=by have:=congrArg List.length hsp;rw[Ja]at this;omega
 unfold qf;rw[zD1 hsb hl];simp only[ze,Aa];have h1:(beh s l:Int)<=(beh s (zX l).1:Int):=by unfold beh;omega
 have h2:=um s (zX l).1;rw[zF (by simp_all),Nb,Nb,zG7 hl hsp,PY (wO h) htl];simp only[Aa];rw[show z8 (0,sr s (zX l).1)=some (nmS (zX l).1)from sN (k:=0) hsb he (by omega)];simp only[Aa];unfold zS;cases hn:nmS (zX l).1 with
 |true=> rw[Da,OH hsb he,Ka rfl];rfl
 |false=>
  rw[Ba,xh hsb he,Ia (by decide)];simp only[Aa,zK1];cases h37:atS (zX l).1 0==37 with
  |true=> rw[Da,zq,jC hsb he (by grind),Ka rfl]
  |false=>simp_all
theorem nI(l:Str):(zu l).1.length<=4*l.length:=by
 match l with
 |[]=>rw[Ql];grind
 |c::r=>
  rw[zZ];split
  ·have:=nI r
   grind
  ·split
   ·have b:=Zl r;have a:=nA r;have:=nI (zy r).2
    grind
   grind
termination_by l.length
decreasing_by
 all_goals grind
def Qi(l:Str):zg×Str:=
 if atS (zu l).2 0==40 then
  (if(lowS (zu l).1==[117,114,108])&& !(atS (past spB ((zu l).2.drop 1)) 0==34||atS (past spB ((zu l).2.drop 1)) 0==39)
  then(ol (urlS (past spB ((zu l).2.drop 1))).1,(urlS (past spB ((zu l).2.drop 1))).2)
  else(⟨2,(zu l).1,0,[],false⟩,(zu l).2.drop 1))
 else(⟨1,(zu l).1,0,[],false⟩,(zu l).2)
theorem zHy{s q:Str}(m:s.length<=40000)(g:q<:+s):Z8 (sr s q)=some ((Qi q).1,sr s (Qi q).2):=by
 have a:s.length<=big:=by unfold big;omega
 have e:(zu q).2<:+s:=(Eo q).trans g;have l:=nI q;have i:=g.length_le;have f:(zu q).1.length<=big:=by unfold big;omega
 unfold Z8;rw[OH a g];simp only[ze,Aa,xh a e];unfold bne Qi;rw[zK2];cases d:atS (zu q).2 0==40 with
 |false=>rfl
 |true=>
  have c:atS (zu q).2 0≠0:=by rw[Bb.1 d];decide
  rw[Va,Ba,Ka rfl,jC a e c,Mx f (by decide),xD];simp only[Aa];have b:=Wn e 1;cases n:lowS (zu q).1==[117,114,108]with
  |false=>rfl
  |true=>
   rw[Da,JD a b,Cb];have k:=Vs spB b;simp only[Aa,xh a k];rw[oZ,nZ];cases j:atS (past spB ((zu q).2.drop 1)) 0==34 with
   |true=>rfl
   |false=>
    cases h:atS (past spB ((zu q).2.drop 1)) 0==39 with
    |true=>rfl
    |false=> rw[urlR a b];rfl
theorem zEK{c:UInt8}{r:Str}(h:letB c=true\/escS (c::r)=true):(zu (c::r)).2<:+r:=by
 rw[zZ];split
 ·exact Eo r
 ·rename_i a;rw[Ka (h.resolve_left a)];exact(Eo _).trans (qy r)
theorem IQ{c:UInt8}{r:Str}(h:nmS (c::r)=true):letB c=true\/escS (c::r)=true:=by
 unfold nmS at h;cases a:atS (c::r) 0==45 with
 |true=> left;rw[show c=45 from Bb.1 a];decide
 |false=>
  rw[a,Ia (by decide),Vb]at h;rcases h with h|h
  ·left;unfold letB;rw[show fstB c=true from h];rfl
  ·exact .inr h
theorem zAR{c:UInt8}{r:Str}(h:nmS (c::r)=true):(Qi (c::r)).2<:+r:=by
 have b:=zEK (IQ h);have a:(zu (c::r)).2.drop 1<:+r:=(Cf 1 _).trans b;unfold Qi;split
 ·split
  ·exact(Uv _).trans ((Oq spB _).trans a)
  ·exact a
 ·exact b
def nxU(c:UInt8)(r:Str):zg×Str:=
  if nmS (c::r)then Qi (c::r)
  else if Ih c==0 then(⟨9,[c],0,[],false⟩,r)
  else(Rh (Ih c),r)
def nxT(c:UInt8)(r:Str):zg×Str:=
  if nbS (c::r)then zS (c::r)
  else if [45,45,62].isPrefixOf (c::r)then(Rh 15,(c::r).drop 3)
  else if [60,33,45,45].isPrefixOf (c::r)then(Rh 14,(c::r).drop 4)
  else if c==64&&nmS r then(⟨3,(zu r).1,0,[],false⟩,(zu r).2)
  else nxU c r
def ZC:Str->zg×Str
 |[]=>(⟨0,[],0,[],false⟩,[])
 |c::r=>
  if spB c then(Rh 13,past spB (c::r))
  else if c==34||c==39 then(yl (Zg c r).1,(Zg c r).2)
  else if c==35&&(letB (atS r 0)||escS r)then(⟨4,(zu r).1,0,[],nmS r⟩,(zu r).2)
  else nxT c r
theorem Yt(c:UInt8)(r:Str):ZC (c::r)=
  if spB c then(Rh 13,past spB (c::r))
  else if c==34||c==39 then(yl (Zg c r).1,(Zg c r).2)
  else if c==35&&(letB (atS r 0)||escS r)then(⟨4,(zu r).1,0,[],nmS r⟩,(zu r).2)
  else if nbS (c::r)then zS (c::r)
  else if [45,45,62].isPrefixOf (c::r)then(Rh 15,(c::r).drop 3)
  else if [60,33,45,45].isPrefixOf (c::r)then(Rh 14,(c::r).drop 4)
  else if c==64&&nmS r then(⟨3,(zu r).1,0,[],false⟩,(zu r).2)
  else if nmS (c::r)then Qi (c::r)
  else if Ih c==0 then(⟨9,[c],0,[],false⟩,r)
  else(Rh (Ih c),r):=rfl
theorem zvI{c:UInt8}{r:Str}(h:nbS (c::r)=true):(zS (c::r)).2<:+r:=by
 have a:=jV h;unfold zS;split
 ·exact(Eo _).trans a
 ·split
  ·exact(Cf 1 _).trans a
  ·exact a
theorem Gm(c:UInt8)(r:Str):(ZC (c::r)).2<:+r:=by
 rw[Yt];split
 ·rename_i h;show past spB (c::r)<:+r;rw[past,Ka h];exact Oq spB r
 ·split
  ·exact Gx c r
  ·split
   ·exact Eo r
   ·split
    ·rename_i h;exact zvI h
    ·split
     ·exact Cf 2 r
     ·split
      ·exact Cf 3 r
      ·split
       ·exact Eo r
       ·split
        ·rename_i h;exact zAR h
        grind
theorem zEA(c:UInt8):decide (Lib.indexByte [58,59,44,91,93,40,41,123,125] c>=0)= !(Ih c==0)/\(Ih c≠0->wu8 (16+wu8 (Lib.indexByte [58,59,44,91,93,40,41,123,125] c))=Ih c):=by
 have: ∀n:Nat,n<256->decide (Lib.indexByte [58,59,44,91,93,40,41,123,125] (UInt8.ofNat n)>=0)= !(Ih (UInt8.ofNat n)==0)/\(Ih (UInt8.ofNat n)≠0->wu8 (16+wu8 (Lib.indexByte [58,59,44,91,93,40,41,123,125] (UInt8.ofNat n)))=Ih (UInt8.ofNat n)):=by decide+kernel
 have:=this c.toNat (Sb c);simp_all
theorem Bq{m q:Str}(h:m.isPrefixOf q=true):m.length<=q.length:=by
 grind
def nC(s:Str)(X:zg×Str):Option (zg×za):=some (X.1,sr s X.2)
theorem zKV{s q:Str}{c:UInt8}{r:Str}(y:s.length<=40000)(b:q<:+s)(D:q=c::r):qW (sr s q)=some ((ZC q).1,sr s (ZC q).2):=by
 subst D;have a:s.length<=big:=by unfold big;omega
 have A:=Xk b;have J:(c::r).drop 1=r:=rfl;rw[show ZC (c::r)=if spB c then(Rh 13,past spB (c::r))else if c==34||c==39 then(yl (Zg c r).1,(Zg c r).2)else if c==35&&(letB (atS r 0)||escS r)then(⟨4,(zu r).1,0,[],nmS r⟩,(zu r).2)else nxT c r from rfl];unfold qW;simp only[ze,xh a b,Aa];rw[zF J4];simp only[Oz,Aa,oZ,nZ,zK0,zK3,FP b,QL,show atS (c::r) 0=c from rfl,bN];cases Q:spB c with
 |true=> rw[Da,JD a b,Ka rfl];rfl
 |false=>
  rw[Ba,Ia (by decide)];cases H:c==34||c==39 with
  |true=> rw[Da,zIv a b,Ka rfl];rfl
  |false=>
   rw[Ba,Ia (by decide)];have p:zI (1,sr s (c::r))=some (escS r):=LF (k:=1) a b (by omega);have g:z8 (1,sr s (c::r))=some (nmS r):=sN (k:=1) a b (by omega);have l:z8 (0,sr s (c::r))=some (nmS (c::r)):=sN (k:=0) a b (by omega);have u:(⟨s,w64 ((beh s (c::r):Int)+1)⟩:za)=sr s r:=by rw[ai a b]
   rw[u];have o:((ZV (sr s (c::r))).bind fun w=>
    bif w then
     (qf (sr s (c::r))).bind fun j=>
     some (j.1,j.2)
    else
     (some ([45,45,62].isPrefixOf (c::r))).bind fun v=>
     bif v then
      some ((⟨15,[],0,[],false⟩:zg),(⟨s,w64 ((beh s (c::r):Int)+3)⟩:za))
     else
      (some ([60,33,45,45].isPrefixOf (c::r))).bind fun t=>
      bif t then
       some ((⟨14,[],0,[],false⟩:zg),(⟨s,w64 ((beh s (c::r):Int)+4)⟩:za))
      else
       (zA (c==64) (z8 (1,sr s (c::r))) (default:Bool)).bind fun h=>
       bif bif c==64 then h else false then
        (Ze (sr s r)).bind fun f=>
        some ((⟨3,f.1,0,[],false⟩:zg),f.2)
       else
        (z8 (0,sr s (c::r))).bind fun i=>
        bif i then
         (Z8 (sr s (c::r))).bind fun d=>
         some (d.1,d.2)
        else
         (strings_IndexByte ([58,59,44,91,93,40,41,123,125],wu8 (pk (c::r) 0))).bind fun e=>
         bif decide (e>=0)then
          some ((⟨wu8 (16+wu8 e),[],0,[],false⟩:zg),sr s r)
         else
          need (decide (1<=((c::r).length:Int)))<|
          some ((⟨9,List.take 1 (c::r),0,[],false⟩:zg),sr s r))=
    nC s (nxT c r):=by
    unfold nxT;simp only[zH1 a b,Aa];cases x:nbS (c::r)with
    |true=> rw[Da,zEU y b x,Ka rfl];rfl
    |false=>
     rw[Ba,Ia (by decide)];cases O:[45,45,62].isPrefixOf (c::r)with
     |true=> rw[Da,Ka rfl,show(3:Int)=((3:Nat):Int)from rfl,aH (n:=3) a b (Bq O)];rfl
     |false=>
      rw[Ba,Ia (by decide)];cases L:[60,33,45,45].isPrefixOf (c::r)with
      |true=> rw[Da,Ka rfl,show(4:Int)=((4:Nat):Int)from rfl,aH (n:=4) a b (Bq L)];rfl
      |false=>
       rw[Ba,Ia (by decide),g,l];have m: ∀z:Bool,((some z).bind fun h=>bif h then
        (Ze (sr s r)).bind fun f=>
        some ((⟨3,f.1,0,[],false⟩:zg),f.2)
       else
        (some (nmS (c::r))).bind fun i=>
        bif i then
         (Z8 (sr s (c::r))).bind fun d=>
         some (d.1,d.2)
        else
         (strings_IndexByte ([58,59,44,91,93,40,41,123,125],wu8 (pk (c::r) 0))).bind fun e=>
         bif decide (e>=0)then
          some ((⟨wu8 (16+wu8 e),[],0,[],false⟩:zg),sr s r)
         else
          need (decide (1<=((c::r).length:Int)))<|
          some ((⟨9,List.take 1 (c::r),0,[],false⟩:zg),sr s r))=nC s (if z then(⟨3,(zu r).1,0,[],false⟩,(zu r).2)else nxU c r):=by
        intro z;unfold nxU;simp only[Aa];cases z with
        |true=> rw[Da,OH a A];rfl
        |false=>
         rw[Ba,Ia (by decide)];cases G:nmS (c::r)with
         |true=>rw[Da,zHy y b];rfl
         |false=>
          rw[Ba,Ia (by decide),Ns,Ou];have R:(wu8 (c.toNat:Int)).toNat.toUInt8=c:=by rw[Sz,Vf (Sb c),Nb];exact jd
          rw[R];obtain⟨K,S⟩:=zEA c;simp only[Aa,K];cases M:Ih c==0 with
          |true=> rw[Va,Ba,zF (Ga (by grind))];rfl
          |false=> rw[Ta,Da,S (Ha.1 M)];rfl
       cases N:c==64 with
       |false=> simp_all
       |true=> have:=m (nmS r);simp_all
   cases C:c==35 with
   |false=> simp only[Zw,Aa,Ba,Ic,Ub];exact o
   |true=>
    simp only[zB,Aa,Da,ib,Cb,xy a b,DR];have E:atS (c::r) 1=atS r 0:=rfl;rw[E,p];have F:(bif letB (atS r 0)||escS r then(z8 (1,sr s (c::r))).bind fun P=>(Ze (sr s r)).bind fun B=>some ((⟨4,B.1,0,[],P⟩:zg),B.2)else nC s (nxT c r))=nC s (if(letB (atS r 0)||escS r)then(⟨4,(zu r).1,0,[],nmS r⟩,(zu r).2)else nxT c r):=by
     cases letB (atS r 0)||escS r with
     |false=>rfl
     |true=>rw[Da,g,OH a A];rfl
    show _=nC s (if(letB (atS r 0)||escS r)then(⟨4,(zu r).1,0,[],nmS r⟩,(zu r).2)else nxT c r);rw[<-F];cases T:letB (atS r 0)with
    |true=>rfl
    |false=> simp_all
def clsS:Str->Option Str
 |[]=>none
 |c::r=>if c==42&&atS r 0==47 then some (r.drop 1)else clsS r
theorem Un: ∀(l:Str) {r:Str},clsS l=some r->r<:+l/\r.length+2<=l.length
 |[],r,h=>by cases h
 |c::t,r,h=>by
  unfold clsS at h;split at h
  ·rename_i a;rw[Ca,Bb,Bb]at a;injection h with h;subst h;have:=Sy (l:=t) (n:=0) (by rw[a.2];decide);exact⟨(Cf 1 t).trans (Oe c t),by grind⟩
  ·obtain⟨d,b⟩:=Un t h
   grind
theorem pre2(b:UInt8)(l:Str):([42,47]:Str).isPrefixOf (b::l)=(b==42&&atS l 0==47):=by
 have c:((42:UInt8)==b)=(b==42):=by rw[Kg,Bb,Bb];exact eq_comm
 rw[List.isPrefixOf,c];cases l with
 |nil=>rfl
 |cons d t=>
  have a:((47:UInt8)==d)=(d==47):=by rw[Kg,Bb,Bb];exact eq_comm
  rw[List.isPrefixOf,a,List.isPrefixOf];rw[ib];rfl
theorem gT: ∀l:Str,Lib.index l [42,47]=match clsS l with|none=> -1|some r=>((l.length - r.length - 2:Nat):Int)
 |[]=>rfl
 |b::l=>by
  rw[Lib.index,pre2,clsS];cases h:b==42&&atS l 0==47 with
  |true=>
   grind
  |false=>
   simp only[Cc,De];rw[gT l];cases a:clsS l with
   |none=>rfl
   |some r=>
    have:=(Un l a).2
    grind
def cmtS(l:Str):Str:=
 if([47,42]:Str).isPrefixOf l then
  (match h:clsS (l.drop 2)with
  |some q=>cmtS q
  |none=>[])
 else l
termination_by l.length
decreasing_by
 have:=(Un _ h).2
 grind
theorem Uk(l:Str):cmtS l=if([47,42]:Str).isPrefixOf l then(match clsS (l.drop 2)with|some q=>cmtS q|none=>[])else l:=by
 rw[cmtS]
 grind
theorem ZR{l:Str}(h:([47,42]:Str).isPrefixOf l=false):cmtS l=l:=by rw[Uk,h];rfl
theorem Tn(l:Str):cmtS l<:+l:=by
 rw[Uk];split
 ·split
  ·rename_i q b;have a:=Un _ b;have c:=a.2;rw[Dc]at c;exact(Tn q).trans (a.1.trans (Cf 2 l))
  grind
 grind
termination_by l.length
decreasing_by
 grind
theorem Mt(l:Str):cmtS (cmtS l)=cmtS l:=by
 rw[Uk l];split
 ·split
  ·rename_i q a;have b:=(Un _ a).2;rw[Dc]at b;exact Mt q
  ·exact ZR rfl
 ·rename_i h;exact ZR (Bool.eq_false_iff.2 h)
termination_by l.length
decreasing_by
 grind
theorem Dw(l:Str):([47,42]:Str).isPrefixOf (cmtS l)=false:=by
 have h:=Mt l;cases b:([47,42]:Str).isPrefixOf (cmtS l)with
 |false=>rfl
 |true=>
  exfalso;rw[Uk (cmtS l),b,Ka rfl]at h;have c:=Bq b;rw[show([47,42]:Str).length=2 from rfl]at c;cases a:clsS ((cmtS l).drop 2)with
  |none=>grind
  |some q=>
   rw[a]at h;have d:=(Un _ a).2;have e:=(Tn q).length_le
   grind
theorem VU{s q:Str}(hs:s.length<=40000)(hq:q<:+s):ZG (sr s q)=some (sr s (cmtS q)):=by
 have hsb:s.length<=big:=by unfold big;omega
 unfold ZG;refine CG (fun z=> ∃p,z=sr s p/\p<:+s/\cmtS p=cmtS q) (fun z=>s.length - z.at_.toNat) _ ?_ ⟨q,rfl,hq,rfl⟩;rintro _ ⟨p,rfl,hp,he⟩;rw[zF J4];simp only[ze,FP hp,QL,Aa];rw[Uk p]at he;cases hpre:([47,42]:Str).isPrefixOf p with
 |false=>
  grind
 |true=>
  rw[hpre,Ka rfl]at he;have hl:=Bq hpre;rw[show([47,42]:Str).length=2 from rfl]at hl;have hle:=hp.length_le;have hb:=iP hp hl;have hb2:=um s (p.drop 2);rw[Da];have hw:w64 ((beh s p:Int)+2)=((beh s (p.drop 2):Nat):Int):=by rw[<-hb,Zq (by omega) (by omega)];omega
  rw[hw,zF (by grind),FP (Wn hp 2)];have hlen:(p.drop 2).length<=40000:=by rw[Dc];omega
  have hi:Bn (p.drop 2,[42,47])=some (Lib.index (p.drop 2) [42,47]):=by unfold Bn;rw[zF (by exact Ga (show(p.drop 2).length<4294967281 by omega))]
  rw[hi,gT];simp only[Aa];cases hc:clsS (p.drop 2)with
  |none=>
   rw[hc]at he;refine .inr (.inr ?_);rw[<-he];show _=some (LO.ret (⟨s,(beh s []:Int)⟩:za));unfold beh
   grind
  |some r=>
   rw[hc]at he;obtain⟨h1,h2⟩:=Un _ hc;have hrs:r<:+s:=h1.trans (Wn hp 2);rw[Dc]at h2 hlen;simp only;rw[Db (by omega),Ba];refine .inl ⟨sr s r,?_,⟨r,rfl,hrs,he⟩,?_⟩
   ·rw[Dc,Zq (n:=_+4) (by omega) (by omega)];have:(beh s p:Int)+(((p.length - 2 - r.length - 2:Nat):Int)+4)=((beh s r:Nat):Int):=by unfold beh;omega
    rw[this,Zq (by grind) (by grind)]
   ·show s.length - beh s r<s.length - beh s p;unfold beh;omega
def Zb(l:Str):List zg:=
 match h:cmtS l with
 |[]=>[]
 |c::r=>(ZC (c::r)).1::Zb (ZC (c::r)).2
termination_by l.length
decreasing_by
 have b:=(Gm c r).length_le;have a:=(Tn l).length_le
 grind
theorem Q6{l:Str}(h:cmtS l=[]):Zb l=[]:=by
 rw[Zb]
 grind
theorem Qy{l:Str}{c:UInt8}{r:Str}(h:cmtS l=c::r):Zb l=(ZC (c::r)).1::Zb (ZC (c::r)).2:=by
 rw[Zb]
 grind
theorem YF(l:Str):Zb (cmtS l)=Zb l:=by
 cases h:cmtS l with
 |nil=>rw[Q6 h];exact Q6 (ZR rfl)
 |cons c r=> rw[Qy h];exact Qy (by rw[<-h,Mt])
theorem zzU: ∀l:Str,(Proofs.Cl.cleanS l).length<=3*l.length:=by
 have: ∀(n:Nat) (l:Str),l.length<=n->(Proofs.Cl.cleanS l).length<=3*l.length:=by
  intro n
  induction n with
  |zero=>
   intro l h;cases l with
   |nil=>rw[Proofs.Cl.cleanS];grind
   |cons c r=>grind
  |succ n ih=>
   intro l h;rw[Proofs.Cl.cleanS.eq_def]
   grind
 exact fun l=>this l.length l (Ua _)
def QZ(w:Str):List zg×Int:=if 4000<w.length then([],28)else if 1500<(Zb (Proofs.Cl.cleanS w)).length then([],4)else(Zb (Proofs.Cl.cleanS w),0)
theorem zGN{n:Nat}(h:n<=100000):zW n 1 56=true:=by unfold zW;grind
theorem KL(w:Str):QT w=some (QZ w):=by
 unfold QT QZ;by_cases b:4000<w.length
 ·have e:wm w=some ([],28):=by unfold wm;rw[Ka b]
  unfold aB
  grind
 ·have e:wm w=some (Proofs.Cl.cleanS w,0):=by unfold wm;rw[Ia b]
  rw[Ia b];have x:=zzU w;generalize Proofs.Cl.cleanS w=s at e x;have o:s.length<=40000:=by omega
  unfold aB;rw[e];simp only[ze,Aa];rw[show((0:Int) != 0)=false from rfl,Ba,sr_0,VU o (Jf s)];simp only[Aa];have f: ∃z:Int×List zg,Zj (fun(d:Int×List zg×za)=>
    bif decide (d.2.2.at_<(s.length:Int))then
     bif decide (w64 (d.1+1)>1500)then
      some (LO.ret (4,d.2.1))
     else
      (qW d.2.2).bind fun t=>
      (SC ((t.1,d.2.2.at_,t.2.at_),d.2.1)).bind fun y=>
      (ZG t.2).bind fun A=>
      some (LO.again (w64 (d.1+1),y,A))
    else
     some (LO.out (d.2.1,d.2.2)):Int×List zg×za->Option (LO (Int×List zg×za) (List zg×za) (Int×List zg))) (0,[],sr s (cmtS s)) (fun C=>some (0,C.1))=some z/\
    z=(if 1500<(Zb s).length then(4,(Zb s).take 1500)else(0,Zb s)):=by
   refine⟨_,CG (fun z=> ∃(a:List zg) (q:Str),z=((a.length:Int),a,sr s q)/\q<:+s/\cmtS q=q/\a.length<=1500/\a++Zb q=Zb s) (fun z=>s.length - z.2.2.at_.toNat) (if 1500<(Zb s).length then(4,(Zb s).take 1500)else(0,Zb s)) ?_ ⟨[],cmtS s,rfl,Tn s,Mt s,by simp,by rw[Pb,YF]⟩,rfl⟩;rintro _ ⟨a,q,rfl,m,n,G,i⟩;simp only;have l:=m.length_le;cases q with
   |nil=>
    have B:((beh s []:Nat):Int)=(s.length:Int):=by unfold beh;rw[Eb];rfl
    have k:decide (((beh s []:Nat):Int)<(s.length:Int))=false:=Db (by omega);simp only[k,Ba];rw[Q6 (ZR rfl),Xa]at i
    grind
   |cons c r=>
    rw[Fa]at l;have B:beh s (c::r)<s.length:=by unfold beh;rw[Fa];omega
    have k:decide (((beh s (c::r):Nat):Int)<(s.length:Int))=true:=Ga (by omega);have v:w64 ((a.length:Int)+1)=(a.length:Int)+1:=Zq (by omega) (by omega);simp only[k,Da,v];rw[Qy n]at i;have g:=congrArg List.length i;rw[Ja,Fa]at g;by_cases j:a.length=1500
    ·grind
    ·have p:decide ((a.length:Int)+1>1500)=false:=Db (by omega);simp only[p,Ba,zKV o m rfl,Aa];unfold SC;rw[zF (zGN (by simp only;omega))];have h:(ZC (c::r)).2<:+s:=(Gm c r).trans (Xk m);simp only[Aa,VU o h];refine .inl ⟨_,rfl,⟨a++[(ZC (c::r)).1],cmtS (ZC (c::r)).2,?_,(Tn _).trans h,Mt _,by grind,?_⟩,?_⟩
     ·grind
     ·rw[YF,La];exact i
     ·have E:=(Gm c r).length_le;have F:=(Tn (ZC (c::r)).2).length_le;show s.length - beh s (cmtS (ZC (c::r)).2)<s.length - beh s (c::r);unfold beh at*
      grind
  obtain⟨z,D,u⟩:=f
  grind
theorem Lj{q:Str}{n:Nat}(x:Str)(h:n<q.length):atS (q++x) n=atS q n:=by
 unfold atS
 grind
theorem Yn{p:UInt8->Bool}(x:Str): ∀{q:Str},past p q≠[]->past p (q++x)=past p q++x
 |[],h=>absurd rfl h
 |c::r,h=>by
  rw[Sa,past,past];rw[past]at h;cases a:p c with
  |true=>rw[a,Ka rfl]at h;rw[Ka rfl,Ka rfl];exact Yn x h
  |false=>rfl
theorem IE{p:UInt8->Bool}(x:Str): ∀{q:Str},past p q≠[]->(q++x).takeWhile p=q.takeWhile p
 |[],h=>absurd rfl h
 |c::r,h=>by
  rw[Sa,List.takeWhile_cons,List.takeWhile_cons];rw[past]at h;cases a:p c with
  |true=>rw[a,Ka rfl]at h;rw[Ka rfl,Ka rfl,IE x h]
  |false=>rfl
theorem jT(x:Str): ∀{k n:Nat} {l:Str},(hexes k n l).2≠[]->hexes k n (l++x)=((hexes k n l).1,(hexes k n l).2++x)
 |0,n,l,_=>rfl
 |k+1,n,[],h=>absurd rfl h
 |k+1,n,c::r,h=>by
  rw[Sa,hexes,hexes];rw[hexes]at h;split
  ·rename_i a;rw[Ka a]at h;exact jT x h
  ·rfl
theorem zFB{l:Str}(x:Str)(h:l≠[]):unsp (l++x)=unsp l++x:=by
 cases l with
 |nil=>grind
 |cons c r=> show(if spB c then r++x else c::(r++x))=(if spB c then r else c::r)++x;split<;>rfl
theorem aG{r:Str}(x:Str)(h:(zy r).2≠[]):zy (r++x)=((zy r).1,(zy r).2++x):=by
 cases r with
 |nil=>exact absurd rfl h
 |cons c r=>
  have e: ∀t:Str,zy (c::t)=if QW c then(Yh (hexes 6 0 (c::t)).1,unsp (hexes 6 0 (c::t)).2)else([c],t):=fun t=>rfl;rw[Sa,e,e];rw[e]at h;split
  ·rename_i b;rw[Ka b]at h;have a:(hexes 6 0 (c::r)).2≠[]:=by intro d;rw[d]at h;exact h rfl
   rw[show c::(r++x)=(c::r)++x from rfl,jT x a,zFB x a]
  ·rfl
theorem Yz{c:UInt8}{r:Str}(x:Str)(h:r≠[]\/c≠92):escS (c::(r++x))=escS (c::r):=by
 unfold escS;show(c==92&& !(atS (r++x) 0==10))=(c==92&& !(atS r 0==10));rcases h with h|h
 ·cases r with
  |nil=>grind
  |cons d t=>rfl
 grind
theorem ww{q:Str}(x:Str)(h:(zu q).2≠[]):zu (q++x)=((zu q).1,(zu q).2++x):=by
 match q with
 |[]=>rw[Ql]at h;grind
 |c::r=>
  rw[Sa,zZ,zZ];rw[zZ]at h;cases f:letB c with
  |true=> rw[f,Ka rfl]at h;simp only[Te];rw[ww x h]
  |false=>
   rw[f,Ia (by decide)]at h;simp only[Cc,De];cases a:escS (c::r)with
   |true=>
    rw[a,Ka rfl]at h;have g:(zy r).2≠[]:=by intro e;simp only[e,Ql]at h;exact h rfl
    have b:r≠[]:=by rintro rfl;exact g rfl
    rw[Yz x (.inl b),a];simp only[Te];rw[aG x g];have:=Zl r;simp only;rw[ww x h]
   |false=>
    have b:r≠[]\/c≠92:=by
     cases r with
     |nil=> right;rintro rfl;exact absurd a (by decide)
     |cons d t=>left;simp
    rw[Yz x b,a];grind
termination_by q.length
decreasing_by
 all_goals grind
theorem UG{m:UInt8}{q:Str}(x:Str)(h:(Zg m q).2≠[]):Zg m (q++x)=((Zg m q).1,(Zg m q).2++x):=by
 match q with
 |[]=>rw[Fu]at h;grind
 |c::r=>
  rw[Sa,QO,QO];rw[QO]at h;cases g:c==m with
  |true=>grind
  |false=>
   rw[g,Ia (by decide)]at h;simp only[Cc,De];cases k:c==10 with
   |true=>grind
   |false=>
    rw[k,Ia (by decide)]at h;simp only[Cc,De];cases b:c==92 with
    |false=> rw[b,Ia (by decide)]at h;simp only[Cc,De];rw[UG x h]
    |true=>
     rw[b,Ka rfl]at h;simp only[Te];cases f:r with
     |nil=>grind
     |cons d t=>
      rw[f]at h;have j:r.length=t.length+1:=by rw[f];rfl
      rw[Sa,show(d::(t++x)).isEmpty=false from rfl,show(d::t).isEmpty=false from rfl];simp only[Cc,De];rw[show(d::t).isEmpty=false from rfl,Ia (by decide)]at h;rw[show atS (d::(t++x)) 0=atS (d::t) 0 from rfl];cases a:atS (d::t) 0==10 with
      |true=> rw[a,Ka rfl]at h;simp only[Te];exact UG (q:=t) x h
      |false=>
       rw[a,Ia (by decide)]at h;simp only[Cc,De];have i:(zy (d::t)).2≠[]:=by intro e;simp only[e,Fu]at h;exact h rfl
       rw[show d::(t++x)=(d::t)++x from rfl,aG x i];have:=Zl (d::t);simp only;rw[UG x h]
termination_by q.length
decreasing_by
 all_goals grind
theorem YE{q:Str}(x:Str)(h:badS q≠[]):badS (q++x)=badS q++x:=by
 match q with
 |[]=>rw[BA]at h;grind
 |c::r=>
  rw[Sa,iA,iA];rw[iA]at h;cases f:c==41 with
  |true=>grind
  |false=>
   rw[f,Ia (by decide)]at h;simp only[Cc,De];cases a:escS (c::r)with
   |true=>
    rw[a,Ka rfl]at h;have d:(zy r).2≠[]:=by intro e;rw[e,BA]at h;exact h rfl
    have b:r≠[]:=by rintro rfl;exact d rfl
    rw[Yz x (.inl b),a];simp only[Te];rw[aG x d];have:=Zl r;exact YE x h
   |false=>
    rw[a,Ia (by decide)]at h;have b:r≠[]\/c≠92:=by left;rintro rfl;rw[BA]at h;exact h rfl
    rw[Yz x b,a];simp only[Cc,De];exact YE x h
termination_by q.length
decreasing_by
 all_goals grind
theorem vH{q:Str}(x:Str)(h:(urlS q).2≠[]):urlS (q++x)=((urlS q).1,(urlS q).2++x):=by
 match q with
 |[]=>rw[Ht]at h;grind
 |c::r=>
  rw[Sa,Bo,Bo];rw[Bo]at h;cases l:c==41 with
  |true=>grind
  |false=>
   rw[l,Ia (by decide)]at h;simp only[Cc,De];cases j:spB c with
   |true=>
    rw[j,Ka rfl]at h;simp only[Te];cases f:past spB r with
    |nil=>grind
    |cons d t=>
     rw[Yn x (by rw[f];simp),f];rw[f]at h;simp only[Sa]at h ⊢;cases a:d==41 with
     |true=>grind
     |false=> rw[a,Ia (by decide)]at h;simp only[Cc,De];rw[show d::(t++x)=(d::t)++x from rfl,YE x h]
   |false=>
    rw[j,Ia (by decide)]at h;simp only[Cc,De];have b:(c=92->r≠[])->escS (c::(r++x))=escS (c::r):=by
     intro k;refine Yz x ?_;by_cases e:c=92
     ·exact .inl (k e)
     ·exact .inr e
    have m:c=92->r≠[]:=by
     rintro rfl rfl;have o:escS [92]=true:=by decide
     rw[o,show((92:UInt8)==92&& !true)=false from rfl,Gd]at h;cases i:((92:UInt8)==34||(92:UInt8)==39||(92:UInt8)==40||unB 92)with
     |true=>exact absurd i (by decide)
     |false=> rw[i,Ia (by decide),Ka (by decide)]at h;exact absurd (by show(urlS (zy []).2).2=[];rw[show(zy []).2=[]from rfl,Ht]) h
    rw[b m];cases a:c==34||c==39||c==40||unB c||c==92&& !escS (c::r)with
    |true=> rw[a,Ka rfl]at h;simp only[Te];rw[show c::(r++x)=(c::r)++x from rfl,YE x h]
    |false=>
     rw[a,Ia (by decide)]at h;simp only[Cc,De];cases g:c==92 with
     |true=>
      rw[g,Ka rfl]at h;simp only[Te];have n:(zy r).2≠[]:=by intro e;simp only[e,Ht]at h;exact h rfl
      rw[aG x n];have:=Zl r;simp only;rw[vH x h]
     |false=> rw[g,Ia (by decide)]at h;simp only[Cc,De];rw[vH x h]
termination_by q.length
decreasing_by
 all_goals grind
theorem Io{q:Str}(x:Str)(h:q≠[]):unsign (q++x)=unsign q++x/\sgOf (q++x)=sgOf q:=by
 cases q with
 |nil=>grind
 |cons c r=> unfold unsign sgOf;show(if Ng c then r++x else c::(r++x))=(if Ng c then r else c::r)++x/\_;refine⟨by split<;>rfl,rfl⟩
def Eg(q:Str):Str:=past digB (unsign q)
theorem DT{q x:Str}(h:(Zf q).1≠[])(f:q=[46]->digB (atS x 0)=false):Zf (q++x)=((Zf q).1++x,(Zf q).2)/\dotP (q++x)=dotP q:=by
 unfold Zf dotP;unfold Zf at h;cases q with
 |nil=>exact absurd rfl h
 |cons c r=>
  have g:(atS ((c::r)++x) 0==46&&digB (atS ((c::r)++x) 1))=(atS (c::r) 0==46&&digB (atS (c::r) 1)):=by
   show(c==46&&digB (atS (r++x) 0))=(c==46&&digB (atS r 0));cases r with
   |nil=>
    cases a:c==46 with
    |false=>rfl
    |true=> rw[Bb]at a;subst a;show(true&&digB (atS x 0))=(true&&digB (atS [] 0));rw[f rfl];rfl
   |cons d t=>rfl
  rw[g];cases e:(atS (c::r) 0==46&&digB (atS (c::r) 1))with
  |false=>grind
  |true=>
   rw[e,Ka rfl]at h;simp only[Te];rw[show((c::r)++x).drop 1=r++x from rfl,show(c::r).drop 1=r from rfl];have b:past digB r≠[]:=h;rw[Yn x b,IE x b]
   grind
theorem zHo{w x:Str}(hw:w≠[])(h: ∀r,expS w=some r->r≠[])(hn:expS w=none->expS (w++x)=none):
  expS (w++x)=(expS w).map (· ++x)/\expP (w++x)=expP w:=by
 have hP: ∀q:Str,expP q=if(expS q).isSome then some (atS q 0,sgOf (q.drop 1),(unsign (q.drop 1)).takeWhile digB)else none:=by
  intro q;unfold expP expS;cases atS q 0==101||atS q 0==69 with
  |false=>rfl
  |true=>
   grind
 cases he:expS w with
 |none=>
  grind
 |some r=>
  have hr:=h r he;cases w with
  |nil=>grind
  |cons c t=>
   have he':=he;unfold expS at he';cases h1:atS (c::t) 0==101||atS (c::t) 0==69 with
   |false=>grind
   |true=>
    rw[h1,Ka rfl]at he';cases h2:digB (atS (unsign ((c::t).drop 1)) 0)with
    |false=>grind
    |true=>
     rw[h2,Ka rfl]at he';have hrr:past digB (unsign t)=r:=by injection he'
     have ht:t≠[]:=by rintro rfl;exact absurd (show digB (atS (unsign []) 0)=true from h2) (by decide)
     obtain⟨u1,u2⟩:=Io x ht;have hun:unsign t≠[]:=by intro e;rw[show(c::t).drop 1=t from rfl,e]at h2;exact absurd h2 (by decide)
     have hexp:expS ((c::t)++x)=some (r++x):=by unfold expS;rw[show atS ((c::t)++x) 0=atS (c::t) 0 from rfl,h1,Ka rfl,show((c::t)++x).drop 1=t++x from rfl,u1];have:atS (unsign t++x) 0=atS (unsign t) 0:=Lj x (xe.2 hun);rw[this,show digB (atS (unsign t) 0)=true from h2,Ka rfl,Yn x (by grind),hrr]
     refine⟨by rw[hexp];rfl,?_⟩;rw[hP,hP,hexp,he];simp only[Option.isSome_some,Te];rw[show((c::t)++x).drop 1=t++x from rfl,show(c::t).drop 1=t from rfl,u1,u2,IE x (by grind)];rfl
theorem Yk(q:Str):zX q=(match expS (Zf (Eg q)).1 with|some r=>(r,false)|none=>Zf (Eg q)):=rfl
theorem rD{q x:Str}(h:(zX q).1≠[])(j:Eg q=[46]->digB (atS x 0)=false)(l:expS (Zf (Eg q)).1=none->expS ((Zf (Eg q)).1++x)=none):
  zX (q++x)=((zX q).1++x,(zX q).2)/\numP (q++x)=numP q:=by
 rw[Yk]at h;have a: ∀r,expS (Zf (Eg q)).1=some r->r≠[]:=by intro r p;rw[p]at h;exact h
 have b:(Zf (Eg q)).1≠[]:=by intro e;rw[e,show expS []=none from rfl]at h;exact h e
 have c:Eg q≠[]:=by intro e;rw[e]at b;exact b rfl
 have n:q≠[]:=by rintro rfl;exact c rfl
 obtain⟨d,k⟩:=Io x n;have f:Eg (q++x)=Eg q++x:=by unfold Eg;rw[d];exact Yn x c
 obtain⟨i,m⟩:=DT b j;obtain⟨s,o⟩:=zHo b a l;have g: ∀z:Str,numP z=⟨sgOf z,(unsign z).takeWhile digB,dotP (Eg z),expP (Zf (Eg z)).1⟩:=fun z=>rfl;constructor
 ·rw[Yk,Yk,f,i]
  grind
 ·rw[g,g,k,d,IE x c,f,i,m,o]
def brS(c:UInt8)(r:Str):Nat:=
 if spB c then 0
 else if c==34||c==39 then 1
 else if c==35&&(letB (atS r 0)||escS r)then 2
 else if nbS (c::r)then 3
 else if [45,45,62].isPrefixOf (c::r)then 4
 else if [60,33,45,45].isPrefixOf (c::r)then 5
 else if c==64&&nmS r then 6
 else if nmS (c::r)then 7
 else if Ih c==0 then 8
 else 9
def nxB:Nat->UInt8->Str->zg×Str
 |0,c,r=>(Rh 13,past spB (c::r))
 |1,c,r=>(yl (Zg c r).1,(Zg c r).2)
 |2,_,r=>(⟨4,(zu r).1,0,[],nmS r⟩,(zu r).2)
 |3,c,r=>zS (c::r)
 |4,c,r=>(Rh 15,(c::r).drop 3)
 |5,c,r=>(Rh 14,(c::r).drop 4)
 |6,_,r=>(⟨3,(zu r).1,0,[],false⟩,(zu r).2)
 |7,c,r=>Qi (c::r)
 |8,c,r=>(⟨9,[c],0,[],false⟩,r)
 |_+9,c,r=>(Rh (Ih c),r)
theorem WH(c:UInt8)(r:Str):nxB 0 c r=(Rh 13,past spB (c::r)):=by rw[nxB]
theorem uC(c:UInt8)(r:Str):nxB 1 c r=(yl (Zg c r).1,(Zg c r).2):=by rw[nxB]
theorem ko(c:UInt8)(r:Str):nxB 2 c r=(⟨4,(zu r).1,0,[],nmS r⟩,(zu r).2):=by rw[nxB]
theorem nk(c:UInt8)(r:Str):nxB 3 c r=zS (c::r):=by rw[nxB]
theorem U3(c:UInt8)(r:Str):nxB 4 c r=(Rh 15,(c::r).drop 3):=by rw[nxB]
theorem R3(c:UInt8)(r:Str):nxB 5 c r=(Rh 14,(c::r).drop 4):=by rw[nxB]
theorem cu(c:UInt8)(r:Str):nxB 6 c r=(⟨3,(zu r).1,0,[],false⟩,(zu r).2):=by rw[nxB]
theorem Jk(c:UInt8)(r:Str):nxB 7 c r=Qi (c::r):=by rw[nxB]
theorem bu(c:UInt8)(r:Str):nxB 8 c r=(⟨9,[c],0,[],false⟩,r):=by rw[nxB]
theorem AO(c:UInt8)(r:Str):nxB 9 c r=(Rh (Ih c),r):=rfl
theorem qp(c:UInt8)(r:Str):ZC (c::r)=nxB (brS c r) c r:=by
 rw[Yt];unfold brS;split
 ·rfl
 ·split
  ·rfl
  ·split
   ·rfl
   ·split
    ·rfl
    ·split
     ·rfl
     ·split
      ·rfl
      ·split
       ·rfl
       ·split
        ·rfl
        ·split<;>rfl
theorem br_4{c:UInt8}{r:Str}:brS c r=4->[45,45,62].isPrefixOf (c::r)=true:=by unfold brS;grind
theorem br_5{c:UInt8}{r:Str}:brS c r=5->[60,33,45,45].isPrefixOf (c::r)=true:=by unfold brS;grind
theorem br_9{c:UInt8}{r:Str}:brS c r=9-> ¬(Ih c==0)=true:=by unfold brS;grind
theorem O0(c:UInt8)(r:Str):brS c r<=9:=by unfold brS;grind
def brK(k:Int):Nat:=
 if k=13 then 0 else if k=5\/k=6 then 1 else if k=4 then 2 else if k=10\/k=11\/k=12 then 3 else if k=15 then 4 else if k=14 then 5 else if k=3 then 6
 else if k=1\/k=2\/k=7\/k=8 then 7 else if k=9 then 8 else 9
theorem zEB(c:UInt8):Ih c=0\/(16<=Ih c/\Ih c<=24):=by
 have: ∀n:Nat,n<256->Ih (UInt8.ofNat n)=0\/(16<=Ih (UInt8.ofNat n)/\Ih (UInt8.ofNat n)<=24):=by decide+kernel
 have:=this c.toNat (Sb c);simp_all
theorem zE9(o:Option Str):(yl o).kind=5\/(yl o).kind=6:=by cases o<;>simp[yl]
theorem OJ(o:Option Str):(ol o).kind=7\/(ol o).kind=8:=by cases o<;>simp[ol]
theorem zyG(l:Str):(Qi l).1.kind=1\/(Qi l).1.kind=2\/(Qi l).1.kind=7\/(Qi l).1.kind=8:=by
 unfold Qi;split
 ·split
  ·exact .inr (.inr (OJ _))
  grind
 ·exact .inl rfl
theorem ztN(l:Str):(zS l).1.kind=10\/(zS l).1.kind=11\/(zS l).1.kind=12:=by
 unfold zS
 grind
theorem U1{i:Nat}(h:i<=9):i=0\/i=1\/i=2\/i=3\/i=4\/i=5\/i=6\/i=7\/i=8\/i=9:=by omega
theorem Kq(c:UInt8)(r:Str):brK (ZC (c::r)).1.kind=brS c r:=by
 rw[qp];rcases U1 (O0 c r)with h|h|h|h|h|h|h|h|h|h
 ·rw[h];rfl
 ·rw[h,uC];show brK (yl (Zg c r).1).kind=1;rcases zE9 (Zg c r).1 with h|h<;>rw[h]<;>rfl
 ·rw[h];rfl
 ·rw[h,nk];rcases ztN (c::r)with h|h|h<;>rw[h]<;>rfl
 ·rw[h];rfl
 ·rw[h];rfl
 ·rw[h];rfl
 ·rw[h,Jk];rcases zyG (c::r)with h|h|h|h<;>rw[h]<;>rfl
 ·rw[h];rfl
 ·have b:=zEB c;have a:=br_9 h;rw[Bb]at a;rw[h,AO];show brK (Ih c)=9;unfold brK
  repeat rw[Ia (by omega)]
theorem zAQ{q x:Str}(h:(Qi q).2≠[]):Qi (q++x)=((Qi q).1,(Qi q).2++x):=by
 have g:(zu q).2≠[]:=by intro e;unfold Qi at h;rw[e,Ia (by decide)]at h;exact h rfl
 have e:=ww x g;unfold Qi;unfold Qi at h;rw[e];simp only;have i:atS ((zu q).2++x) 0=atS (zu q).2 0:=Lj x (xe.2 g);rw[i];cases b:atS (zu q).2 0==40 with
 |false=>rfl
 |true=>
  rw[b,Ka rfl]at h;simp only[Te];cases f:(zu q).2 with
  |nil=>grind
  |cons c r=>
   rw[f]at h;rw[show((c::r)++x).drop 1=r++x from rfl];rw[show(c::r).drop 1=r from rfl]at h ⊢;cases j:lowS (zu q).1==[117,114,108]with
   |false=>
    grind
   |true=>
    rw[j,Cb]at h;simp only[Cb];cases a:past spB r with
    |nil=>
     rw[a,Ka (by decide),Ht]at h
     grind
    |cons d t=>
     rw[Yn x (by rw[a];simp),a];rw[a]at h;rw[show atS ((d::t)++x) 0=atS (d::t) 0 from rfl];split
     ·rename_i k;rw[Ka k]at h;rw[vH x h]
     ·rfl
theorem Ow{q x:Str}{n:Nat}(h:n<=q.length):(q++x).drop n=q.drop n++x:=Bh h
structure zmS (q x:Str):Prop where
 e:zX (q++x)=((zX q).1++x,(zX q).2)
 p:numP (q++x)=numP q
 n:nmS ((zX q).1++x)=nmS (zX q).1
theorem zvH{q x:Str}(a:zmS q x)(h:(zS q).2≠[]):zS (q++x)=((zS q).1,(zS q).2++x):=by
 have f:(zX q).1≠[]:=by intro e;unfold zS at h;rw[e,Ia (by decide),Ia (by decide)]at h;exact h rfl
 have b:atS ((zX q).1++x) 0=atS (zX q).1 0:=Lj x (xe.2 f);unfold zS;unfold zS at h;rw[a.e,a.p];simp only[a.n,b];cases c:nmS (zX q).1 with
 |true=> rw[c,Ka rfl]at h;simp only[Te];rw[ww x h]
 |false=>
  simp only[Cc,De];cases d:atS (zX q).1 0==37 with
  |true=> simp_all
  |false=>grind
theorem vz {c:UInt8} {r x:Str} (f:brS c (r++x)=brS c r) (h:(ZC (c::r)).2≠[]) (e:brS c r=2->nmS (r++x)=nmS r)
  (b:brS c r=3->zmS (c::r) x):ZC (c::(r++x))=((ZC (c::r)).1,(ZC (c::r)).2++x):=by
 rw[qp c (r++x),f];rw[qp]at h ⊢;rcases U1 (O0 c r)with a|a|a|a|a|a|a|a|a|a
 ·rw[a,WH]at h;rw[a,WH,WH,show c::(r++x)=(c::r)++x from rfl,Yn x h]
 ·rw[a,uC]at h;rw[a,uC,uC,UG x h]
 ·rw[a,ko]at h;rw[a,ko,ko,ww x h,e a]
 ·have g:=b a;rw[a,nk]at h;rw[a,nk,nk,show c::(r++x)=(c::r)++x from rfl,zvH g h]
 ·have d:=Bq (br_4 a);rw[a,U3,U3,show c::(r++x)=(c::r)++x from rfl,Ow (show 3<=(c::r).length from d)]
 ·have d:=Bq (br_5 a);rw[a,R3,R3,show c::(r++x)=(c::r)++x from rfl,Ow (show 4<=(c::r).length from d)]
 ·rw[a,cu]at h;rw[a,cu,cu,ww x h]
 ·rw[a,Jk]at h;rw[a,Jk,Jk,show c::(r++x)=(c::r)++x from rfl,zAQ h]
 ·rw[a,bu,bu]
 ·rw[a,AO,AO]
theorem jK{q:Str}(x:Str)(h:q≠[]):undot (q++x)=undot q++x:=by
 cases q with
 |nil=>grind
 |cons c r=> unfold undot;show(if c==46 then r++x else c::(r++x))=(if c==46 then r else c::r)++x;split<;>rfl
theorem zC8(q:Str):q.length<=(undot q).length+1:=by
 unfold undot
 grind
theorem NL(q:Str):q.length<=(unsign q).length+1:=by
 unfold unsign
 grind
theorem Ot{q:Str}(h:1<=q.length):q≠[]:=by grind
theorem zJT{q:Str}(x:Str)(h:3<=q.length):nbS (q++x)=nbS q:=by have b:=NL q;have a:=zC8 (unsign q);unfold nbS;rw[(Io x (Ot (by omega))).1,jK x (Ot (by omega)),Lj x (by omega)]
theorem PD{q:Str}(x:Str)(h:3<=q.length):nmS (q++x)=nmS q:=by unfold nmS escS;rw[Ow (by omega),Lj x (show 0<q.length by omega),Lj x (show 1<q.length by omega),Lj x (show 0<(q.drop 1).length by grind),Lj x (show 1<(q.drop 1).length by grind)]
theorem Gw{m:Str}: ∀{q:Str} (x:Str),m.length<=q.length->m.isPrefixOf (q++x)=m.isPrefixOf q:=by
 induction m with
 |nil=>grind
 |cons a m c=>
  intro q x h;cases q with
  |nil=>grind
  |cons b t=>
   grind
theorem zJa{c:UInt8}{r:Str}(x:Str)(h:4<=r.length):brS c (r++x)=brS c r:=by
 have e:c::(r++x)=(c::r)++x:=rfl;have hl:(c::r).length=r.length+1:=rfl;unfold brS;rw[e,zJT x (by omega),Gw x (by grind),Gw x (by grind),PD x (q:=r) (by omega),PD x (q:=c::r) (by omega),Lj x (show 0<r.length by omega)];have:escS (r++x)=escS r:=by unfold escS;rw[Lj x (show 0<r.length by omega),Lj x (show 1<r.length by omega)]
 rw[this]
theorem Ll{w:Str}:expS w=none↔((atS w 0==101||atS w 0==69)&&digB (atS (unsign (w.drop 1)) 0))=false:=by
 unfold expS
 grind
theorem zHp{w:Str}(x:Str)(h:3<=w.length)(a:expS w=none):expS (w++x)=none:=by rw[Ll]at a ⊢;have b:=NL (w.drop 1);rw[Dc]at b;rw[Ow (by omega),(Io x (Ot (by grind))).1,Lj x (show 0<w.length by omega),Lj x (by omega)];exact a
theorem zzj(q:Str):(Zf q).1<:+q:=by
 unfold Zf;split
 ·exact(Oq _ _).trans (Cf 1 q)
 grind
theorem zJq(q:Str):(zX q).1<:+(Zf (Eg q)).1:=by
 rw[Yk];cases h:expS (Zf (Eg q)).1 with
 |some r=>exact Y9 (Jf _) h
 |none=>grind
theorem iV(q:Str):(zS q).2<:+(zX q).1:=by
 unfold zS;split
 ·exact Eo _
 ·split
  ·exact Cf 1 _
  grind
theorem zH0{q:Str}(x:Str)(h:4<=(zX q).1.length):zmS q x:=by have d:=(zJq q).length_le;have c:=(zzj (Eg q)).length_le;obtain⟨a,b⟩:=rD (q:=q) (x:=x) (Ot (by omega)) (fun e=>by grind) (zHp x (by omega));exact⟨a,b,PD x (by omega)⟩
theorem zEN{c:UInt8}{r:Str}(x:Str)(h:4<=(ZC (c::r)).2.length):ZC (c::(r++x))=((ZC (c::r)).1,(ZC (c::r)).2++x):=by have b:=(Gm c r).length_le;refine vz (zJa x (by omega)) (Ot (by omega)) (fun _=>PD x (by omega)) (fun a=>zH0 x ?_);rw[qp,a,nk]at h;have:=(iV (c::r)).length_le;omega
theorem eD(q y:Str):escS (q++47::y)=escS q:=by
 match q with
 |[]=>rfl
 |[c]=>rfl
 |c::d::t=>rfl
theorem vC(q y:Str):nmS (q++47::y)=nmS q:=by
 match q with
 |[]=>rfl
 |[c]=> unfold nmS;show(if c==45 then fstB 47||47==45||escS (47::y)else fstB c||escS ([c]++47::y))=(if c==45 then fstB 0||0==45||escS []else fstB c||escS [c]);rw[eD];rfl
 |c::d::t=> unfold nmS;show(if c==45 then fstB d||d==45||escS ((d::t)++47::y)else fstB c||escS ((c::d::t)++47::y))=(if c==45 then fstB d||d==45||escS (d::t)else fstB c||escS (c::d::t));rw[eD,eD]
theorem X7(q y:Str):digB (atS (q++47::y) 0)=digB (atS q 0):=by
 cases q with
 |nil=>rfl
 |cons c t=>rfl
theorem NT(q y:Str):unsign (q++47::y)=unsign q++47::y:=by
 cases q with
 |nil=>rfl
 |cons c t=>exact(Io (47::y) (by simp)).1
theorem zFz(q y:Str):undot (q++47::y)=undot q++47::y:=by
 cases q with
 |nil=>rfl
 |cons c t=>exact jK (47::y) (by simp)
theorem zKU(q y:Str):nbS (q++47::y)=nbS q:=by unfold nbS;rw[NT,zFz,X7]
theorem E5{m:Str}(c: ∀b∈m,b≠47): ∀(q y:Str),m.isPrefixOf (q++47::y)=m.isPrefixOf q:=by
 induction m with
 |nil=>grind
 |cons a m d=>
  intro q y;cases q with
  |nil=>
   grind
  |cons b t=>grind
theorem zJK(q y:Str):letB (atS (q++47::y) 0)=letB (atS q 0):=by
 cases q with
 |nil=>rfl
 |cons c t=>rfl
theorem yZ(c:UInt8)(r y:Str):brS c (r++47::y)=brS c r:=by have e:c::(r++47::y)=(c::r)++47::y:=rfl;unfold brS;rw[e,zKU,E5 (by decide),E5 (by decide),vC,vC,zJK,eD]
theorem zJt{w:Str}(y:Str)(a:expS w=none):expS (w++47::y)=none:=by
 cases w with
 |nil=>rfl
 |cons c t=> rw[Ll]at a ⊢;show((c==101||c==69)&&digB (atS (unsign (t++47::y)) 0))=false;rw[NT,X7];exact a
theorem zJZ{q:Str}(y:Str)(h:(zX q).1≠[]):zmS q (47::y):=by obtain⟨a,b⟩:=rD (q:=q) (x:=47::y) h (fun _=>rfl) (zJt y);exact⟨a,b,vC _ y⟩
theorem lL{q:Str}(h:(zS q).2≠[]):(zX q).1≠[]:=by intro e;have:=(iV q).length_le;simp_all
theorem zHW{c:UInt8}{r:Str}(y:Str)(h:(ZC (c::r)).2≠[]):ZC (c::(r++47::y))=((ZC (c::r)).1,(ZC (c::r)).2++47::y):=by refine vz (yZ c r y) h (fun _=>vC r y) (fun a=>zJZ y ?_);rw[qp,a,nk]at h;exact lL h
def FO(c:UInt8)(r x:Str):Prop:=(∃e a,(e=101\/e=69)/\Zf (Eg (c::r))=([e,43],a))/\(ZC (c::r)).2=[43]/\(ZC (c::r)).1.kind=12/\digB (atS x 0)=true
theorem zET{c:UInt8}{r x:Str}(hb:brS c r=3)(h:(ZC (c::r)).2≠[])(hx:x≠[])(ht:(zS ((c::r)++x)).1=(zS (c::r)).1):
  zmS (c::r) x\/FO c r x:=by
 have hnx:ZC (c::r)=zS (c::r):=by rw[qp,hb,nk]
 rw[hnx]at h;have he:=lL h;have hflag: ∀q:Str,(zS q).1.kind=10->(zS q).1.flag=(zX q).2:=by
  intro q;unfold zS;split
  ·intro h;cases h
  ·grind
 have hnm: ∀q:Str,((zS q).1.kind=12↔nmS (zX q).1=true):=by
  intro q;unfold zS;split
  ·grind
  ·grind
 by_cases hd:Eg (c::r)=[46]->digB (atS x 0)=false
 ·by_cases hn:expS (Zf (Eg (c::r))).1=none->expS ((Zf (Eg (c::r))).1++x)=none
  ·obtain⟨a,b⟩:=rD he hd hn;refine .inl ⟨a,b,?_⟩
   grind
  ·right;obtain⟨hn1,hn2⟩:=Classical.not_imp.1 hn;have hend:zX (c::r)=Zf (Eg (c::r)):=by rw[Yk,hn1]
   rw[hend]at he;obtain⟨w,fl⟩: ∃w fl,Zf (Eg (c::r))=(w,fl):=⟨_,_,rfl⟩;obtain⟨fl,hw⟩:=fl;rw[hw]at he hn1 hn2 hend;simp only at he hn1 hn2;rw[Ll]at hn1;rw[Ll]at hn2;cases w with
   |nil=>grind
   |cons e t=>
    have h2:((e==101||e==69)&&digB (atS (unsign (t++x)) 0))=true:=by
     have:((atS ((e::t)++x) 0==101||atS ((e::t)++x) 0==69)&&digB (atS (unsign (((e::t)++x).drop 1)) 0))=true:=by
      cases hh:((atS ((e::t)++x) 0==101||atS ((e::t)++x) 0==69)&&digB (atS (unsign (((e::t)++x).drop 1)) 0))with
      |true=>rfl
      |false=>grind
     exact this
    have h1:((e==101||e==69)&&digB (atS (unsign t) 0))=false:=hn1;rw[Ca]at h2;rw[h2.1,Cb]at h1;have hee:e=101\/e=69:=by have:=h2.1;rw[Vb,Bb,Bb]at this;exact this
    have hfst:fstB e=true/\letB e=true/\(e==45)=false:=by rcases hee with rfl|rfl<;>decide
    have hnmw:nmS (e::t)=true:=by unfold nmS;rw[show atS (e::t) 0=e from rfl,hfst.2.2,Ia (by decide),hfst.1];rfl
    have hnum:zS (c::r)=(⟨12,[],(numP (c::r)).val,(zu (e::t)).1,fl⟩,(zu (e::t)).2):=by unfold zS;rw[hend,Ka hnmw]
    rw[hnum]at h;have h':(zu (e::t)).2≠[]:=h;have ht43:t=[43]/\digB (atS x 0)=true:=by
     match t with
     |[]=>rw[zZ,Ka hfst.2.1,Ql]at h';grind
     |[d]=>
      have hux:unsign ([d]++x)=if Ng d then x else d::x:=rfl;have hu:unsign [d]=if Ng d then []else [d]:=rfl;rw[hux]at h2;rw[hu]at h1;cases hs:Ng d with
      |false=>
       rw[hs,Ia (by decide)]at h1 h2;have:=h2.2;rw[show atS (d::x) 0=atS [d] 0 from rfl,h1]at this;cases this
      |true=>
       rw[hs,Ka rfl]at h2;unfold Ng at hs;rw[Vb,Bb,Bb]at hs;rcases hs with rfl|rfl
       ·grind
       ·rw[zZ,Ka hfst.2.1,zZ,Ka (by decide),Ql]at h';grind
     |d::d2::t2=>
      exfalso;have hlen:1<=(unsign (d::d2::t2)).length:=by have:=NL (d::d2::t2);rw[Fa,Fa]at this;omega
      have:=h2.2;rw[(Io x (by simp)).1,Lj x (by omega),h1]at this;cases this
    obtain⟨rfl,hdx⟩:=ht43;refine⟨⟨e,fl,hee,hw⟩,?_,?_,hdx⟩
    ·rw[hnx,hnum];show(zu [e,43]).2=[43];rw[zZ,Ka hfst.2.1,zZ,Ia (by decide),Ia (by decide)]
    ·rw[hnx,hnum]
 ·exfalso;obtain⟨hq2,hdx⟩:=Classical.not_imp.1 hd;have hend:zX (c::r)=([46],true):=by rw[Yk,hq2];rfl
  have hnum:zS (c::r)=(⟨10,[],(numP (c::r)).val,[],true⟩,[46]):=by unfold zS;rw[hend,Ia (by decide),Ia (by decide)]
  rw[hnum]at ht;have hf:=hflag ((c::r)++x) (by rw[ht]);rw[ht]at hf;have hun:unsign (c::r)≠[]:=by intro e;rw[Eg,e]at hq2;cases hq2
  have e2:Eg ((c::r)++x)=46::x:=by unfold Eg;rw[(Io x (by simp)).1,Yn x (by unfold Eg at hq2;rw[hq2];simp)];unfold Eg at hq2;rw[hq2];rfl
  have hw:Zf (46::x)=(past digB x,false):=by
   unfold Zf;have:digB (atS x 0)=true:=by cases hh:digB (atS x 0)with|true=>rfl|false=>grind
   rw[show atS (46::x) 0=46 from rfl,show atS (46::x) 1=atS x 0 from rfl,this];rfl
  have hfl:(zX ((c::r)++x)).2=false:=by rw[Yk,e2,hw];simp only;cases expS (past digB x)<;>rfl
  rw[hfl]at hf;cases hf
theorem zBA{c:UInt8}{r x:Str}(h:(ZC (c::r)).2≠[])(hx:x≠[])(ht:(ZC (c::(r++x))).1=(ZC (c::r)).1):
  (ZC (c::(r++x))).2=(ZC (c::r)).2++x\/FO c r x:=by
 have hb:brS c (r++x)=brS c r:=by rw[<-Kq,<-Kq,ht]
 have hh:brS c r=2->nmS (r++x)=nmS r:=by intro hi;have:=congrArg zg.flag ht;rw[qp,qp,hb,hi,ko,ko]at this;exact this
 by_cases hi:brS c r=3
 ·have hnx:ZC (c::r)=zS (c::r):=by rw[qp,hi,nk]
  have hnx2:ZC (c::(r++x))=zS ((c::r)++x):=by rw[qp,hb,hi,nk];rfl
  have ht':=ht;rw[hnx,hnx2]at ht';rcases zET hi h hx ht' with hs|hp
  ·left;rw[vz hb h hh (fun _=>hs)]
  ·exact .inr hp
 ·left;rw[vz hb h hh (fun e=>absurd e hi)]
def run:Str->List zg->Str->Prop
 |q,[],R=>q=R
 |q,t::a,R=> ∃c r,cmtS q=c::r/\(ZC (c::r)).1=t/\run (ZC (c::r)).2 a R
theorem jv: ∀{ts:List zg} {q R:Str},run q ts R->R<:+q
 |[],q,R,h=>by rw[run]at h;grind
 |t::ts,q,R,h=>by obtain⟨c,r,d,e,b⟩:=h;have a:=Tn q;rw[d]at a;exact(jv b).trans ((Gm c r).trans ((Oe c r).trans a))
theorem Sq: ∀{ts:List zg} {q R:Str},run q ts R->Zb q=ts++Zb R
 |[],q,R,h=>by rw[run]at h;subst h;rfl
 |t::ts,q,R,h=>by obtain⟨c,r,d,b,a⟩:=h;rw[Qy d,b,Sq a];rfl
theorem gF: ∀{ts us:List zg} {q R S:Str},run q ts R->run R us S->run q (ts++us) S
 |[],us,q,R,S,h,a=>by rw[run]at h;subst h;exact a
 |t::ts,us,q,R,S,h,a=>by obtain⟨c,r,e,d,b⟩:=h;exact⟨c,r,e,d,gF b a⟩
theorem wQ: ∀{ts us:List zg} {q:Str},Zb q=ts++us-> ∃R,run q ts R/\Zb R=us
 |[],us,q,h=>⟨q,rfl,h⟩
 |t::ts,us,q,h=>by
  cases a:cmtS q with
  |nil=>rw[Q6 a]at h;cases h
  |cons c r=> rw[Qy a,Sa]at h;injection h with d f;obtain⟨R,e,b⟩:=wQ f;exact⟨R,⟨c,r,a,d,e⟩,b⟩
theorem E8: ∀{ts:List zg} {q R S:Str},run q ts R->run q ts S->R=S
 |[],q,R,S,h,b=>by rw[run]at h b;rw[<-h,b]
 |t::ts,q,R,S,h,b=>by obtain⟨c,r,f,m,g⟩:=h;obtain⟨l,k,a,e,d⟩:=b;rw[f]at a;injection a with i j;subst i j;exact E8 g d
theorem F8{ts:List zg}{q R:Str}(d:ts≠[]):run (cmtS q) ts R↔run q ts R:=by
 cases ts with
 |nil=>grind
 |cons t ts=>
  constructor
  ·rintro⟨c,r,a,b⟩;rw[Mt]at a;exact⟨c,r,a,b⟩
  ·rintro⟨c,r,a,b⟩;exact⟨c,r,by rw[Mt];exact a,b⟩
theorem AJ(x:Str): ∀{l r:Str},clsS l=some r->clsS (l++x)=some (r++x)
 |[],r,h=>by cases h
 |c::t,r,h=>by
  rw[clsS]at h;rw[Sa,clsS];cases t with
  |nil=>
   cases a:c==42&&atS ([]:Str) 0==47 with
   |true=>rw[Ca]at a;exact absurd a.2 (by decide)
   |false=>rw[a,Ia (by decide)]at h;cases h
  |cons d u=>
   rw[show atS ((d::u)++x) 0=atS (d::u) 0 from rfl];split
   ·grind
   ·rename_i a;rw[Ia a]at h;exact AJ x h
theorem Ew{q x:Str}(h:cmtS q≠[])(a:([47,42]:Str).isPrefixOf (cmtS q++x)=false):cmtS (q++x)=cmtS q++x:=by
 rw[Uk q]at h a ⊢;split at h
 ·rename_i b;have c:=Bq b;rw[show([47,42]:Str).length=2 from rfl]at c;rw[Ka b]at a ⊢;cases d:clsS (q.drop 2)with
  |none=>grind
  |some p=>
   rw[d]at h a;simp only at h a ⊢;rw[Uk (q++x),Gw x (by exact c),b,Ka rfl,Ow c,AJ x d];simp only;have e:p.length<q.length:=by have e:=(Un _ d).2;rw[Dc]at e;omega
   exact Ew h a
 ·rename_i b;rw[Ia b]at a ⊢;exact ZR a
termination_by q.length
decreasing_by omega
theorem nQ{c d:UInt8}(t x:Str):([47,42]:Str).isPrefixOf ((c::d::t)++x)=([47,42]:Str).isPrefixOf (c::d::t):=Gw x (by grind)
theorem aP{q x:Str}(h:2<=(cmtS q).length):cmtS (q++x)=cmtS q++x:=by refine Ew (Ot (by omega)) ?_;rw[Gw x (by exact h)];exact Dw q
theorem JQ{c:UInt8}{r:Str}(h:(ZC (c::r)).2≠[]):2<=(c::r).length:=by
 have b:=(Gm c r).length_le;have a:=xe.2 h
 grind
theorem D8: ∀{ts:List zg} {q R:Str} (x:Str),run q ts R->4<=R.length->run (q++x) ts (R++x)
 |[],q,R,x,h,_=>by rw[run]at h;subst h;rfl
 |t::ts,q,R,x,h,e=>by obtain⟨c,r,a,f,b⟩:=h;have i:=(jv b).length_le;have d:=zEN x (c:=c) (r:=r) (by omega);have g:=JQ (c:=c) (r:=r) (Ot (by omega));refine⟨c,r++x,by rw[aP (by rw[a];exact g),a];rfl,by rw[d];exact f,?_⟩;rw[d];exact D8 x b e
theorem mH{q:Str}(y:Str)(h:cmtS q≠[]):cmtS (q++47::42::y)=cmtS q++47::42::y:=by
 refine Ew h ?_;have b:=Dw q;cases a:cmtS q with
 |nil=>exact absurd a h
 |cons c t=>
  cases t with
  |nil=>
   grind
  |cons d u=>grind
theorem VO: ∀{ts:List zg} {q R:Str} (y:Str),run q ts R->R≠[]->run (q++47::42::y) ts (R++47::42::y)
 |[],q,R,y,h,_=>by rw[run]at h;subst h;rfl
 |t::ts,q,R,y,h,hl=>by
  obtain⟨c,r,h1,h2,h3⟩:=h;have h4:(ZC (c::r)).2≠[]:=by intro e;have:=(jv h3).length_le;rw[e]at this;exact hl (Xf.1 (by simpa using this))
  have h5:=zHW (42::y) h4;refine⟨c,r++47::42::y,by rw[mH y (by rw[h1];simp),h1];rfl,by rw[h5];exact h2,?_⟩;rw[h5];exact VO y h3 hl
def Y3(q x:Str)(us:List zg):Prop:= ∃c r,cmtS q=c::r/\FO c r x/\(ZC (c::(r++x))).1=(ZC (c::r)).1/\Zb (ZC (c::(r++x))).2=us
theorem eQ: ∀{ts us:List zg} {q R:Str} {x:Str},run q ts R->R≠[]->x≠[]->Zb (q++x)=ts++us->run (q++x) ts (R++x)\/(R=[43]/\ ∃p,p<:+q/\Y3 p x us)
 |[],us,q,R,x,h,_,_,_=>by rw[run]at h;subst h;exact .inl rfl
 |t::ts,us,q,R,x,h,hl,hx,ht=>by
  obtain⟨c,r,h1,h2,h3⟩:=h;have h4:(ZC (c::r)).2≠[]:=by intro e;have:=(jv h3).length_le;rw[e]at this;exact hl (Xf.1 (by simpa using this))
  have hc:cmtS (q++x)=c::(r++x):=by rw[aP (by rw[h1];exact JQ h4),h1];rfl
  rw[Qy hc,Sa]at ht;injection ht with ht1 ht2;rcases zBA h4 hx (by rw[ht1,h2])with h5|h5
  ·rw[h5]at ht2;rcases eQ h3 hl hx ht2 with h6|⟨h6,p,hp,h7⟩
   ·exact .inl ⟨c,r++x,hc,ht1,by rw[h5];exact h6⟩
   ·refine .inr ⟨h6,p,hp.trans ((Gm c r).trans ((Oe c r).trans ?_)),h7⟩;rw[<-h1];exact Tn q
  ·right;have h43:=h5.2.1;have hR:R=[43]/\ts=[]:=by
    cases ts with
    |nil=>rw[run,h43]at h3;grind
    |cons u us'=> exfalso;rw[h43]at h3;obtain⟨c',r',e1,e2,e3⟩:=h3;rw[show cmtS [43]=[43]from ZR rfl]at e1;injection e1 with e4 e5;subst e4 e5;have:=(jv e3).length_le;have h9:=(Gm (43:UInt8) []).length_le;simp_all
   obtain⟨hR,rfl⟩:=hR;refine⟨hR,q,Jf _,c,r,h1,h5,by rw[ht1,h2],?_⟩;rw[ht2];rfl
end Go.Lv.VT
