/- Tokens that can be written: the program's check. -/
import Derived.Test.YtnfhfeipljhciaaGreatDoorLaw
set_option linter.unusedSimpArgs false
set_option linter.unusedVariables false
namespace Go.Lv.VT
theorem zB5(g d:Bool)(b c:UInt8):(bif g then namN (bif g then b else c).toNat else d)=bif g then namN b.toNat else d:=by cases g<;>rfl
theorem ER{x:zb}(h1:x.text.length<=big)(h2:x.unit.length<=big):Pp x=some (Cg x):=by
 unfold Pp;rw[zk (zZ.2 (by unfold big at h1 h2;omega))];simp only[ze,Wy,Aa];have hn:decide (Lib.indexByte (x.text++x.unit) (0:Int).toNat.toUInt8<0)=(Zq x.text&&Zq x.unit):=by rw[zAG,bL,C8,Bool.not_not]
 simp only[hn,XT,Du,Q3,Aa,ge_iff_le,bne];have hb:=iV x.text;unfold Cg rngS;by_cases k9:x.kind=9
 ·simp only[k9,Int.reduceBEq,Fa,Ba,zg,Jf,jc];cases ht:x.text with
  |nil=>
   have:Zq ([]:Str)=true:=rfl;simp only[this,Lb];cases Zq x.unit<;>rfl
  |cons b r=>
   cases r with
   |nil=>
    have hd:=VX b;have e1:((([b]:Str).length:Int)==1)=true:=rfl;have e2:geti [b] 0=some b:=rfl;have e3:(([b]:Str)==[45])=(b==45):=by show((b==45)&&true)=_;rw[Cc]
    have e4:Zq [b]= !(b==0):=by show((!(b==0))&&true)=_;rw[Cc]
    have e5:delS [b]=xh b.toNat:=rfl;simp only[e1,e2,e3,e4,e5,l9,pR,Q3,Aa,zB5,<-hd];cases hu:x.unit with
    |nil=>
     have:Zq ([]:Str)=true:=rfl;simp only[this,Cc];generalize (Er.any fun c=>c==b)=a1;cases namN b.toNat<;>cases (b==0)<;>cases (b==45)<;>cases a1<;>cases (x.num==0)<;>cases x.flag<;>rfl
    |cons c s=> have:((c::s:Str)==[])=false:=rfl;simp only[this];generalize Zq (c::s)=a2;generalize (Er.any fun c=>c==b)=a1;cases a2<;>cases namN b.toNat<;>cases (b==0)<;>cases (b==45)<;>cases a1<;>cases (x.num==0)<;>cases x.flag<;>rfl
   |cons c r=>
    have e1:(((b::c::r:Str).length:Int)==1)=false:=Ia.2 (by simp only[Ga];omega);have e3:((b::c::r:Str)==[45])=false:=by show((b==45)&&false)=_;rw[Xd]
    have e5:delS (b::c::r)=false:=rfl;simp only[e1,e3,e5];cases (Zq (b::c::r)&&Zq x.unit)<;>rfl
 have b9:=Ia.2 k9;have hu:(x.unit==[])=true->Zq x.unit=true:=fun h=>by rw[ma]at h;rw[h];rfl
 have htx:(x.text==[])=true->Zq x.text=true:=fun h=>by rw[ma]at h;rw[h];rfl
 rw[<-hb];generalize hl45:(x.text==[45])=a11 at*;generalize (List.isPrefixOf [45,45] x.text)=a12 at*;generalize numS x.text=a3 at*;generalize Zq x.text=a1 at*;generalize Zq x.unit=a2 at*;generalize (x.text==[])=a4 at*;generalize (x.unit==[])=a5 at*;generalize (x.num==0)=a6 at*;generalize x.flag=a7 at*;generalize decide (-1000000000000<=x.num)=a8 at*;generalize decide (x.num<=1000000000000)=a9 at*;generalize (Int.tmod x.num 1000==0)=a10 at*;clear hb hn hl45;have K: ∀k:Int,k∈[1,2,3,4,5,7,10,11,12]->x.kind=k->True:=fun _ _ _=>trivial;clear K;by_cases k1:x.kind=1
 ·simp only[k1,zg,Fa,Ba,Int.reduceBEq];cases a1<;>cases a2<;>cases a4<;>cases a5<;>cases a6<;>cases a7<;>first|rfl|(simp at hu htx;done)|simp_all
 by_cases k2:x.kind=2
 ·simp only[k2,zg,Fa,Ba,Int.reduceBEq];cases a1<;>cases a2<;>cases a4<;>cases a5<;>cases a6<;>cases a7<;>first|rfl|(simp at hu htx;done)|simp_all
 by_cases k3:x.kind=3
 ·simp only[k3,zg,Fa,Ba,Int.reduceBEq];cases a1<;>cases a2<;>cases a4<;>cases a5<;>cases a6<;>cases a7<;>first|rfl|(simp at hu htx;done)|simp_all
 by_cases k4:x.kind=4
 ·simp only[k4,zg,Fa,Ba,Int.reduceBEq];cases a1<;>cases a2<;>cases a3<;>cases a4<;>cases a5<;>cases a6<;>cases a7<;>cases a11<;>cases a12<;>first|rfl|(simp at hu htx;done)|simp_all
 by_cases k5:x.kind=5
 ·simp only[k5,zg,Fa,Ba,Int.reduceBEq];cases a1<;>cases a2<;>cases a5<;>cases a6<;>cases a7<;>first|rfl|(simp at hu htx;done)|simp_all
 by_cases k7:x.kind=7
 ·simp only[k7,zg,Fa,Ba,Int.reduceBEq];cases a1<;>cases a2<;>cases a5<;>cases a6<;>cases a7<;>first|rfl|(simp at hu htx;done)|simp_all
 by_cases k10:x.kind=10
 ·simp only[k10,zg,Fa,Ba,Int.reduceBEq];cases a1<;>cases a2<;>cases a4<;>cases a5<;>cases a7<;>cases a8<;>cases a9<;>cases a10<;>first|rfl|(simp at hu htx;done)|simp_all
 by_cases k11:x.kind=11
 ·simp only[k11,zg,Fa,Ba,Int.reduceBEq];cases a1<;>cases a2<;>cases a4<;>cases a5<;>cases a7<;>cases a8<;>cases a9<;>cases a10<;>first|rfl|(simp at hu htx;done)|simp_all
 by_cases k12:x.kind=12
 ·simp only[k12,zg,Fa,Ba,Int.reduceBEq];cases a1<;>cases a2<;>cases a4<;>cases a5<;>cases a7<;>cases a8<;>cases a9<;>cases a10<;>first|rfl|(simp at hu htx;done)|simp_all
 simp only[b9,Ia.2 k1,Ia.2 k2,Ia.2 k3,Ia.2 k4,Ia.2 k5,Ia.2 k7,Ia.2 k10,Ia.2 k11,Ia.2 k12,zg,Fa,Ba,yg];cases decide (13<=x.kind)<;>cases decide (x.kind<=24)<;>cases a4<;>cases a5<;>cases a6<;>cases a7<;>rfl
theorem bQ {R:Type} {step:Int->Option (LO Int Unit R)} {k:Unit->Option R} (n:Nat) (p:Nat->Bool) (r:R)
  (hg: ∀(i:Nat),i<n->step (i:Int)=some (bif p i then .again ((i+1:Nat):Int)else .ret r)) (hf:step (n:Int)=some (.out ())):
  Zp step 0 k=bif (List.range n).all p then k ()else some r:=by
 have e:=JQ (k:=k) (List.range n) (fun i=>bif p i then none else some r) () (fun i hi=> ?_) (by simpa using hf)
 ·rw[e,yF];cases (List.range n).all p<;>rfl
 ·have hi':i<n:=by simpa using hi
  rw[hg i hi'];simp only[List.getElem_range];cases p i<;>rfl
def ik:List zb->Bool
 |[]=>false
 |s::r=>bif s.kind==13 then(match r with|u::_=>u.kind==5|[]=>false)else s.kind==5
def Ph:List zb->Bool
 |[]=>false
 |s::_=>s.kind==13
def ag(t:zb):Bool:=t.kind==2&&lowS t.text==[117,114,108]
def okAt:List zb->Bool
 |[]=>true
 |t::r=>(!(t.kind==9&&t.text==[92])||Ph r)&&(!(ag t)||ik r)
def xk(l:List zb)(i:Nat):Bool:=Cg (l.getD i default)&&okAt (l.drop i)
def gluS(l:List zb):Int:=bif decide (l.length<=1500)then(bif (List.range l.length).all (xk l)then 0 else 8)else 4
theorem jr(l:List zb)(i:Nat)(k:Int):ZT (((i:Int),k),l)=some (match l[i]? with|some t=>t.kind==k|none=>false):=by
 unfold ZT;by_cases h:i<l.length
 ·simp only[Po h,zG,QJ h,ze,Aa,Fa,Na h]
 ·have e:decide ((i:Int)<(l.length:Int))=false:=Ra (by omega);simp only[e,zN,ze,Aa,Ba,Sg (Nat.le_of_not_lt h)]
theorem Ls:lowS [117,114,108]=[117,114,108]:=by decide
theorem U8{t:zb}{r:List zb}(h:t.text.length<=big): ∃n:Int,QH (t::r)=some n/\(n==0)= !okAt (t::r):=by
 have e0:geti (t::r) 0=some t:=rfl;have p1:=jr (t::r) 1 13;have p15:=jr (t::r) 1 5;have p25:=jr (t::r) 2 5;unfold QH;simp only[e0,ze,Aa,fH h (show([117,114,108]:Str).length<=big by decide),Ls,Q3];simp only[Int.natCast_one]at p1 p15;replace p25:ZT ((2,5),t::r)=_:=p25;rw[p1];unfold okAt ag;cases hd:(t.kind==9&&t.text==[92])with
 |true=>
  have hk:t.kind=9:=by rw[Da,ma]at hd;exact hd.1
  have ht:(t.text==[92])=true:=by rw[Da]at hd;exact hd.2
  simp only[hk,ht,Int.reduceBEq,Fa,Ba,Aa];cases r with
  |nil=>exact⟨_,rfl,rfl⟩
  |cons s r=>
   show∃n:Int,(bif !(s.kind==13)then some 0 else some 2)=some n/\(n==0)= !((!true||s.kind==13)&&_);cases s.kind==13
   ·exact⟨0,rfl,rfl⟩
   ·exact⟨2,rfl,rfl⟩
 |false=>
  have hc:(bif t.kind==9 then t.text==[92]else false)=false:=by
   cases h9:t.kind==9
   ·rfl
   ·rw[h9]at hd;exact hd
  simp only[hc,hd,Ba,Eb,Pe,Lb];cases hu:(t.kind==2&&lowS t.text==[117,114,108])with
  |false=>
   have:(bif t.kind==2 then bif t.kind==2 then lowS t.text==[117,114,108]else default else false)=false:=by
    cases h2:t.kind==2
    ·rfl
    ·rw[h2]at hu;exact hu
   rw[this];exact⟨1,rfl,rfl⟩
  |true=>
   rw[Da]at hu;rw[hu.1,hu.2];simp only[Fa,Aa];cases r with
   |nil=>exact⟨0,by simp[p15],rfl⟩
   |cons s r=>
    cases hs:s.kind==13 with
    |false=>
     have e1:(match(t::s::r)[1]? with|some t=>t.kind==13|none=>false)=false:=hs;have e5:ZT ((1,5),t::s::r)=some (s.kind==5):=p15;simp only[e1,Ba,zg,e5,Aa,ik,hs];cases s.kind==5
     ·exact⟨0,rfl,rfl⟩
     ·exact⟨2,by rfl,rfl⟩
    |true=>
     have e1:(match(t::s::r)[1]? with|some t=>t.kind==13|none=>false)=true:=hs;simp only[e1,Fa,zg,p25,Aa,ik,hs];cases r with
     |nil=>exact⟨0,rfl,rfl⟩
     |cons u r=>
      show∃n:Int,(bif !(u.kind==5)then some 0 else some (w64 (2+1)))=some n/\(n==0)= !(!true||u.kind==5);cases u.kind==5
      ·exact⟨0,rfl,rfl⟩
      ·exact⟨3,rfl,rfl⟩
theorem NQ(l:List zb):decide ((l.length:Int)>1500)= !decide (l.length<=1500):=zBY _ 1500
theorem aS{l:List zb}(h: ∀t∈l,t.text.length<=big/\t.unit.length<=big):Yp l=some (gluS l):=by
 unfold Yp gluS;rw[NQ];cases hl:decide (l.length<=1500)with
 |false=>rfl
 |true=>
  have hl:=Bc hl;simp only[Nb,Ba,Fa];refine(bQ l.length (xk l) 8 (fun i hi=> ?_) ?_).trans ?_
  ·obtain⟨g1,g2⟩:=h _ (Cf hi);have hgd:l.getD i default=l[i]:=by simp[hi]
   have hdr:=Pb hi;obtain⟨n,e1,e2⟩:=U8 (t:=l[i]) (r:=l.drop (i+1)) g1;rw[<-hdr]at e1 e2;have e3:decide ((i:Int)<=(l.length:Int))=true:=Ea (by omega);unfold xk;simp only[Po hi,Fa,QJ hi,ze,Aa,ER g1 g2,Ev,e3,Lb,Pe,Zf,Ta,e1,Q3,jm hi (show l.length<=big by unfold big;omega),hgd];cases Cg l[i]with
   |false=>rfl
   |true=> simp only[Nb,Eb,Fa,Ba,e2,Lb];cases okAt (l.drop i)<;>rfl
  ·simp only[Jw,Ba]
  ·cases (List.range l.length).all (xk l)<;>rfl
theorem FH{α:Type}{l:List α}{i:Nat}{s:α}{r:List α}(h:l.drop i=s::r):i<l.length/\geti l (i:Int)=some s/\l.drop (i+1)=r:=by
 have hi:i<l.length:=by
  rcases Mc i l.length with h'|h'
  ·exact h'
  ·rw[De h']at h;cases h
 rw[Pb hi]at h;injection h with h1 h2;exact⟨hi,by rw[QJ hi,h1],h2⟩
theorem EH{α:Type}{l:List α}{i:Nat}(h:l.drop i=[])(hi:i<=l.length):i=l.length:=by have:=Ue.1 h;omega
theorem DV{l:List zb}{i:Nat}(hi:i<l.length)(hl:l.length<=1500):
  zV (X:=Int) (R:=LX Unit (LO Int Unit Int)) (ze (zq (decide (((i+1:Nat):Int)<(l.length:Int))) (geti l ((i+1:Nat):Int)) (default:zb)) fun y7=>bif bif decide (((i+1:Nat):Int)<(l.length:Int))then y7.kind==13 else false then some (LX.out (w64 (((i+1:Nat):Int)+1)))else some (LX.out ((i+1:Nat):Int)))
   (fun j8=>ze (zq (!(decide (j8>=(l.length:Int)))) (geti l j8) (default:zb)) fun y9=>bif bif decide (j8>=(l.length:Int))then true else y9.kind != 5 then some (LX.ret (LO.ret 8))else some (LX.out ()))=bif ik (l.drop (i+1))then some (LX.out ())else some (LX.ret (LO.ret 8)):=by
 cases hr:l.drop (i+1)with
 |nil=> have he:=EH hr (by omega);have e1:decide (((i+1:Nat):Int)<(l.length:Int))=false:=Ra (by omega);have e2:decide (((i+1:Nat):Int)>=(l.length:Int))=true:=Ea (by omega);simp only[e1,e2,zN,ze,Aa,Ba,Fa,zg,Nb,ik]
 |cons s r=>
  obtain⟨h1,h2,h3⟩:=FH hr;have e2:decide (((i+1:Nat):Int)>=(l.length:Int))=false:=Ra (by omega);have hw:w64 (((i+1:Nat):Int)+1)=((i+1+1:Nat):Int):=jm h1 (by unfold big;omega);simp only[Po h1,zG,h2,ze,Aa,Fa,hw,ik];cases hs:s.kind==13 with
  |false=>
   simp only[Ba,zg,e2,Eb,zG,h2,Aa,bne];cases s.kind==5<;>rfl
  |true=>
   simp only[Fa,zg];cases r with
   |nil=> have he:=EH h3 (by omega);have e3:decide (((i+1+1:Nat):Int)>=(l.length:Int))=true:=Ea (by omega);simp only[e3,Nb,zN,Aa,Fa,Ba]
   |cons u r=> obtain⟨g1,g2,g3⟩:=FH h3;have e3:decide (((i+1+1:Nat):Int)>=(l.length:Int))=false:=Ra (by omega);simp only[e3,Eb,zG,g2,Aa,Ba,bne];cases u.kind==5<;>rfl
theorem UX{l:List zb}{i:Nat}(hi:i<l.length)(d:Bool)(A B:Option (LO Int Unit Int)):
  (ze (zq (!(((i+1:Nat):Int)==(l.length:Int))&&d) (geti l ((i+1:Nat):Int)) (default:zb)) fun y13=>bif bif d then bif ((i+1:Nat):Int)==(l.length:Int)then true else y13.kind != 13 else false then A else B)=bif !d||Ph (l.drop (i+1))then B else A:=by
 cases d with
 |false=>simp only[Xd,zN,ze,Aa,Ba,Eb,Pe,Fa]
 |true=>
  cases hr:l.drop (i+1)with
  |nil=> have he:=EH hr (by omega);have e1:(((i+1:Nat):Int)==(l.length:Int))=true:=ma.2 (by omega);simp only[e1,Nb,Ic,zN,ze,Aa,Fa,Ph,yg,Ba]
  |cons s r=> obtain⟨h1,h2,h3⟩:=FH hr;have e1:(((i+1:Nat):Int)==(l.length:Int))=false:=Ia.2 (by omega);simp only[e1,Eb,Lb,zG,h2,ze,Aa,Fa,Ph,Ba,Nb,jc,bne];cases s.kind==13<;>rfl
theorem dV(b:Bool)(t u:zb)(p:zb->Bool):(bif b then p (bif b then t else u)else false)=(b&&p t):=by cases b<;>rfl
theorem wR(hD:BB){l:List zb}(h: ∀t∈l,t.text.length<=big/\t.unit.length<=big):Fq l=some (gluS l):=by
 unfold Fq gluS;rw[NQ];cases hl:decide (l.length<=1500)with
 |false=>rfl
 |true=>
  have hl:=Bc hl;simp only[Nb,Ba,Fa];refine(bQ l.length (xk l) 8 (fun i hi=> ?_) ?_).trans ?_
  ·obtain⟨g1,g2⟩:=h _ (Cf hi);have hgd:l.getD i default=l[i]:=by simp[hi]
   have hdr:=Pb hi;have hw:w64 ((i:Int)+1)=((i+1:Nat):Int):=jm hi (by unfold big;omega);have hw2:w64 (((i+1:Nat):Int)+1)=((i+2:Nat):Int):=jm (n:=i+2) (by omega) (by unfold big;omega);unfold xk;rw[hdr,hgd];simp only[Po hi,Fa,QJ hi,ze,Aa,XR hD g1 g2,hw];cases hf:Cg l[i]with
   |false=>rfl
   |true=>
    simp only[Nb,Ba,Q3,Aa,Lb];have hu:=DV hi hl;have hd:=UX hi (l[i].kind==9&&l[i].text==[92]) (some (LO.ret 8)) (some (LO.again ((i+1:Nat):Int)));simp only[ze]at hu hd;have hlow:(bif l[i].kind==2 then bif l[i].kind==2 then lowS (bif l[i].kind==2 then l[i]else default).text==[117,114,108]else default else false)=ag l[i]:=by unfold ag;cases l[i].kind==2<;>rfl
    have ha:(zq (l[i].kind==2) (qI ((bif l[i].kind==2 then l[i]else default).text,[117,114,108])) (default:Bool))=some (bif l[i].kind==2 then lowS (bif l[i].kind==2 then l[i]else default).text==[117,114,108]else default):=by
     cases h2:l[i].kind==2 with
     |false=>rfl
     |true=> show qI (l[i].text,[117,114,108])=some (lowS l[i].text==[117,114,108]);rw[mG g1 (by decide),Ls]
    have hdl:(bif l[i].kind==9 then(bif l[i].kind==9 then l[i]else default).text==[92]else false)=(l[i].kind==9&&l[i].text==[92]):=dV (l[i].kind==9) l[i] default fun t=>t.text==[92];simp only[ha,Aa,hlow,hdl,hu,okAt];cases ag l[i]with
    |false=>
     simp only[Ba,zg,Eb,Pe,Cc];refine hd.trans ?_;cases (!(l[i].kind==9&&l[i].text==[92])||Ph (l.drop (i+1)))<;>rfl
    |true=>
     simp only[Fa,Nb,jc];cases ik (l.drop (i+1))with
     |false=>simp only[Ba,zpz,Xd]
     |true=> simp only[Fa,zg,Cc];refine hd.trans ?_;cases (!(l[i].kind==9&&l[i].text==[92])||Ph (l.drop (i+1)))<;>rfl
  ·simp only[Jw,Ba]
  ·cases (List.range l.length).all (xk l)<;>rfl
set_option maxRecDepth 100000
def partT(r:Nat)(p:Bool):Str:=bif (Fh r).isEmpty then(bif p then [48]else [])else Fh r
theorem jo{r:Nat}(h:r<1000)(p:Bool):(partT r p).all digB=true/\(partT r p).length<=3/\valG 0 (partT r p)*10 ^ (3 - (partT r p).length)=r/\Ej r p=(bif (partT r p).isEmpty then []else 46::partT r p)/\((partT r p).isEmpty=((r==0)&& !p)):=by
 have hf:=uw r h;simp only[jq,Da,ib,ma]at hf;obtain⟨⟨⟨⟨a,b⟩,c⟩,d⟩,e⟩:=hf;unfold partT Ej;cases hE:(Fh r).isEmpty with
 |true=>
  have hr:r=0:=by rw[hE]at d;exact ma.1 d.symm
  subst hr;cases p<;>refine⟨by decide,by decide,by decide,rfl,rfl⟩
 |false=> rw[hE]at d;simp only[Ba];exact⟨a,b,c,by rw[hE,Ba],by rw[hE,<-d];rfl⟩
theorem wL{l:Str}(h:(l.all fun b=>digB b||b==46)=true):Ih l=true:=by
 unfold Ih;rw[Xa]at h ⊢;intro b hb;have:=h b hb;refine Ea ?_;rw[Tc]at this;rcases this with h1|h1
 ·have:=Vp h1;omega
 ·rw[ma.1 h1];decide
theorem vL{m:Nat}(p:Bool):((Kg m p).all fun b=>digB b||b==46)=true:=by
 obtain⟨h1,_,_⟩:=Ns (m / 1000);obtain⟨h2,_,_,h5,_⟩:=jo (r:=m%1000) (by omega) p;have hw: ∀l:Str,l.all digB=true->(l.all fun b=>digB b||b==46)=true:=by intro l hl;rw[Xa]at hl ⊢;intro b hb;rw[hl b hb];rfl
 unfold Kg;rw[Gf,hw _ h1,h5,Lb];cases (partT (m%1000) p).isEmpty with
 |true=>rfl
 |false=>rw[Ba,ic,hw _ h2];rfl
theorem ww(u:Nat): ∃c r,Lib.decDigits u=c::r/\digB c=true:=by
 obtain⟨h1,_,h3⟩:=Ns u;cases h:Lib.decDigits u with
 |nil=>exact absurd h h3
 |cons c r=>rw[h,ic,Da]at h1;exact⟨c,r,rfl,h1.1⟩
theorem Qf{c:UInt8}(h:digB c=true):c≠45/\c≠43/\c≠46/\c≠0/\List.contains [43,45] c=false:=by
 have: ∀n:Nat,n<256->digB (UInt8.ofNat n)=true->UInt8.ofNat n≠45/\UInt8.ofNat n≠43/\UInt8.ofNat n≠46/\UInt8.ofNat n≠0/\List.contains [43,45] (UInt8.ofNat n)=false:=by decide+kernel
 have:=this c.toNat (Ib c);rw[Sb]at this;exact this h
theorem bX{m:Nat}(p:Bool): ∃f,Lib.cut (Kg m p) [46]=(Lib.decDigits (m / 1000),partT (m%1000) p,f):=by
 obtain⟨h1,_,_⟩:=Ns (m / 1000);obtain⟨_,_,_,h5,_⟩:=jo (r:=m%1000) (by omega) p;unfold Kg Lib.cut;rw[YC,h5];cases hp:(partT (m%1000) p).isEmpty with
 |true=> rw[Fa,Ya,jE _ h1,Ja (by decide)];exact⟨false,by rw[List.isEmpty_iff.1 hp]⟩
 |false=>
  rw[Ba,kE _ _ h1,Ka (by omega)];refine⟨true,?_⟩;rw[Ta,df,Ua,show(Lib.decDigits (m / 1000)).length+1=(Lib.decDigits (m / 1000)++[46]).length by simp];have:Lib.decDigits (m / 1000)++46::partT (m%1000) p=(Lib.decDigits (m / 1000)++[46])++partT (m%1000) p:=by simp
  rw[this,Jg]
theorem O9{n:Int}(h1: -1000000000000<=n)(h2:n<=1000000000000)(p:Bool):Z0 (numT n p)=some n:=by
 obtain⟨m,hm⟩: ∃m:Nat,n.natAbs=m:=⟨_,rfl⟩;have hmle:m<=1000000000000:=by omega
 obtain⟨c,r,hc,hcd⟩:=ww (m / 1000);obtain⟨nc45,nc43,_,_,ncc⟩:=Qf hcd;have hbody:Kg m p=c::(r++Ej (m%1000) p):=by unfold Kg;rw[hc];rfl
 have hlen:=kw hmle p;obtain⟨f,hcut⟩:=bX (m:=m) p;obtain⟨d1,d2,d3⟩:=Ns (m / 1000);obtain⟨p1,p2,p3,p4,p5⟩:=jo (r:=m%1000) (by omega) p;have hdl:=Lt (u:=m / 1000) (by omega);have hsh:short (Kg m p)=true:=Ea (by omega);have hdrop:Lib.trimLeftS (Kg m p) [43,45]=Kg m p:=by rw[hbody];unfold Lib.trimLeftS;rw[Lf,ncc];rfl
 have hT:Lib.trimLeftS (numT n p) [43,45]=Kg m p:=by
  unfold numT;rw[hm];by_cases hn:n<0
  ·rw[Ka hn];show List.dropWhile _ (45::Kg m p)=_;rw[Lf];exact hdrop
  ·rw[Ja hn];exact hdrop
 have h0: ∃b,geti (numT n p) 0=some b/\(((b.toNat:Int)==45)=decide (n<0)):=by
  unfold numT;rw[hm];by_cases hn:n<0
  ·rw[Ka hn,Ea hn];exact⟨45,rfl,rfl⟩
  ·rw[Ja hn,Ra hn];refine⟨c,by rw[hbody];rfl,Ia.2 (fun e=>nc45 ?_)⟩;exact Bf.1 (by show c.toNat=45;omega)
 obtain⟨b,hb1,hb2⟩:=h0;unfold Z0;simp only[ze,hb1,Aa];have t1:Oj (numT n p,[43,45])=some (Kg m p):=by unfold Oj;rw[zk (show(short ([43,45]:Str)&&Ih [43,45])=true by decide)];exact congrArg some hT
 have t2:QS (Kg m p,[101,69])=some (-1):=by unfold QS;rw[zk (by simp only[hsh,wL (vL p),Cc,Lb];decide)];exact congrArg some (VF _ (vL p))
 have t3:cutF (Kg m p,[46])=some (Lib.decDigits (m / 1000),partT (m%1000) p,f):=by unfold cutF;rw[zk (by exact hsh)];exact congrArg some hcut
 simp only[t1,t2,Aa,show decide ((-1:Int)>=0)=false from rfl,Ba,zg,t3];rw[zk (zZ.2 (by omega))];have hw:w64 (3 - ((partT (m%1000) p).length:Int))=((3 - (partT (m%1000) p).length:Nat):Int):=by rw[zz (by omega) (by omega)];omega
 rw[hw,Ra (by omega),Ba,zg];simp only;have hml:maxLen=9223372036854775807:=rfl;rw[zk (Ea (by rw[Ca,hml];omega))];have hval:valG 0 (Lib.decDigits (m / 1000)++partT (m%1000) p)*10 ^ (3 - (partT (m%1000) p).length)=m:=by rw[CB,d2,jv,Vd,p3,Bg,<-Nat.pow_add,show(partT (m%1000) p).length+(3 - (partT (m%1000) p).length)=3 by omega];omega
 have hvle:valG 0 (Lib.decDigits (m / 1000)++partT (m%1000) p)<=1000000000000:=by have:=Ie (valG 0 (Lib.decDigits (m / 1000)++partT (m%1000) p)) (Dg (n:=3 - (partT (m%1000) p).length) (show 0<10 by omega));omega
 rw[zW (oW (l:=Lib.decDigits (m / 1000)++partT (m%1000) p) (by rw[Gf,d1,p1];rfl) (by rw[Ca];omega) hvle (fun v i hi=> ?_) (fun v=> ?_))]
 ·rw[zW (PZ (by omega) (by rw[hval];exact hmle) (fun a b=> ?_)),hval]
  ·rw[hb2];by_cases hn:n<0
   ·rw[Ea hn,Fa,zg,zz (by omega) (by omega)];congr 1;omega
   ·rw[Ra hn,Ba,zg];congr 1;omega
  ·simp only
 ·have e1:decide ((i:Int)<((Lib.decDigits (m / 1000)++partT (m%1000) p).length:Int))=true:=Ea (by omega);have e0:decide ((0:Int)<=(i:Int))=true:=Ea (by omega);simp only[e1,e0,Fa,Cc,Zf,Ta,Na hi,Aa]
 ·simp only;rw[Ra (by omega),Ba]
theorem OV(n:Int)(p:Bool):(n<0/\numT n p=45::Kg n.natAbs p)\/(¬n<0/\numT n p=Kg n.natAbs p):=by
 unfold numT;by_cases h:n<0
 ·exact .inl ⟨h,by rw[Ka h];rfl⟩
 ·exact .inr ⟨h,by rw[Ja h];rfl⟩
theorem mZ(m:Nat)(p:Bool): ∃c r,Kg m p=c::r/\digB c=true:=by obtain⟨c,r,h,hd⟩:=ww (m / 1000);exact⟨c,r++Ej (m%1000) p,by unfold Kg;rw[h];rfl,hd⟩
theorem Om{n:Int}(h1: -1000000000000<=n)(h2:n<=1000000000000)(p:Bool):(numT n p).length<=25/\1<=(numT n p).length:=by
 have:=kw (m:=n.natAbs) (by omega) p;obtain⟨c,r,hb,_⟩:=mZ n.natAbs p;rcases OV n p with⟨_,h⟩|⟨_,h⟩
 ·rw[h,Ga];omega
 ·rw[h];refine⟨by omega,?_⟩;rw[hb,Ga];omega
theorem Zr{n:Nat}(h:n<256):ZK ((n:Nat):Int)=some (UInt8.ofNat n):=by unfold ZK;rw[Ea (by omega:(0:Int)<=(n:Int)),Ea (by omega:(n:Int)<=255)];rfl
theorem yE(n k:Nat)(hk:k<=32):Oh .i32 (n:Int) (k:Int)=((n / 2 ^ k:Nat):Int):=by unfold Oh;rw[show(min ((k:Int).toNat) IntKind.i32.bits)=k by show min k 32=k;omega];rw[Int.fdiv_eq_ediv_of_nonneg _ (Int.le_of_lt (Int.pow_pos (by decide)))];rw[Int.natCast_ediv,Int.natCast_pow];rfl
theorem shr6(n:Nat):Oh .i32 (n:Int) 6=((n / 64:Nat):Int):=yE n 6 (by omega)
theorem fU(n:Nat):Oh .i32 (n:Int) 12=((n / 4096:Nat):Int):=yE n 12 (by omega)
theorem eU(n:Nat):Oh .i32 (n:Int) 18=((n / 262144:Nat):Int):=yE n 18 (by omega)
theorem zCO(n:Int):IntKind.u8.wrap n=n%256:=by simp[IntKind.wrap,IntKind.bits,IntKind.signed]
theorem zBu(n:Int):IntKind.u32.wrap n=n%4294967296:=by simp[IntKind.wrap,IntKind.bits,IntKind.signed]
theorem Sm{n:Nat}(h:n<2147483648):w32 (n:Int)=(n:Int):=by show IntKind.i32.wrap _=_;simp only[IntKind.wrap,IntKind.bits,IntKind.signed];simp;omega
theorem xL{n:Nat}(h:n<2147483648):wu32 (n:Int)=(n:Int):=by show IntKind.u32.wrap _=_;rw[zBu];omega
theorem Mr(n:Nat):wu8 (n:Int)=((n%256:Nat):Int):=by show IntKind.u8.wrap (n:Int)=_;rw[zCO];omega
theorem GN(n:Nat):ibOr .u8 128 (Gi .u8 (wu8 (n:Int)) 63)=((128+n%64:Nat):Int):=by
 have: ∀m:Nat,m<256->ibOr .u8 128 (Gi .u8 ((m:Nat):Int) 63)=((128+m%64:Nat):Int):=by decide+kernel
 rw[Mr,this _ (Nat.mod_lt _ (by omega)),show n%256%64=n%64 by omega]
theorem YU{n:Nat}(h:n<32):ibOr .u8 192 (wu8 (n:Int))=((192+n:Nat):Int):=by
 have: ∀m:Nat,m<32->ibOr .u8 192 (wu8 ((m:Nat):Int))=((192+m:Nat):Int):=by decide+kernel
 exact this n h
theorem Kz{n:Nat}(h:n<16):ibOr .u8 224 (wu8 (n:Int))=((224+n:Nat):Int):=by
 have: ∀m:Nat,m<16->ibOr .u8 224 (wu8 ((m:Nat):Int))=((224+m:Nat):Int):=by decide+kernel
 exact this n h
theorem XU{n:Nat}(h:n<8):ibOr .u8 240 (wu8 (n:Int))=((240+n:Nat):Int):=by
 have: ∀m:Nat,m<8->ibOr .u8 240 (wu8 ((m:Nat):Int))=((240+m:Nat):Int):=by decide+kernel
 exact this n h
theorem vg{n m:Nat}(h:n+m<=2000000000):zP n m 1=true:=by unfold zP;exact Ea (by omega)
theorem iU{n:Nat}(h0:n≠0)(h:n<16777216){l:Str}(hl:l.length<=1000000000):Z5 (w32 (n:Int),l)=some (l++jg n):=by
 have a1:zP l.length 1 1=true:=vg (by omega);have a2:zP l.length 2 1=true:=vg (by omega);have a3:zP l.length 3 1=true:=vg (by omega);have a4:zP l.length 4 1=true:=vg (by omega);have a80:(128+n%64)<256:=by omega
 have m80:(128+n / 64%64)<256:=by omega
 have k80:(128+n / 4096%64)<256:=by omega
 unfold Z5 qa jg;simp only[Sm (show n<2147483648 by omega),xL (show n<2147483648 by omega),ze,shr6,fU,eU,GN,Zr a80,Zr m80,Zr k80,Aa];by_cases h1:n<128
 ·rw[Ea (by omega),Fa,Mr,Zr (by omega),Aa,zk a1,Ja (by omega),Ka h1,Nf (by omega)]
 ·rw[Ra (by omega),Ba];by_cases h2:n<2048
  ·rw[Ea (by omega),Fa,YU (by omega),Zr (by omega)];simp only[Aa];rw[zk a2,Ja (by omega),Ja (by omega),Ka h2];rfl
  ·rw[Ra (by omega),Ba];by_cases h3:n<55296
   ·rw[Ea (by omega),Fa,zg];simp only[Fa];rw[Kz (by omega),Zr (by omega)];simp only[Aa];rw[zk a3,Ja (by omega),Ja (by omega),Ja (by omega),Ka (by omega)];rfl
   ·rw[Ra (by omega),Ba,zg];simp only[vJ];by_cases h4:57343<n/\n<65536
    ·rw[Ea (by omega),Ea (by omega),Cc,Fa,Kz (by omega),Zr (by omega)];simp only[Aa];rw[zk a3,Ja (by omega),Ja (by omega),Ja (by omega),Ka (by omega)];rfl
    ·rw[show(decide ((57343:Int)<(n:Int))&&decide ((n:Int)<=65535))=false by rw[Yf];simp only[Mf];omega,Ba];by_cases h5:65535<n/\n<=1114111
     ·rw[Ea (by omega),Ea (by omega),Cc,Fa,XU (by omega),Zr (by omega)];simp only[Aa];rw[zk a4,Ja (by omega),Ja (by omega),Ja (by omega),Ja (by omega)];rfl
     ·rw[show(decide ((n:Int)>65535)&&decide ((n:Int)<=1114111))=false by rw[Yf];simp only[Mf];omega,Ba,zk a3,Ka (by omega)];rfl
theorem jN{l:Str}(hl:l.length<=1000000000):Z5 (65533,l)=some (l++Ck):=by have h:=iU (n:=65533) (by omega) (by omega) hl;rw[Sm (by omega)]at h;exact h
theorem zU{s:Str}{c:UInt8}{l:Str}(h:c::l<:+s):l<:+s:=(Td c l).trans h
theorem Vh{s:Str}{c:UInt8}{l:Str}(hs:s.length<=big)(h:c::l<:+s):w64 ((beh s (c::l):Int)+1)=(beh s l:Int):=by
 have hb:big=4194304:=rfl;have h1:=h.length_le;rw[Ga]at h1;have e:beh s (c::l)+1=beh s l:=by unfold beh;rw[Ga];omega
 have:=Uh s l;rw[zz (by omega) (by omega)];omega
theorem Yo(c:UInt8)(l:Str):pk (c::l) 0=(c.toNat:Int):=rfl
theorem jw(c:UInt8):ZK (wu8 ((c.toNat:Nat):Int))=some c:=by rw[Mr,Nf (Ib c),Zr (Ib c),Sb]
theorem Ew{b:UInt8}(h:qA b=true):hexN b<16:=Bc h
theorem IK{n d:Nat}(hn:n<16777216)(hd:d<16):ibOr .i64 (Tu .i64 (n:Int) 4) (d:Int)=((16*n+d:Nat):Int):=by
 have h1:Tu .i64 (n:Int) 4=((16*n:Nat):Int):=by unfold Tu;rw[show(2:Int) ^ (min (4:Int).toNat IntKind.i64.bits)=16 from rfl];rw[FC (by omega) (by omega)];omega
 rw[h1];unfold ibOr;have e:(BitVec.ofInt IntKind.i64.bits ((16*n:Nat):Int) ||| BitVec.ofInt IntKind.i64.bits (d:Int)).toNat=16*n+d:=by
  rw[BitVec.toNat_or,BitVec.toNat_ofInt,BitVec.toNat_ofInt];rw[show((((16*n:Nat):Int)%((2 ^ IntKind.i64.bits:Nat):Int)).toNat)=16*n by show(((16*n:Nat):Int)%18446744073709551616).toNat=_;omega,
   show(((d:Int)%((2 ^ IntKind.i64.bits:Nat):Int)).toNat)=d by show((d:Int)%18446744073709551616).toNat=_;omega]
  have:=Nat.two_pow_add_eq_or_of_lt (i:=4) (b:=d) hd n;rw[show 2 ^ 4*n=16*n from rfl]at this;exact this.symm
 rw[e,FC (by omega) (by omega)]
theorem Rs(b:UInt8):decide (hexI b<0)= !qA b:=by
 unfold hexI;cases qA b with
 |true=>simp only[Gd];exact Ra (by omega)
 |false=>rfl
theorem Dw: ∀(k n:Nat) (l:Str),qA (atS l 0)=false->hexes k n l=(n,l)
 |0,_,_,_=>rfl
 |_+1,_,[],_=>rfl
 |k+1,n,c::r,h=>by unfold hexes;rw[Ja (by rw[show qA c=false from h];decide)]
theorem XM {R:Type} {step:(Int×Int)×za->Option (LO ((Int×Int)×za) (Int×za) R)} {s l:Str} (hl:l<:+s)
  (h: ∀(n i:Nat) (q:Str),q<:+s->n<16777216->i<=6->step (((n:Int),(i:Int)),sr s q)=some (bif decide (i<6)&&qA (atS q 0)then .again ((((16*n+hexN (atS q 0):Nat):Int),((i+1:Nat):Int)),sr s (q.drop 1))else .out ((n:Int),sr s q))):
  Gg step ((0,0),sr s l)=some (.out (((hexes 6 0 l).1:Int),sr s (hexes 6 0 l).2)):=by
 refine ZG (fun z=> ∃(n i:Nat) (q:Str),z=(((n:Int),(i:Int)),sr s q)/\q<:+s/\i<=6/\n<16 ^ i/\hexes (6 - i) n q=hexes 6 0 l) (fun z=>6 - z.1.2.toNat) _ ?_ ⟨0,0,l,rfl,hl,by omega,by decide,rfl⟩;rintro _ ⟨n,i,q,rfl,hq,hi,hn,he⟩;have hn':n<16777216:=Oc hn (Nat.pow_le_pow_right (by omega) hi:16 ^ i<=16 ^ 6);rw[h n i q hq hn' hi];rcases Mc i 6 with hlt|hge
 ·rw[Ea hlt,Lb];cases hx:qA (atS q 0)with
  |true=>
   cases q with
   |nil=>exact absurd hx (by decide)
   |cons c r=>
    have hd:=Ew hx;refine .inl ⟨_,rfl,⟨16*n+hexN (atS (c::r) 0),i+1,r,rfl,zU hq,by omega,?_,?_⟩,by simp only[Ta];omega⟩
    ·rw[xg];omega
    ·rw[<-he,show 6 - i=(6 - (i+1))+1 by omega];rw[hexes.eq_def ((6 - (i+1))+1) n (c::r)];simp only;rw[Ka (show qA c=true from hx)];rfl
  |false=> refine .inr (.inl ⟨_,rfl,?_⟩);rw[<-he,Dw _ _ _ hx]
 ·rw[Ra (by omega),Ic];refine .inr (.inl ⟨_,rfl,?_⟩);rw[<-he,show 6 - i=0 by omega];rfl
theorem dB: ∀(k n:Nat) (l:Str),(hexes k n l).1<16 ^ k*(n+1)
 |0,n,l=>by unfold hexes;omega
 |k+1,n,[]=>by have:0<16 ^ (k+1):=Dg (by omega);unfold hexes;exact Oc (Nat.lt_succ_self n) (Nat.le_mul_of_pos_left _ this)
 |k+1,n,c::r=>by
  unfold hexes;cases hx:qA c with
  |true=> rw[Ka rfl];have h1:=dB k (16*n+hexN c) r;have:=Ew hx;refine Oc h1 ?_;rw[xg,Bg];exact Nat.mul_le_mul_left _ (by omega)
  |false=> rw[Ja (by decide)];have:0<16 ^ (k+1):=Dg (by omega);exact Oc (Nat.lt_succ_self n) (Nat.le_mul_of_pos_left _ this)
theorem BH{s l acc:Str}{c:UInt8}(hs:s.length<=big)(hr:c::l<:+s)(ha:acc.length<=1000000000):
  zO (sr s (c::l),acc)=some (sr s (zo l).2,acc++(zo l).1):=by
 have hl:=zU hr;unfold zO;simp only[Vh hs hr,ze,Bh hs hl,Aa,Jo];cases l with
 |nil=> rw[show([]:Str).isEmpty=true from rfl,Fa,jN ha];rfl
 |cons d r=>
  rw[show(d::r).isEmpty=false from rfl,Ba,Sz];simp only[Aa,Rs];cases hx:qA (atS (d::r) 0)with
  |false=>
   rw[Eb,Fa,Yo,jw];simp only[Aa,Vh hs hl];rw[zk (vg (by omega))];have:zo (d::r)=([d],r):=by show(if qA d then _ else _)=_;rw[Ja (by rw[show qA d=false from hx];decide)]
   rw[this]
  |true=>
   rw[Nb,Ba];have he:zo (d::r)=(jg (hexes 6 0 (d::r)).1,unsp (hexes 6 0 (d::r)).2):=by show(if qA d then _ else _)=_;rw[Ka (show qA d=true from hx)]
   rw[he];rw[zW (XM (l:=d::r) hl (fun n i q hq hn hi=> ?_))]
   ·have hq:(hexes 6 0 (d::r)).2<:+s:=(Gx 6 0 _).trans hl;have hlt:=dB 6 0 (d::r);rw[show 16 ^ 6*(0+1)=16777216 from rfl]at hlt;simp only[Bh hs hq,Aa,Tv];have hj:(bif spB (atS (hexes 6 0 (d::r)).2 0)then some (LX.out (((hexes 6 0 (d::r)).1:Int),(⟨s,w64 ((beh s (hexes 6 0 (d::r)).2:Int)+1)⟩:za),acc))else some (LX.out (((hexes 6 0 (d::r)).1:Int),sr s (hexes 6 0 (d::r)).2,acc)):Option (LX (Int×za×List UInt8) (za×List UInt8)))
      =some (LX.out (((hexes 6 0 (d::r)).1:Int),sr s (unsp (hexes 6 0 (d::r)).2),acc)):=by
     cases hh:(hexes 6 0 (d::r)).2 with
     |nil=>rfl
     |cons e t=> rw[hh]at hq;rw[show atS (e::t) 0=e from rfl,Vh hs hq];show _=some (LX.out (_,sr s (if spB e then t else e::t),acc));cases spB e<;>rfl
    rw[hj,zg];simp only;by_cases h0:(hexes 6 0 (d::r)).1=0
    ·rw[h0,show((((0:Nat):Int))==0)=true from rfl,Fa,zg];simp only[Sm (show 65533<2147483648 by omega),show w32 (65533:Int)=65533 from Sm (n:=65533) (by omega),jN ha,Aa];rfl
    ·rw[show(((hexes 6 0 (d::r)).1:Int)==0)=false by rw[Ia];omega,Ba,zg];simp only[iU h0 hlt ha,Aa]
   ·simp only[Bh hs hq,Aa,Sz,Rs];have hb6:decide ((i:Int)<6)=decide (i<6):=by rw[decide_eq_decide];omega
    rw[hb6];cases decide (i<6)with
    |false=>rfl
    |true=>
     rw[Fa,Lb];cases hx2:qA (atS q 0)with
     |false=>rfl
     |true=>
      cases q with
      |nil=>exact absurd hx2 (by decide)
      |cons e t=>
       have hI:hexI (atS (e::t) 0)=(hexN (atS (e::t) 0):Int):=by unfold hexI;rw[Ka hx2]
       rw[hI,IK hn (Ew hx2),Vh hs hq,zz (by omega) (by omega)];rfl
theorem zAj{s r:Str}{k:Nat}(hs:s.length<=big)(hr:r<:+s)(hk:k<=4):zt ((k:Int),sr s r)=some (escS (r.drop k)&&decide (k<r.length)):=by
 unfold zt;simp only[ze,Kn hs hr (show k<=8 by omega),Aa,TU];rw[show w64 ((k:Int)+1)=((k+1:Nat):Int) by rw[zz (by omega) (by omega)];omega,Kn hs hr (by omega)];unfold escS;rw[Qt,Qt,Pd];cases h:(atS r k==92)with
 |false=>simp only[zq,Ba,Aa,Ic]
 |true=> have hlt:k<r.length:=Nq (by rw[ma.1 h];decide);rw[Ea hlt];simp only[zq,Fa,Aa,Lb,Cc];unfold bne;rw[WJ]
theorem zAi{l:Str}(h:escS l=true):0<l.length:=by unfold escS at h;rw[Da]at h;exact Nq (by rw[ma.1 h.1];decide)
theorem fB{s r:Str}{k:Nat}(hs:s.length<=big)(hr:r<:+s)(hk:k<=4):zt ((k:Int),sr s r)=some (escS (r.drop k)):=by
 rw[zAj hs hr hk];cases h:escS (r.drop k)with
 |false=>rfl
 |true=> have:=zAi h;rw[Ob]at this;rw[Ea (by omega)];rfl
theorem BG{s r:Str}(hs:s.length<=big)(hr:r<:+s):zt (0,sr s r)=some (escS r):=fB (k:=0) hs hr (by omega)
theorem bJ{s r:Str}{k:Nat}(hs:s.length<=big)(hr:r<:+s)(hk:k<=2):zH ((k:Int),sr s r)=some (nmS (r.drop k)):=by
 unfold zH;have hk1:w64 ((k:Int)+1)=((k+1:Nat):Int):=by rw[zz (by omega) (by omega)];omega
 simp only[hk1,ze,Kn hs hr (show k<=8 by omega),Kn hs hr (show k+1<=8 by omega),Aa,zBg,fB hs hr (show k<=4 by omega),fB hs hr (show k+1<=4 by omega)];unfold nmS;rw[Qt,Qt,We];unfold bne;rw[Gu,Pd];cases atS r k==45 with
 |true=>
  simp only[Nb,Ba,Gd];cases fstB (atS r (k+1))with
  |true=>rfl
  |false=> simp only[Eb,zq,Fa,Ba,Aa,Gu];cases atS r (k+1)==45<;>cases escS (r.drop (k+1))<;>rfl
 |false=> simp only[Eb,Fa];cases fstB (atS r k)<;>cases escS (r.drop k)<;>rfl
theorem AV(n:Nat):(jg n).length<=4:=by
 unfold jg Ck
 repeat' split
 all_goals simp
theorem Rp(l:Str):(zo l).1.length<=4:=by
 cases l with
 |nil=>show Ck.length<=4;decide
 |cons c r=>
  show(if qA c then(jg (hexes 6 0 (c::r)).1,unsp (hexes 6 0 (c::r)).2)else([c],r)).1.length<=4;split
  ·exact AV _
  ·show 1<=4;omega
theorem zI(c:UInt8)(r:Str):zm (c::r)=if letB c then((c::(zm r).1),(zm r).2)
  else if escS (c::r)then((zo r).1++(zm (zo r).2).1,(zm (zo r).2).2)
  else([],c::r):=by rw[zm]
theorem qF:zm []=([],[]):=by rw[zm]
theorem zCn(l:Str):(pk l 0 != -1)= !l.isEmpty:=by unfold bne;rw[Jo]
theorem wy{s r:Str}(hs:s.length<=big)(hr:r<:+s):zL (sr s r)=some ((zm r).1,sr s (zm r).2):=by
 have hb:big=4194304:=rfl;unfold zL;refine OH (r:=((zm r).1,sr s (zm r).2)) ?_;refine ZG (fun z=> ∃(q acc:Str),z=(sr s q,acc)/\q<:+s/\acc.length+4*q.length<=4*s.length/\acc++(zm q).1=(zm r).1/\(zm q).2=(zm r).2) (fun z=>s.length - z.1.at_.toNat) _ ?_ ⟨r,[],rfl,hr,by have:=hr.length_le;rw[Jb];omega,rfl,rfl⟩;rintro _ ⟨q,acc,rfl,hq,hl,he1,he2⟩;simp only[ze,Bh hs hq,Aa,VN];cases q with
 |nil=> refine .inr (.inr ⟨_,rfl,?_⟩);rw[qF]at he1 he2;rw[<-he1,<-he2,Ya]
 |cons c t=>
  have hlen:=hq.length_le;rw[Ga]at hlen hl;rw[show atS (c::t) 0=c from rfl];rw[zI]at he1 he2;cases hlet:letB c with
  |true=>
   rw[hlet,Ka rfl]at he1 he2;refine .inl ⟨(sr s t,acc++[c]),?_,⟨t,acc++[c],rfl,zU hq,by rw[Ca,Ua];omega,by rw[<-he1,Ma];rfl,he2⟩,?_⟩
   ·rw[Fa,Yo,jw];simp only[Aa];rw[zk (vg (by omega)),Vh hs hq]
   ·show s.length - beh s t<s.length - beh s (c::t);unfold beh;rw[Ga];omega
  |false=>
   rw[hlet,Ja (by decide)]at he1 he2;rw[Ba,zCn,show(c::t).isEmpty=false from rfl,BG hs hq];cases hesc:escS (c::t)with
   |true=>
    rw[hesc,Ka rfl]at he1 he2;have h4:=Rp t;have h5:=zF t;refine .inl ⟨(sr s (zo t).2,acc++(zo t).1),?_,⟨_,_,rfl,(Zb t).trans (zU hq),by rw[Ca];omega,by rw[<-he1,Ma],he2⟩,?_⟩
    ·simp only[Eb,zq,Fa,Aa,BH hs hq (show acc.length<=1000000000 by omega)]
    ·show s.length - beh s (zo t).2<s.length - beh s (c::t);unfold beh;rw[Ga];omega
   |false=> rw[hesc,Ja (by decide)]at he1 he2;refine .inr (.inr ⟨_,rfl,?_⟩);rw[<-he1,<-he2,Ya]
theorem Yk(l:Str):(zm l).2<:+l:=by
 match l with
 |[]=>rw[qF];exact Gc _
 |c::r=>
  rw[zI];split
  ·exact(Yk r).trans (Td c r)
  ·split
   ·have:=zF r;exact(Yk (zo r).2).trans ((Zb r).trans (Td c r))
   ·exact Gc _
termination_by l.length
decreasing_by
 all_goals first|(have:=zF r;simp only[Ga];omega)|(simp only[Ga];omega)
end Go.Lv.VT
