/- Tokens that can be written: the program's check. -/
import Derived.Test.YtcdeccnjlkkejaaGreatDoorLaw
set_option linter.unusedSimpArgs false
set_option linter.unusedVariables false
namespace Go.Lv.VT
theorem zDT(g d:Bool)(b c:UInt8):(bif g then namN (bif g then b else c).toNat else d)=bif g then namN b.toNat else d:=by cases g<;>rfl
theorem zqw{x:zb}(h1:x.text.length<=big)(h2:x.unit.length<=big):jy x=some (ng x):=by
 unfold jy;rw[zy (xy.2 (by unfold big at h1 h2;omega))];simp only[ze,dE,Aa];have hn:decide (Lib.indexByte (x.text++x.unit) (0:Int).toNat.toUInt8<0)=(Zn x.text&&Zn x.unit):=by rw[zCv,zCj,zq6,Bool.not_not]
 simp only[hn,GV,xu,Mm,Aa,ge_iff_le,bne];have hb:=zAe x.text;unfold ng rngS;by_cases k9:x.kind=9
 ·simp only[k9,Int.reduceBEq,Ja,Ha,zh,Rf,jd];cases ht:x.text with
  |nil=>
   have:Zn ([]:Str)=true:=rfl;simp only[this,Xb];cases Zn x.unit<;>rfl
  |cons b r=>
   cases r with
   |nil=>
    have hd:=kX b;have e1:((([b]:Str).length:Int)==1)=true:=rfl;have e2:geti [b] 0=some b:=rfl;have e3:(([b]:Str)==[45])=(b==45):=by show((b==45)&&true)=_;rw[Xc]
    have e4:Zn [b]= !(b==0):=by show((!(b==0))&&true)=_;rw[Xc]
    have e5:delS [b]=Si b.toNat:=rfl;simp only[e1,e2,e3,e4,e5,zmI,PU,Mm,Aa,zDT,<-hd];cases hu:x.unit with
    |nil=>
     have:Zn ([]:Str)=true:=rfl;simp only[this,Xc];generalize (Es.any fun c=>c==b)=a1;cases namN b.toNat<;>cases (b==0)<;>cases (b==45)<;>cases a1<;>cases (x.num==0)<;>cases x.flag<;>rfl
    |cons c s=> have:((c::s:Str)==[])=false:=rfl;simp only[this];generalize Zn (c::s)=a2;generalize (Es.any fun c=>c==b)=a1;cases a2<;>cases namN b.toNat<;>cases (b==0)<;>cases (b==45)<;>cases a1<;>cases (x.num==0)<;>cases x.flag<;>rfl
   |cons c r=>
    have e1:(((b::c::r:Str).length:Int)==1)=false:=Fa.2 (by simp only[Ia];omega);have e3:((b::c::r:Str)==[45])=false:=by show((b==45)&&false)=_;rw[xe]
    have e5:delS (b::c::r)=false:=rfl;simp only[e1,e3,e5];cases (Zn (b::c::r)&&Zn x.unit)<;>rfl
 have b9:=Fa.2 k9;have hu:(x.unit==[])=true->Zn x.unit=true:=fun h=>by rw[Lb]at h;rw[h];rfl
 have htx:(x.text==[])=true->Zn x.text=true:=fun h=>by rw[Lb]at h;rw[h];rfl
 rw[<-hb];generalize hl45:(x.text==[45])=a11 at*;generalize (List.isPrefixOf [45,45] x.text)=a12 at*;generalize numS x.text=a3 at*;generalize Zn x.text=a1 at*;generalize Zn x.unit=a2 at*;generalize (x.text==[])=a4 at*;generalize (x.unit==[])=a5 at*;generalize (x.num==0)=a6 at*;generalize x.flag=a7 at*;generalize decide (-1000000000000<=x.num)=a8 at*;generalize decide (x.num<=1000000000000)=a9 at*;generalize (Int.tmod x.num 1000==0)=a10 at*;clear hb hn hl45;have K: ∀k:Int,k∈[1,2,3,4,5,7,10,11,12]->x.kind=k->True:=fun _ _ _=>trivial;clear K;by_cases k1:x.kind=1
 ·simp only[k1,zh,Ja,Ha,Int.reduceBEq];cases a1<;>cases a2<;>cases a4<;>cases a5<;>cases a6<;>cases a7<;>first|rfl|(simp at hu htx;done)|simp_all
 by_cases k2:x.kind=2
 ·simp only[k2,zh,Ja,Ha,Int.reduceBEq];cases a1<;>cases a2<;>cases a4<;>cases a5<;>cases a6<;>cases a7<;>first|rfl|(simp at hu htx;done)|simp_all
 by_cases k3:x.kind=3
 ·simp only[k3,zh,Ja,Ha,Int.reduceBEq];cases a1<;>cases a2<;>cases a4<;>cases a5<;>cases a6<;>cases a7<;>first|rfl|(simp at hu htx;done)|simp_all
 by_cases k4:x.kind=4
 ·simp only[k4,zh,Ja,Ha,Int.reduceBEq];cases a1<;>cases a2<;>cases a3<;>cases a4<;>cases a5<;>cases a6<;>cases a7<;>cases a11<;>cases a12<;>first|rfl|(simp at hu htx;done)|simp_all
 by_cases k5:x.kind=5
 ·simp only[k5,zh,Ja,Ha,Int.reduceBEq];cases a1<;>cases a2<;>cases a5<;>cases a6<;>cases a7<;>first|rfl|(simp at hu htx;done)|simp_all
 by_cases k7:x.kind=7
 ·simp only[k7,zh,Ja,Ha,Int.reduceBEq];cases a1<;>cases a2<;>cases a5<;>cases a6<;>cases a7<;>first|rfl|(simp at hu htx;done)|simp_all
 by_cases k10:x.kind=10
 ·simp only[k10,zh,Ja,Ha,Int.reduceBEq];cases a1<;>cases a2<;>cases a4<;>cases a5<;>cases a7<;>cases a8<;>cases a9<;>cases a10<;>first|rfl|(simp at hu htx;done)|simp_all
 by_cases k11:x.kind=11
 ·simp only[k11,zh,Ja,Ha,Int.reduceBEq];cases a1<;>cases a2<;>cases a4<;>cases a5<;>cases a7<;>cases a8<;>cases a9<;>cases a10<;>first|rfl|(simp at hu htx;done)|simp_all
 by_cases k12:x.kind=12
 ·simp only[k12,zh,Ja,Ha,Int.reduceBEq];cases a1<;>cases a2<;>cases a4<;>cases a5<;>cases a7<;>cases a8<;>cases a9<;>cases a10<;>first|rfl|(simp at hu htx;done)|simp_all
 simp only[b9,Fa.2 k1,Fa.2 k2,Fa.2 k3,Fa.2 k4,Fa.2 k5,Fa.2 k7,Fa.2 k10,Fa.2 k11,Fa.2 k12,zh,Ja,Ha,Bool.or_self];cases decide (13<=x.kind)<;>cases decide (x.kind<=24)<;>cases a4<;>cases a5<;>cases a6<;>cases a7<;>rfl
theorem WS {R:Type} {step:Int->Option (LO Int Unit R)} {k:Unit->Option R} (n:Nat) (p:Nat->Bool) (r:R)
  (hg: ∀(i:Nat),i<n->step (i:Int)=some (bif p i then .again ((i+1:Nat):Int)else .ret r)) (hf:step (n:Int)=some (.out ())):
  ZC step 0 k=bif (List.range n).all p then k ()else some r:=by
 have e:=mR (k:=k) (List.range n) (fun i=>bif p i then none else some r) () (fun i hi=> ?_) (by simpa using hf)
 ·rw[e,EI];cases (List.range n).all p<;>rfl
 ·have hi':i<n:=by simpa using hi
  rw[hg i hi'];simp only[List.getElem_range];cases p i<;>rfl
def Sl:List zb->Bool
 |[]=>false
 |s::r=>bif s.kind==13 then(match r with|u::_=>u.kind==5|[]=>false)else s.kind==5
def si:List zb->Bool
 |[]=>false
 |s::_=>s.kind==13
def Mh(t:zb):Bool:=t.kind==2&&lowS t.text==[117,114,108]
def okAt:List zb->Bool
 |[]=>true
 |t::r=>(!(t.kind==9&&t.text==[92])||si r)&&(!(Mh t)||Sl r)
def Wl(l:List zb)(i:Nat):Bool:=ng (l.getD i default)&&okAt (l.drop i)
def gluS(l:List zb):Int:=bif decide (l.length<=1500)then(bif (List.range l.length).all (Wl l)then 0 else 8)else 4
theorem Au(l:List zb)(i:Nat)(k:Int):ZK (((i:Int),k),l)=some (match l[i]? with|some t=>t.kind==k|none=>false):=by
 unfold ZK;by_cases h:i<l.length
 ·simp only[Xk h,ZB,QX h,ze,Aa,Ja,Ma h]
 ·have e:decide ((i:Int)<(l.length:Int))=false:=Ib (by omega);simp only[e,ZF,ze,Aa,Ha,List.getElem?_eq_none (Nat.le_of_not_lt h)]
theorem Tx:lowS [117,114,108]=[117,114,108]:=by decide
theorem zoI{t:zb}{r:List zb}(h:t.text.length<=big): ∃n:Int,QM (t::r)=some n/\(n==0)= !okAt (t::r):=by
 have e0:geti (t::r) 0=some t:=rfl;have p1:=Au (t::r) 1 13;have p15:=Au (t::r) 1 5;have p25:=Au (t::r) 2 5;unfold QM;simp only[e0,ze,Aa,gJ h (show([117,114,108]:Str).length<=big by decide),Tx,Mm];simp only[Int.natCast_one]at p1 p15;replace p25:ZK ((2,5),t::r)=_:=p25;rw[p1];unfold okAt Mh;cases hd:(t.kind==9&&t.text==[92])with
 |true=>
  have hk:t.kind=9:=by rw[Da,Lb]at hd;exact hd.1
  have ht:(t.text==[92])=true:=by rw[Da]at hd;exact hd.2
  simp only[hk,ht,Int.reduceBEq,Ja,Ha,Aa];cases r with
  |nil=>exact⟨_,rfl,rfl⟩
  |cons s r=>
   show∃n:Int,(bif !(s.kind==13)then some 0 else some 2)=some n/\(n==0)= !((!true||s.kind==13)&&_);cases s.kind==13
   ·exact⟨0,rfl,rfl⟩
   ·exact⟨2,rfl,rfl⟩
 |false=>
  have hc:(bif t.kind==9 then t.text==[92]else false)=false:=by
   cases h9:t.kind==9
   ·rfl
   ·rw[h9]at hd;exact hd
  simp only[hc,hd,Ha,Ec,Hf,Xb];cases hu:(t.kind==2&&lowS t.text==[117,114,108])with
  |false=>
   have:(bif t.kind==2 then bif t.kind==2 then lowS t.text==[117,114,108]else default else false)=false:=by
    cases h2:t.kind==2
    ·rfl
    ·rw[h2]at hu;exact hu
   rw[this];exact⟨1,rfl,rfl⟩
  |true=>
   rw[Da]at hu;rw[hu.1,hu.2];simp only[Ja,Aa];cases r with
   |nil=>exact⟨0,by simp[p15],rfl⟩
   |cons s r=>
    cases hs:s.kind==13 with
    |false=>
     have e1:(match(t::s::r)[1]? with|some t=>t.kind==13|none=>false)=false:=hs;have e5:ZK ((1,5),t::s::r)=some (s.kind==5):=p15;simp only[e1,Ha,zh,e5,Aa,Sl,hs];cases s.kind==5
     ·exact⟨0,rfl,rfl⟩
     ·exact⟨2,by rfl,rfl⟩
    |true=>
     have e1:(match(t::s::r)[1]? with|some t=>t.kind==13|none=>false)=true:=hs;simp only[e1,Ja,zh,p25,Aa,Sl,hs];cases r with
     |nil=>exact⟨0,rfl,rfl⟩
     |cons u r=>
      show∃n:Int,(bif !(u.kind==5)then some 0 else some (w64 (2+1)))=some n/\(n==0)= !(!true||u.kind==5);cases u.kind==5
      ·exact⟨0,rfl,rfl⟩
      ·exact⟨3,rfl,rfl⟩
theorem pR(l:List zb):decide ((l.length:Int)>1500)= !decide (l.length<=1500):=zDN _ 1500
theorem zoH{l:List zb}(h: ∀t∈l,t.text.length<=big/\t.unit.length<=big):Vz l=some (gluS l):=by
 unfold Vz gluS;rw[pR];cases hl:decide (l.length<=1500)with
 |false=>rfl
 |true=>
  have hl:=Kc hl;simp only[Oc,Ha,Ja];refine(WS l.length (Wl l) 8 (fun i hi=> ?_) ?_).trans ?_
  ·obtain⟨g1,g2⟩:=h _ (Ue hi);have hgd:l.getD i default=l[i]:=by simp[hi]
   have hdr:=Ub hi;obtain⟨n,e1,e2⟩:=zoI (t:=l[i]) (r:=l.drop (i+1)) g1;rw[<-hdr]at e1 e2;have e3:decide ((i:Int)<=(l.length:Int))=true:=La (by omega);unfold Wl;simp only[Xk hi,Ja,QX hi,ze,Aa,zqw g1 g2,Sw,e3,Xb,Hf,qD,Bc,e1,Mm,Qd hi (show l.length<=big by unfold big;omega),hgd];cases ng l[i]with
   |false=>rfl
   |true=> simp only[Oc,Ec,Ja,Ha,e2,Xb];cases okAt (l.drop i)<;>rfl
  ·simp only[Hl,Ha]
  ·cases (List.range l.length).all (Wl l)<;>rfl
theorem aI{α:Type}{l:List α}{i:Nat}{s:α}{r:List α}(h:l.drop i=s::r):i<l.length/\geti l (i:Int)=some s/\l.drop (i+1)=r:=by
 have hi:i<l.length:=by
  rcases Sc i l.length with h'|h'
  ·exact h'
  ·rw[Pe h']at h;cases h
 rw[Ub hi]at h;injection h with h1 h2;exact⟨hi,by rw[QX hi,h1],h2⟩
theorem YI{α:Type}{l:List α}{i:Nat}(h:l.drop i=[])(hi:i<=l.length):i=l.length:=by have:=Ff.1 h;omega
theorem zAT{l:List zb}{i:Nat}(hi:i<l.length)(hl:l.length<=1500):
  zW (X:=Int) (R:=LX Unit (LO Int Unit Int)) (ze (zu (decide (((i+1:Nat):Int)<(l.length:Int))) (geti l ((i+1:Nat):Int)) (default:zb)) fun y7=>bif bif decide (((i+1:Nat):Int)<(l.length:Int))then y7.kind==13 else false then some (LX.out (w64 (((i+1:Nat):Int)+1)))else some (LX.out ((i+1:Nat):Int)))
   (fun j8=>ze (zu (!(decide (j8>=(l.length:Int)))) (geti l j8) (default:zb)) fun y9=>bif bif decide (j8>=(l.length:Int))then true else y9.kind != 5 then some (LX.ret (LO.ret 8))else some (LX.out ()))=bif Sl (l.drop (i+1))then some (LX.out ())else some (LX.ret (LO.ret 8)):=by
 cases hr:l.drop (i+1)with
 |nil=> have he:=YI hr (by omega);have e1:decide (((i+1:Nat):Int)<(l.length:Int))=false:=Ib (by omega);have e2:decide (((i+1:Nat):Int)>=(l.length:Int))=true:=La (by omega);simp only[e1,e2,ZF,ze,Aa,Ha,Ja,zh,Oc,Sl]
 |cons s r=>
  obtain⟨h1,h2,h3⟩:=aI hr;have e2:decide (((i+1:Nat):Int)>=(l.length:Int))=false:=Ib (by omega);have hw:w64 (((i+1:Nat):Int)+1)=((i+1+1:Nat):Int):=Qd h1 (by unfold big;omega);simp only[Xk h1,ZB,h2,ze,Aa,Ja,hw,Sl];cases hs:s.kind==13 with
  |false=>
   simp only[Ha,zh,e2,Ec,ZB,h2,Aa,bne];cases s.kind==5<;>rfl
  |true=>
   simp only[Ja,zh];cases r with
   |nil=> have he:=YI h3 (by omega);have e3:decide (((i+1+1:Nat):Int)>=(l.length:Int))=true:=La (by omega);simp only[e3,Oc,ZF,Aa,Ja,Ha]
   |cons u r=> obtain⟨g1,g2,g3⟩:=aI h3;have e3:decide (((i+1+1:Nat):Int)>=(l.length:Int))=false:=Ib (by omega);simp only[e3,Ec,ZB,g2,Aa,Ha,bne];cases u.kind==5<;>rfl
theorem jX{l:List zb}{i:Nat}(hi:i<l.length)(d:Bool)(A B:Option (LO Int Unit Int)):
  (ze (zu (!(((i+1:Nat):Int)==(l.length:Int))&&d) (geti l ((i+1:Nat):Int)) (default:zb)) fun y13=>bif bif d then bif ((i+1:Nat):Int)==(l.length:Int)then true else y13.kind != 13 else false then A else B)=bif !d||si (l.drop (i+1))then B else A:=by
 cases d with
 |false=>simp only[xe,ZF,ze,Aa,Ha,Ec,Hf,Ja]
 |true=>
  cases hr:l.drop (i+1)with
  |nil=> have he:=YI hr (by omega);have e1:(((i+1:Nat):Int)==(l.length:Int))=true:=Lb.2 (by omega);simp only[e1,Oc,Yc,ZF,ze,Aa,Ja,si,Bool.or_self,Ha]
  |cons s r=> obtain⟨h1,h2,h3⟩:=aI hr;have e1:(((i+1:Nat):Int)==(l.length:Int))=false:=Fa.2 (by omega);simp only[e1,Ec,Xb,ZB,h2,ze,Aa,Ja,si,Ha,Oc,jd,bne];cases s.kind==13<;>rfl
theorem zBI(b:Bool)(t u:zb)(p:zb->Bool):(bif b then p (bif b then t else u)else false)=(b&&p t):=by cases b<;>rfl
theorem zm7(hD:FC){l:List zb}(h: ∀t∈l,t.text.length<=big/\t.unit.length<=big):fu l=some (gluS l):=by
 unfold fu gluS;rw[pR];cases hl:decide (l.length<=1500)with
 |false=>rfl
 |true=>
  have hl:=Kc hl;simp only[Oc,Ha,Ja];refine(WS l.length (Wl l) 8 (fun i hi=> ?_) ?_).trans ?_
  ·obtain⟨g1,g2⟩:=h _ (Ue hi);have hgd:l.getD i default=l[i]:=by simp[hi]
   have hdr:=Ub hi;have hw:w64 ((i:Int)+1)=((i+1:Nat):Int):=Qd hi (by unfold big;omega);have hw2:w64 (((i+1:Nat):Int)+1)=((i+2:Nat):Int):=Qd (n:=i+2) (by omega) (by unfold big;omega);unfold Wl;rw[hdr,hgd];simp only[Xk hi,Ja,QX hi,ze,Aa,zpo hD g1 g2,hw];cases hf:ng l[i]with
   |false=>rfl
   |true=>
    simp only[Oc,Ha,Mm,Aa,Xb];have hu:=zAT hi hl;have hd:=jX hi (l[i].kind==9&&l[i].text==[92]) (some (LO.ret 8)) (some (LO.again ((i+1:Nat):Int)));simp only[ze]at hu hd;have hlow:(bif l[i].kind==2 then bif l[i].kind==2 then lowS (bif l[i].kind==2 then l[i]else default).text==[117,114,108]else default else false)=Mh l[i]:=by unfold Mh;cases l[i].kind==2<;>rfl
    have ha:(zu (l[i].kind==2) (qE ((bif l[i].kind==2 then l[i]else default).text,[117,114,108])) (default:Bool))=some (bif l[i].kind==2 then lowS (bif l[i].kind==2 then l[i]else default).text==[117,114,108]else default):=by
     cases h2:l[i].kind==2 with
     |false=>rfl
     |true=> show qE (l[i].text,[117,114,108])=some (lowS l[i].text==[117,114,108]);rw[DZ g1 (by decide),Tx]
    have hdl:(bif l[i].kind==9 then(bif l[i].kind==9 then l[i]else default).text==[92]else false)=(l[i].kind==9&&l[i].text==[92]):=zBI (l[i].kind==9) l[i] default fun t=>t.text==[92];simp only[ha,Aa,hlow,hdl,hu,okAt];cases Mh l[i]with
    |false=>
     simp only[Ha,zh,Ec,Hf,Xc];refine hd.trans ?_;cases (!(l[i].kind==9&&l[i].text==[92])||si (l.drop (i+1)))<;>rfl
    |true=>
     simp only[Ja,Oc,jd];cases Sl (l.drop (i+1))with
     |false=>simp only[Ha,zqI,xe]
     |true=> simp only[Ja,zh,Xc];refine hd.trans ?_;cases (!(l[i].kind==9&&l[i].text==[92])||si (l.drop (i+1)))<;>rfl
  ·simp only[Hl,Ha]
  ·cases (List.range l.length).all (Wl l)<;>rfl
theorem zm6{l:List zb}(h: ∀t∈l,t.text.length<=big/\t.unit.length<=big):fu l=some (gluS l):=zm7 zm8 h
set_option maxRecDepth 100000
def partT(r:Nat)(p:Bool):Str:=bif (di r).isEmpty then(bif p then [48]else [])else di r
theorem Tp{r:Nat}(h:r<1000)(p:Bool):(partT r p).all digB=true/\(partT r p).length<=3/\valG 0 (partT r p)*10 ^ (3 - (partT r p).length)=r/\Um r p=(bif (partT r p).isEmpty then []else 46::partT r p)/\((partT r p).isEmpty=((r==0)&& !p)):=by
 have hf:=DI r h;simp only[CB,Da,jb,Lb]at hf;obtain⟨⟨⟨⟨a,b⟩,c⟩,d⟩,e⟩:=hf;unfold partT Um;cases hE:(di r).isEmpty with
 |true=>
  have hr:r=0:=by rw[hE]at d;exact Lb.1 d.symm
  subst hr;cases p<;>refine⟨by decide,by decide,by decide,rfl,rfl⟩
 |false=> rw[hE]at d;simp only[Ha];exact⟨a,b,c,by rw[hE,Ha],by rw[hE,<-d];rfl⟩
theorem KN{l:Str}(h:(l.all fun b=>digB b||b==46)=true):jh l=true:=by
 unfold jh;rw[Ya]at h ⊢;intro b hb;have:=h b hb;refine La ?_;rw[Md]at this;rcases this with h1|h1
 ·have:=Lu h1;omega
 ·rw[Lb.1 h1];decide
theorem GN{m:Nat}(p:Bool):((pg m p).all fun b=>digB b||b==46)=true:=by
 obtain⟨h1,_,_⟩:=Wt (m / 1000);obtain⟨h2,_,_,h5,_⟩:=Tp (r:=m%1000) (by omega) p;have hw: ∀l:Str,l.all digB=true->(l.all fun b=>digB b||b==46)=true:=by intro l hl;rw[Ya]at hl ⊢;intro b hb;rw[hl b hb];rfl
 unfold pg;rw[Mg,hw _ h1,h5,Xb];cases (partT (m%1000) p).isEmpty with
 |true=>rfl
 |false=>rw[Ha,Sd,hw _ h2];rfl
theorem ay(u:Nat): ∃c r,Lib.decDigits u=c::r/\digB c=true:=by
 obtain⟨h1,_,h3⟩:=Wt u;cases h:Lib.decDigits u with
 |nil=>exact absurd h h3
 |cons c r=>rw[h,Sd,Da]at h1;exact⟨c,r,rfl,h1.1⟩
theorem QV{c:UInt8}(h:digB c=true):c≠45/\c≠43/\c≠46/\c≠0/\List.contains [43,45] c=false:=by
 have: ∀n:Nat,n<256->digB (UInt8.ofNat n)=true->UInt8.ofNat n≠45/\UInt8.ofNat n≠43/\UInt8.ofNat n≠46/\UInt8.ofNat n≠0/\List.contains [43,45] (UInt8.ofNat n)=false:=by decide+kernel
 have:=this c.toNat (Ob c);rw[Uc]at this;exact this h
theorem vX{m:Nat}(p:Bool): ∃f,Lib.cut (pg m p) [46]=(Lib.decDigits (m / 1000),partT (m%1000) p,f):=by
 obtain⟨h1,_,_⟩:=Wt (m / 1000);obtain⟨_,_,_,h5,_⟩:=Tp (r:=m%1000) (by omega) p;unfold pg Lib.cut;rw[yD,h5];cases hp:(partT (m%1000) p).isEmpty with
 |true=> rw[Ja,Ab,sG _ h1,Ga (by decide)];exact⟨false,by rw[List.isEmpty_iff.1 hp]⟩
 |false=>
  rw[Ha,uG _ _ h1,Ka (by omega)];refine⟨true,?_⟩;rw[Bc,List.take_left,Eb,show(Lib.decDigits (m / 1000)).length+1=(Lib.decDigits (m / 1000)++[46]).length by simp];have:Lib.decDigits (m / 1000)++46::partT (m%1000) p=(Lib.decDigits (m / 1000)++[46])++partT (m%1000) p:=by simp
  rw[this,List.drop_left]
theorem zna{n:Int}(h1: -1000000000000<=n)(h2:n<=1000000000000)(p:Bool):ZR (numT n p)=some n:=by
 obtain⟨m,hm⟩: ∃m:Nat,n.natAbs=m:=⟨_,rfl⟩;have hmle:m<=1000000000000:=by omega
 obtain⟨c,r,hc,hcd⟩:=ay (m / 1000);obtain⟨nc45,nc43,_,_,ncc⟩:=QV hcd;have hbody:pg m p=c::(r++Um (m%1000) p):=by unfold pg;rw[hc];rfl
 have hlen:=GD hmle p;obtain⟨f,hcut⟩:=vX (m:=m) p;obtain⟨d1,d2,d3⟩:=Wt (m / 1000);obtain⟨p1,p2,p3,p4,p5⟩:=Tp (r:=m%1000) (by omega) p;have hdl:=yI (u:=m / 1000) (by omega);have hsh:short (pg m p)=true:=La (by omega);have hdrop:Lib.trimLeftS (pg m p) [43,45]=pg m p:=by rw[hbody];unfold Lib.trimLeftS;rw[Lh,ncc];rfl
 have hT:Lib.trimLeftS (numT n p) [43,45]=pg m p:=by
  unfold numT;rw[hm];by_cases hn:n<0
  ·rw[Ka hn];show List.dropWhile _ (45::pg m p)=_;rw[Lh];exact hdrop
  ·rw[Ga hn];exact hdrop
 have h0: ∃b,geti (numT n p) 0=some b/\(((b.toNat:Int)==45)=decide (n<0)):=by
  unfold numT;rw[hm];by_cases hn:n<0
  ·rw[Ka hn,La hn];exact⟨45,rfl,rfl⟩
  ·rw[Ga hn,Ib hn];refine⟨c,by rw[hbody];rfl,Fa.2 (fun e=>nc45 ?_)⟩;exact Pf.1 (by show c.toNat=45;omega)
 obtain⟨b,hb1,hb2⟩:=h0;unfold ZR;simp only[ze,hb1,Aa];have t1:Rk (numT n p,[43,45])=some (pg m p):=by unfold Rk;rw[zy (show(short ([43,45]:Str)&&jh [43,45])=true by decide)];exact congrArg some hT
 have t2:QZ (pg m p,[101,69])=some (-1):=by unfold QZ;rw[zy (by simp only[hsh,KN (GN p),Xc,Xb];decide)];exact congrArg some (GH _ (GN p))
 have t3:cutF (pg m p,[46])=some (Lib.decDigits (m / 1000),partT (m%1000) p,f):=by unfold cutF;rw[zy (by exact hsh)];exact congrArg some hcut
 simp only[t1,t2,Aa,show decide ((-1:Int)>=0)=false from rfl,Ha,zh,t3];rw[zy (xy.2 (by omega))];have hw:w64 (3 - ((partT (m%1000) p).length:Int))=((3 - (partT (m%1000) p).length:Nat):Int):=by rw[Za (by omega) (by omega)];omega
 rw[hw,Ib (by omega),Ha,zh];simp only;have hml:maxLen=9223372036854775807:=rfl;rw[zy (La (by rw[Ba,hml];omega))];have hval:valG 0 (Lib.decDigits (m / 1000)++partT (m%1000) p)*10 ^ (3 - (partT (m%1000) p).length)=m:=by rw[IC,d2,Fx,Ce,p3,og,<-Nat.pow_add,show(partT (m%1000) p).length+(3 - (partT (m%1000) p).length)=3 by omega];omega
 have hvle:valG 0 (Lib.decDigits (m / 1000)++partT (m%1000) p)<=1000000000000:=by have:=Bf (valG 0 (Lib.decDigits (m / 1000)++partT (m%1000) p)) (xg (n:=3 - (partT (m%1000) p).length) (show 0<10 by omega));omega
 rw[Qk (zAF (l:=Lib.decDigits (m / 1000)++partT (m%1000) p) (by rw[Mg,d1,p1];rfl) (by rw[Ba];omega) hvle (fun v i hi=> ?_) (fun v=> ?_))]
 ·rw[Qk (P6 (by omega) (by rw[hval];exact hmle) (fun a b=> ?_)),hval]
  ·rw[hb2];by_cases hn:n<0
   ·rw[La hn,Ja,zh,Za (by omega) (by omega)];congr 1;omega
   ·rw[Ib hn,Ha,zh];congr 1;omega
  ·simp only
 ·have e1:decide ((i:Int)<((Lib.decDigits (m / 1000)++partT (m%1000) p).length:Int))=true:=La (by omega);have e0:decide ((0:Int)<=(i:Int))=true:=La (by omega);simp only[e1,e0,Ja,Xc,qD,Bc,Ma hi,Aa]
 ·simp only;rw[Ib (by omega),Ha]
theorem zBC(n:Int)(p:Bool):(n<0/\numT n p=45::pg n.natAbs p)\/(¬n<0/\numT n p=pg n.natAbs p):=by
 unfold numT;by_cases h:n<0
 ·exact .inl ⟨h,by rw[Ka h];rfl⟩
 ·exact .inr ⟨h,by rw[Ga h];rfl⟩
theorem R3(m:Nat)(p:Bool): ∃c r,pg m p=c::r/\digB c=true:=by obtain⟨c,r,h,hd⟩:=ay (m / 1000);exact⟨c,r++Um (m%1000) p,by unfold pg;rw[h];rfl,hd⟩
theorem VA{n:Int}(h1: -1000000000000<=n)(h2:n<=1000000000000)(p:Bool):(numT n p).length<=25/\1<=(numT n p).length:=by
 have:=GD (m:=n.natAbs) (by omega) p;obtain⟨c,r,hb,_⟩:=R3 n.natAbs p;rcases zBC n p with⟨_,h⟩|⟨_,h⟩
 ·rw[h,Ia];omega
 ·rw[h];refine⟨by omega,?_⟩;rw[hb,Ia];omega
theorem Zw{n:Nat}(h:n<256):Zv ((n:Nat):Int)=some (UInt8.ofNat n):=by unfold Zv;rw[La (by omega:(0:Int)<=(n:Int)),La (by omega:(n:Int)<=255)];rfl
theorem XG(n k:Nat)(hk:k<=32):wh .i32 (n:Int) (k:Int)=((n / 2 ^ k:Nat):Int):=by unfold wh;rw[show(min ((k:Int).toNat) IntKind.i32.bits)=k by show min k 32=k;omega];rw[Int.fdiv_eq_ediv_of_nonneg _ (Int.le_of_lt (Int.pow_pos (by decide)))];rw[Int.natCast_ediv,Int.natCast_pow];rfl
theorem shr6(n:Nat):wh .i32 (n:Int) 6=((n / 64:Nat):Int):=XG n 6 (by omega)
theorem CW(n:Nat):wh .i32 (n:Int) 12=((n / 4096:Nat):Int):=XG n 12 (by omega)
theorem yV(n:Nat):wh .i32 (n:Int) 18=((n / 262144:Nat):Int):=XG n 18 (by omega)
theorem zEy(n:Int):IntKind.u8.wrap n=n%256:=by simp[IntKind.wrap,IntKind.bits,IntKind.signed]
theorem zDj(n:Int):IntKind.u32.wrap n=n%4294967296:=by simp[IntKind.wrap,IntKind.bits,IntKind.signed]
theorem Kn{n:Nat}(h:n<2147483648):w32 (n:Int)=(n:Int):=by show IntKind.i32.wrap _=_;simp only[IntKind.wrap,IntKind.bits,IntKind.signed];simp;omega
theorem BO{n:Nat}(h:n<2147483648):wu32 (n:Int)=(n:Int):=by show IntKind.u32.wrap _=_;rw[zDj];omega
theorem Dx(n:Nat):wu8 (n:Int)=((n%256:Nat):Int):=by show IntKind.u8.wrap (n:Int)=_;rw[zEy];omega
theorem NP(n:Nat):ibOr .u8 128 (bi .u8 (wu8 (n:Int)) 63)=((128+n%64:Nat):Int):=by
 have: ∀m:Nat,m<256->ibOr .u8 128 (bi .u8 ((m:Nat):Int) 63)=((128+m%64:Nat):Int):=by decide+kernel
 rw[Dx,this _ (Nat.mod_lt _ (by omega)),show n%256%64=n%64 by omega]
theorem jW{n:Nat}(h:n<32):ibOr .u8 192 (wu8 (n:Int))=((192+n:Nat):Int):=by
 have: ∀m:Nat,m<32->ibOr .u8 192 (wu8 ((m:Nat):Int))=((192+m:Nat):Int):=by decide+kernel
 exact this n h
theorem WF{n:Nat}(h:n<16):ibOr .u8 224 (wu8 (n:Int))=((224+n:Nat):Int):=by
 have: ∀m:Nat,m<16->ibOr .u8 224 (wu8 ((m:Nat):Int))=((224+m:Nat):Int):=by decide+kernel
 exact this n h
theorem iW{n:Nat}(h:n<8):ibOr .u8 240 (wu8 (n:Int))=((240+n:Nat):Int):=by
 have: ∀m:Nat,m<8->ibOr .u8 240 (wu8 ((m:Nat):Int))=((240+m:Nat):Int):=by decide+kernel
 exact this n h
theorem ah{n m:Nat}(h:n+m<=2000000000):Zb n m 1=true:=by unfold Zb;exact La (by omega)
theorem EW{n:Nat}(h0:n≠0)(h:n<16777216){l:Str}(hl:l.length<=1000000000):ZU (w32 (n:Int),l)=some (l++Uh n):=by
 have a1:Zb l.length 1 1=true:=ah (by omega);have a2:Zb l.length 2 1=true:=ah (by omega);have a3:Zb l.length 3 1=true:=ah (by omega);have a4:Zb l.length 4 1=true:=ah (by omega);have a80:(128+n%64)<256:=by omega
 have m80:(128+n / 64%64)<256:=by omega
 have k80:(128+n / 4096%64)<256:=by omega
 unfold ZU ZZ Uh;simp only[Kn (show n<2147483648 by omega),BO (show n<2147483648 by omega),ze,shr6,CW,yV,NP,Zw a80,Zw m80,Zw k80,Aa];by_cases h1:n<128
 ·rw[La (by omega),Ja,Dx,Zw (by omega),Aa,zy a1,Ga (by omega),Ka h1,Ig (by omega)]
 ·rw[Ib (by omega),Ha];by_cases h2:n<2048
  ·rw[La (by omega),Ja,jW (by omega),Zw (by omega)];simp only[Aa];rw[zy a2,Ga (by omega),Ga (by omega),Ka h2];rfl
  ·rw[Ib (by omega),Ha];by_cases h3:n<55296
   ·rw[La (by omega),Ja,zh];simp only[Ja];rw[WF (by omega),Zw (by omega)];simp only[Aa];rw[zy a3,Ga (by omega),Ga (by omega),Ga (by omega),Ka (by omega)];rfl
   ·rw[Ib (by omega),Ha,zh];simp only[YX];by_cases h4:57343<n/\n<65536
    ·rw[La (by omega),La (by omega),Xc,Ja,WF (by omega),Zw (by omega)];simp only[Aa];rw[zy a3,Ga (by omega),Ga (by omega),Ga (by omega),Ka (by omega)];rfl
    ·rw[show(decide ((57343:Int)<(n:Int))&&decide ((n:Int)<=65535))=false by rw[Fg];simp only[Nf];omega,Ha];by_cases h5:65535<n/\n<=1114111
     ·rw[La (by omega),La (by omega),Xc,Ja,iW (by omega),Zw (by omega)];simp only[Aa];rw[zy a4,Ga (by omega),Ga (by omega),Ga (by omega),Ga (by omega)];rfl
     ·rw[show(decide ((n:Int)>65535)&&decide ((n:Int)<=1114111))=false by rw[Fg];simp only[Nf];omega,Ha,zy a3,Ka (by omega)];rfl
theorem rP{l:Str}(hl:l.length<=1000000000):ZU (65533,l)=some (l++dm):=by have h:=EW (n:=65533) (by omega) (by omega) hl;rw[Kn (by omega)]at h;exact h
theorem uj{s:Str}{c:UInt8}{l:Str}(h:c::l<:+s):l<:+s:=(Te c l).trans h
theorem Ji{s:Str}{c:UInt8}{l:Str}(hs:s.length<=big)(h:c::l<:+s):w64 ((beh s (c::l):Int)+1)=(beh s l:Int):=by
 have hb:big=4194304:=rfl;have h1:=h.length_le;rw[Ia]at h1;have e:beh s (c::l)+1=beh s l:=by unfold beh;rw[Ia];omega
 have:=Uk s l;rw[Za (by omega) (by omega)];omega
theorem Rp(c:UInt8)(l:Str):pk (c::l) 0=(c.toNat:Int):=rfl
theorem Ny(c:UInt8):Zv (wu8 ((c.toNat:Nat):Int))=some c:=by rw[Dx,Ig (Ob c),Zw (Ob c),Uc]
theorem AC{b:UInt8}(h:Qb b=true):hexN b<16:=Kc h
theorem pW{n d:Nat}(hn:n<16777216)(hd:d<16):ibOr .i64 (Gv .i64 (n:Int) 4) (d:Int)=((16*n+d:Nat):Int):=by
 have h1:Gv .i64 (n:Int) 4=((16*n:Nat):Int):=by unfold Gv;rw[show(2:Int) ^ (min (4:Int).toNat IntKind.i64.bits)=16 from rfl];rw[Gm (by omega) (by omega)];omega
 rw[h1];unfold ibOr;have e:(BitVec.ofInt IntKind.i64.bits ((16*n:Nat):Int) ||| BitVec.ofInt IntKind.i64.bits (d:Int)).toNat=16*n+d:=by
  rw[BitVec.toNat_or,BitVec.toNat_ofInt,BitVec.toNat_ofInt];rw[show((((16*n:Nat):Int)%((2 ^ IntKind.i64.bits:Nat):Int)).toNat)=16*n by show(((16*n:Nat):Int)%18446744073709551616).toNat=_;omega,
   show(((d:Int)%((2 ^ IntKind.i64.bits:Nat):Int)).toNat)=d by show((d:Int)%18446744073709551616).toNat=_;omega]
  have:=Nat.two_pow_add_eq_or_of_lt (i:=4) (b:=d) hd n;rw[show 2 ^ 4*n=16*n from rfl]at this;exact this.symm
 rw[e,Gm (by omega) (by omega)]
theorem wC(b:UInt8):decide (hexI b<0)= !Qb b:=by
 unfold hexI;cases Qb b with
 |true=>simp only[Wd];exact Ib (by omega)
 |false=>rfl
theorem vG: ∀(k n:Nat) (l:Str),Qb (atS l 0)=false->hexes k n l=(n,l)
 |0,_,_,_=>rfl
 |_+1,_,[],_=>rfl
 |k+1,n,c::r,h=>by unfold hexes;rw[Ga (by rw[show Qb c=false from h];decide)]
theorem vO {R:Type} {step:(Int×Int)×za->Option (LO ((Int×Int)×za) (Int×za) R)} {s l:Str} (hl:l<:+s)
  (h: ∀(n i:Nat) (q:Str),q<:+s->n<16777216->i<=6->step (((n:Int),(i:Int)),sr s q)=some (bif decide (i<6)&&Qb (atS q 0)then .again ((((16*n+hexN (atS q 0):Nat):Int),((i+1:Nat):Int)),sr s (q.drop 1))else .out ((n:Int),sr s q))):
  Nh step ((0,0),sr s l)=some (.out (((hexes 6 0 l).1:Int),sr s (hexes 6 0 l).2)):=by
 refine Qj (fun z=> ∃(n i:Nat) (q:Str),z=(((n:Int),(i:Int)),sr s q)/\q<:+s/\i<=6/\n<16 ^ i/\hexes (6 - i) n q=hexes 6 0 l) (fun z=>6 - z.1.2.toNat) _ ?_ ⟨0,0,l,rfl,hl,by omega,by decide,rfl⟩;rintro _ ⟨n,i,q,rfl,hq,hi,hn,he⟩;have hn':n<16777216:=Jc hn (Nat.pow_le_pow_right (by omega) hi:16 ^ i<=16 ^ 6);rw[h n i q hq hn' hi];rcases Sc i 6 with hlt|hge
 ·rw[La hlt,Xb];cases hx:Qb (atS q 0)with
  |true=>
   cases q with
   |nil=>exact absurd hx (by decide)
   |cons c r=>
    have hd:=AC hx;refine .inl ⟨_,rfl,⟨16*n+hexN (atS (c::r) 0),i+1,r,rfl,uj hq,by omega,?_,?_⟩,by simp only[Bc];omega⟩
    ·rw[Nat.pow_succ];omega
    ·rw[<-he,show 6 - i=(6 - (i+1))+1 by omega];rw[hexes.eq_def ((6 - (i+1))+1) n (c::r)];simp only;rw[Ka (show Qb c=true from hx)];rfl
  |false=> refine .inr (.inl ⟨_,rfl,?_⟩);rw[<-he,vG _ _ _ hx]
 ·rw[Ib (by omega),Yc];refine .inr (.inl ⟨_,rfl,?_⟩);rw[<-he,show 6 - i=0 by omega];rfl
theorem xH: ∀(k n:Nat) (l:Str),(hexes k n l).1<16 ^ k*(n+1)
 |0,n,l=>by unfold hexes;omega
 |k+1,n,[]=>by have:0<16 ^ (k+1):=xg (by omega);unfold hexes;exact Jc (Cc n) (Nat.le_mul_of_pos_left _ this)
 |k+1,n,c::r=>by
  unfold hexes;cases hx:Qb c with
  |true=> rw[Ka rfl];have h1:=xH k (16*n+hexN c) r;have:=AC hx;refine Jc h1 ?_;rw[Nat.pow_succ,og];exact Jh _ (by omega)
  |false=> rw[Ga (by decide)];have:0<16 ^ (k+1):=xg (by omega);exact Jc (Cc n) (Nat.le_mul_of_pos_left _ this)
theorem XI{s l acc:Str}{c:UInt8}(hs:s.length<=big)(hr:c::l<:+s)(ha:acc.length<=1000000000):
  zN (sr s (c::l),acc)=some (sr s (zq l).2,acc++(zq l).1):=by
 have hl:=uj hr;unfold zN;simp only[Ji hs hr,ze,Wh hs hl,Aa,Dp];cases l with
 |nil=> rw[show([]:Str).isEmpty=true from rfl,Ja,rP ha];rfl
 |cons d r=>
  rw[show(d::r).isEmpty=false from rfl,Ha,dF];simp only[Aa,wC];cases hx:Qb (atS (d::r) 0)with
  |false=>
   rw[Ec,Ja,Rp,Ny];simp only[Aa,Ji hs hl];rw[zy (ah (by omega))];have:zq (d::r)=([d],r):=by show(if Qb d then _ else _)=_;rw[Ga (by rw[show Qb d=false from hx];decide)]
   rw[this]
  |true=>
   rw[Oc,Ha];have he:zq (d::r)=(Uh (hexes 6 0 (d::r)).1,unsp (hexes 6 0 (d::r)).2):=by show(if Qb d then _ else _)=_;rw[Ka (show Qb d=true from hx)]
   rw[he];rw[Qk (vO (l:=d::r) hl (fun n i q hq hn hi=> ?_))]
   ·have hq:(hexes 6 0 (d::r)).2<:+s:=(gD 6 0 _).trans hl;have hlt:=xH 6 0 (d::r);rw[show 16 ^ 6*(0+1)=16777216 from rfl]at hlt;simp only[Wh hs hq,Aa,uw];have hj:(bif spB (atS (hexes 6 0 (d::r)).2 0)then some (LX.out (((hexes 6 0 (d::r)).1:Int),(⟨s,w64 ((beh s (hexes 6 0 (d::r)).2:Int)+1)⟩:za),acc))else some (LX.out (((hexes 6 0 (d::r)).1:Int),sr s (hexes 6 0 (d::r)).2,acc)):Option (LX (Int×za×List UInt8) (za×List UInt8)))
      =some (LX.out (((hexes 6 0 (d::r)).1:Int),sr s (unsp (hexes 6 0 (d::r)).2),acc)):=by
     cases hh:(hexes 6 0 (d::r)).2 with
     |nil=>rfl
     |cons e t=> rw[hh]at hq;rw[show atS (e::t) 0=e from rfl,Ji hs hq];show _=some (LX.out (_,sr s (if spB e then t else e::t),acc));cases spB e<;>rfl
    rw[hj,zh];simp only;by_cases h0:(hexes 6 0 (d::r)).1=0
    ·rw[h0,show((((0:Nat):Int))==0)=true from rfl,Ja,zh];simp only[Kn (show 65533<2147483648 by omega),show w32 (65533:Int)=65533 from Kn (n:=65533) (by omega),rP ha,Aa];rfl
    ·rw[show(((hexes 6 0 (d::r)).1:Int)==0)=false by rw[Fa];omega,Ha,zh];simp only[EW h0 hlt ha,Aa]
   ·simp only[Wh hs hq,Aa,dF,wC];have hb6:decide ((i:Int)<6)=decide (i<6):=by rw[jf];omega
    rw[hb6];cases decide (i<6)with
    |false=>rfl
    |true=>
     rw[Ja,Xb];cases hx2:Qb (atS q 0)with
     |false=>rfl
     |true=>
      cases q with
      |nil=>exact absurd hx2 (by decide)
      |cons e t=>
       have hI:hexI (atS (e::t) 0)=(hexN (atS (e::t) 0):Int):=by unfold hexI;rw[Ka hx2]
       rw[hI,pW hn (AC hx2),Ji hs hq,Za (by omega) (by omega)];rfl
theorem zB4{s r:Str}{k:Nat}(hs:s.length<=big)(hr:r<:+s)(hk:k<=4):zt ((k:Int),sr s r)=some (escS (r.drop k)&&decide (k<r.length)):=by
 unfold zt;simp only[ze,Uo hs hr (show k<=8 by omega),Aa,IW];rw[show w64 ((k:Int)+1)=((k+1:Nat):Int) by rw[Za (by omega) (by omega)];omega,Uo hs hr (by omega)];unfold escS;rw[Qy,Qy,Xd];cases h:(atS r k==92)with
 |false=>simp only[zu,Ha,Aa,Yc]
 |true=> have hlt:k<r.length:=xq (by rw[Lb.1 h];decide);rw[La hlt];simp only[zu,Ja,Aa,Xb,Xc];unfold bne;rw[UL]
theorem zB3{l:Str}(h:escS l=true):0<l.length:=by unfold escS at h;rw[Da]at h;exact xq (by rw[Lb.1 h.1];decide)
theorem DD{s r:Str}{k:Nat}(hs:s.length<=big)(hr:r<:+s)(hk:k<=4):zt ((k:Int),sr s r)=some (escS (r.drop k)):=by
 rw[zB4 hs hr hk];cases h:escS (r.drop k)with
 |false=>rfl
 |true=> have:=zB3 h;rw[Dc]at this;rw[La (by omega)];rfl
theorem FI{s r:Str}(hs:s.length<=big)(hr:r<:+s):zt (0,sr s r)=some (escS r):=DD (k:=0) hs hr (by omega)
theorem FL{s r:Str}{k:Nat}(hs:s.length<=big)(hr:r<:+s)(hk:k<=2):zD ((k:Int),sr s r)=some (nmS (r.drop k)):=by
 unfold zD;have hk1:w64 ((k:Int)+1)=((k+1:Nat):Int):=by rw[Za (by omega) (by omega)];omega
 simp only[hk1,ze,Uo hs hr (show k<=8 by omega),Uo hs hr (show k+1<=8 by omega),Aa,zC3,DD hs hr (show k<=4 by omega),DD hs hr (show k+1<=4 by omega)];unfold nmS;rw[Qy,Qy,Tf];unfold bne;rw[Sv,Xd];cases atS r k==45 with
 |true=>
  simp only[Oc,Ha,Wd];cases fstB (atS r (k+1))with
  |true=>rfl
  |false=> simp only[Ec,zu,Ja,Ha,Aa,Sv];cases atS r (k+1)==45<;>cases escS (r.drop (k+1))<;>rfl
 |false=> simp only[Ec,Ja];cases fstB (atS r k)<;>cases escS (r.drop k)<;>rfl
theorem zAV(n:Nat):(Uh n).length<=4:=by
 unfold Uh dm
 repeat' split
 all_goals simp
theorem Ju(l:Str):(zq l).1.length<=4:=by
 cases l with
 |nil=>show dm.length<=4;decide
 |cons c r=>
  show(if Qb c then(Uh (hexes 6 0 (c::r)).1,unsp (hexes 6 0 (c::r)).2)else([c],r)).1.length<=4;split
  ·exact zAV _
  ·show 1<=4;omega
theorem zG(c:UInt8)(r:Str):zm (c::r)=if letB c then((c::(zm r).1),(zm r).2)
  else if escS (c::r)then((zq r).1++(zm (zq r).2).1,(zm (zq r).2).2)
  else([],c::r):=by rw[zm]
theorem qN:zm []=([],[]):=by rw[zm]
theorem zEb(l:Str):(pk l 0 != -1)= !l.isEmpty:=by unfold bne;rw[Dp]
theorem bF{s r:Str}(hs:s.length<=big)(hr:r<:+s):zL (sr s r)=some ((zm r).1,sr s (zm r).2):=by
 have hb:big=4194304:=rfl;unfold zL;refine lI (r:=((zm r).1,sr s (zm r).2)) ?_;refine Qj (fun z=> ∃(q acc:Str),z=(sr s q,acc)/\q<:+s/\acc.length+4*q.length<=4*s.length/\acc++(zm q).1=(zm r).1/\(zm q).2=(zm r).2) (fun z=>s.length - z.1.at_.toNat) _ ?_ ⟨r,[],rfl,hr,by have:=hr.length_le;rw[Lc];omega,rfl,rfl⟩;rintro _ ⟨q,acc,rfl,hq,hl,he1,he2⟩;simp only[ze,Wh hs hq,Aa,jN];cases q with
 |nil=> refine .inr (.inr ⟨_,rfl,?_⟩);rw[qN]at he1 he2;rw[<-he1,<-he2,Ab]
 |cons c t=>
  have hlen:=hq.length_le;rw[Ia]at hlen hl;rw[show atS (c::t) 0=c from rfl];rw[zG]at he1 he2;cases hlet:letB c with
  |true=>
   rw[hlet,Ka rfl]at he1 he2;refine .inl ⟨(sr s t,acc++[c]),?_,⟨t,acc++[c],rfl,uj hq,by rw[Ba,Eb];omega,by rw[<-he1,Ra];rfl,he2⟩,?_⟩
   ·rw[Ja,Rp,Ny];simp only[Aa];rw[zy (ah (by omega)),Ji hs hq]
   ·show s.length - beh s t<s.length - beh s (c::t);unfold beh;rw[Ia];omega
  |false=>
   rw[hlet,Ga (by decide)]at he1 he2;rw[Ha,zEb,show(c::t).isEmpty=false from rfl,FI hs hq];cases hesc:escS (c::t)with
   |true=>
    rw[hesc,Ka rfl]at he1 he2;have h4:=Ju t;have h5:=zP t;refine .inl ⟨(sr s (zq t).2,acc++(zq t).1),?_,⟨_,_,rfl,(ZO t).trans (uj hq),by rw[Ba];omega,by rw[<-he1,Ra],he2⟩,?_⟩
    ·simp only[Ec,zu,Ja,Aa,XI hs hq (show acc.length<=1000000000 by omega)]
    ·show s.length - beh s (zq t).2<s.length - beh s (c::t);unfold beh;rw[Ia];omega
   |false=> rw[hesc,Ga (by decide)]at he1 he2;refine .inr (.inr ⟨_,rfl,?_⟩);rw[<-he1,<-he2,Ab]
theorem Ml(l:Str):(zm l).2<:+l:=by
 match l with
 |[]=>rw[qN];exact Ae _
 |c::r=>
  rw[zG];split
  ·exact(Ml r).trans (Te c r)
  ·split
   ·have:=zP r;exact(Ml (zq r).2).trans ((ZO r).trans (Te c r))
   ·exact Ae _
termination_by l.length
decreasing_by
 all_goals first|(have:=zP r;simp only[Ia];omega)|(simp only[Ia];omega)
end Go.Lv.VT
