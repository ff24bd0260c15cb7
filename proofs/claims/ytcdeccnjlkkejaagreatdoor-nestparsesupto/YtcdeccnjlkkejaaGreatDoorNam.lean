/- Tokens that can be written: the program's check. -/
import Derived.Test.YtcdeccnjlkkejaaGreatDoorLaw
set_option linter.unusedSimpArgs false
set_option linter.unusedVariables false
namespace Go.Lv.VT
theorem zFE(g d:Bool)(b c:UInt8):(bif g then namN (bif g then b else c).toNat else d)=bif g then namN b.toNat else d:=by cases g<;>rfl
theorem zrB{x:zb}(h1:x.text.length<=big)(h2:x.unit.length<=big):BA x=some (ig x):=by
 unfold BA;rw[zl (Zf.2 (by unfold big at h1 h2;omega))];simp only[ze,yF,Aa];have hn:decide (Lib.indexByte (x.text++x.unit) (0:Int).toNat.toUInt8<0)=(Zz x.text&&Zz x.unit):=by rw[zD7,zDW,zsb,Bool.not_not]
 simp only[hn,OX,Aw,Q5,Aa,ge_iff_le,bne];have hb:=zBF x.text;unfold ig rngS;by_cases k9:x.kind=9
 ·simp only[k9,Int.reduceBEq,Da,Ca,zh,Nf,Od];cases ht:x.text with
  |nil=>
   have:Zz ([]:Str)=true:=rfl;simp only[this,Xb];cases Zz x.unit<;>rfl
  |cons b r=>
   cases r with
   |nil=>
    have hd:=zAW b;have e1:((([b]:Str).length:Int)==1)=true:=rfl;have e2:geti [b] 0=some b:=rfl;have e3:(([b]:Str)==[45])=(b==45):=by show((b==45)&&true)=_;rw[Oc]
    have e4:Zz [b]= !(b==0):=by show((!(b==0))&&true)=_;rw[Oc]
    have e5:delS [b]=si b.toNat:=rfl;simp only[e1,e2,e3,e4,e5,znG,pV,Q5,Aa,zFE,<-hd];cases hu:x.unit with
    |nil=>
     have:Zz ([]:Str)=true:=rfl;simp only[this,Oc];generalize (Nu.any fun c=>c==b)=a1;cases namN b.toNat<;>cases (b==0)<;>cases (b==45)<;>cases a1<;>cases (x.num==0)<;>cases x.flag<;>rfl
    |cons c s=> have:((c::s:Str)==[])=false:=rfl;simp only[this];generalize Zz (c::s)=a2;generalize (Nu.any fun c=>c==b)=a1;cases a2<;>cases namN b.toNat<;>cases (b==0)<;>cases (b==45)<;>cases a1<;>cases (x.num==0)<;>cases x.flag<;>rfl
   |cons c r=>
    have e1:(((b::c::r:Str).length:Int)==1)=false:=Ia.2 (by simp only[Fa];omega);have e3:((b::c::r:Str)==[45])=false:=by show((b==45)&&false)=_;rw[Pe]
    have e5:delS (b::c::r)=false:=rfl;simp only[e1,e3,e5];cases (Zz (b::c::r)&&Zz x.unit)<;>rfl
 have b9:=Ia.2 k9;have hu:(x.unit==[])=true->Zz x.unit=true:=fun h=>by rw[Jb]at h;rw[h];rfl
 have htx:(x.text==[])=true->Zz x.text=true:=fun h=>by rw[Jb]at h;rw[h];rfl
 rw[<-hb];generalize hl45:(x.text==[45])=a11 at*;generalize (List.isPrefixOf [45,45] x.text)=a12 at*;generalize numS x.text=a3 at*;generalize Zz x.text=a1 at*;generalize Zz x.unit=a2 at*;generalize (x.text==[])=a4 at*;generalize (x.unit==[])=a5 at*;generalize (x.num==0)=a6 at*;generalize x.flag=a7 at*;generalize decide (-1000000000000<=x.num)=a8 at*;generalize decide (x.num<=1000000000000)=a9 at*;generalize (Int.tmod x.num 1000==0)=a10 at*;clear hb hn hl45;have K: ∀k:Int,k∈[1,2,3,4,5,7,10,11,12]->x.kind=k->True:=fun _ _ _=>trivial;clear K;by_cases k1:x.kind=1
 ·simp only[k1,zh,Da,Ca,Int.reduceBEq];cases a1<;>cases a2<;>cases a4<;>cases a5<;>cases a6<;>cases a7<;>first|rfl|(simp at hu htx;done)|simp_all
 by_cases k2:x.kind=2
 ·simp only[k2,zh,Da,Ca,Int.reduceBEq];cases a1<;>cases a2<;>cases a4<;>cases a5<;>cases a6<;>cases a7<;>first|rfl|(simp at hu htx;done)|simp_all
 by_cases k3:x.kind=3
 ·simp only[k3,zh,Da,Ca,Int.reduceBEq];cases a1<;>cases a2<;>cases a4<;>cases a5<;>cases a6<;>cases a7<;>first|rfl|(simp at hu htx;done)|simp_all
 by_cases k4:x.kind=4
 ·simp only[k4,zh,Da,Ca,Int.reduceBEq];cases a1<;>cases a2<;>cases a3<;>cases a4<;>cases a5<;>cases a6<;>cases a7<;>cases a11<;>cases a12<;>first|rfl|(simp at hu htx;done)|simp_all
 by_cases k5:x.kind=5
 ·simp only[k5,zh,Da,Ca,Int.reduceBEq];cases a1<;>cases a2<;>cases a5<;>cases a6<;>cases a7<;>first|rfl|(simp at hu htx;done)|simp_all
 by_cases k7:x.kind=7
 ·simp only[k7,zh,Da,Ca,Int.reduceBEq];cases a1<;>cases a2<;>cases a5<;>cases a6<;>cases a7<;>first|rfl|(simp at hu htx;done)|simp_all
 by_cases k10:x.kind=10
 ·simp only[k10,zh,Da,Ca,Int.reduceBEq];cases a1<;>cases a2<;>cases a4<;>cases a5<;>cases a7<;>cases a8<;>cases a9<;>cases a10<;>first|rfl|(simp at hu htx;done)|simp_all
 by_cases k11:x.kind=11
 ·simp only[k11,zh,Da,Ca,Int.reduceBEq];cases a1<;>cases a2<;>cases a4<;>cases a5<;>cases a7<;>cases a8<;>cases a9<;>cases a10<;>first|rfl|(simp at hu htx;done)|simp_all
 by_cases k12:x.kind=12
 ·simp only[k12,zh,Da,Ca,Int.reduceBEq];cases a1<;>cases a2<;>cases a4<;>cases a5<;>cases a7<;>cases a8<;>cases a9<;>cases a10<;>first|rfl|(simp at hu htx;done)|simp_all
 simp only[b9,Ia.2 k1,Ia.2 k2,Ia.2 k3,Ia.2 k4,Ia.2 k5,Ia.2 k7,Ia.2 k10,Ia.2 k11,Ia.2 k12,zh,Da,Ca,Bool.or_self];cases decide (13<=x.kind)<;>cases decide (x.kind<=24)<;>cases a4<;>cases a5<;>cases a6<;>cases a7<;>rfl
theorem aU {R:Type} {step:Int->Option (LO Int Unit R)} {k:Unit->Option R} (n:Nat) (p:Nat->Bool) (r:R)
  (hg: ∀(i:Nat),i<n->step (i:Int)=some (bif p i then .again ((i+1:Nat):Int)else .ret r)) (hf:step (n:Int)=some (.out ())):
  Zi step 0 k=bif (List.range n).all p then k ()else some r:=by
 have e:=OU (k:=k) (List.range n) (fun i=>bif p i then none else some r) () (fun i hi=> ?_) (by simpa using hf)
 ·rw[e,WJ];cases (List.range n).all p<;>rfl
 ·have hi':i<n:=by simpa using hi
  rw[hg i hi'];simp only[List.getElem_range];cases p i<;>rfl
def Om:List zb->Bool
 |[]=>false
 |s::r=>bif s.kind==13 then(match r with|u::_=>u.kind==5|[]=>false)else s.kind==5
def Oi:List zb->Bool
 |[]=>false
 |s::_=>s.kind==13
def Lh(t:zb):Bool:=t.kind==2&&lowS t.text==[117,114,108]
def okAt:List zb->Bool
 |[]=>true
 |t::r=>(!(t.kind==9&&t.text==[92])||Oi r)&&(!(Lh t)||Om r)
def Sm(l:List zb)(i:Nat):Bool:=ig (l.getD i default)&&okAt (l.drop i)
def gluS(l:List zb):Int:=bif decide (l.length<=1500)then(bif (List.range l.length).all (Sm l)then 0 else 8)else 4
theorem pu(l:List zb)(i:Nat)(k:Int):ZX (((i:Int),k),l)=some (match l[i]? with|some t=>t.kind==k|none=>false):=by
 unfold ZX;by_cases h:i<l.length
 ·simp only[Xi h,zH,qA h,ze,Aa,Da,Ma h]
 ·have e:decide ((i:Int)<(l.length:Int))=false:=Xa (by omega);simp only[e,zO,ze,Aa,Ca,yg (Nat.le_of_not_lt h)]
theorem Yu:lowS [117,114,108]=[117,114,108]:=by decide
theorem zps{t:zb}{r:List zb}(h:t.text.length<=big): ∃n:Int,Q6 (t::r)=some n/\(n==0)= !okAt (t::r):=by
 have e0:geti (t::r) 0=some t:=rfl;have p1:=pu (t::r) 1 13;have p15:=pu (t::r) 1 5;have p25:=pu (t::r) 2 5;unfold Q6;simp only[e0,ze,Aa,XL h (show([117,114,108]:Str).length<=big by decide),Yu,Q5];simp only[Int.natCast_one]at p1 p15;replace p25:ZX ((2,5),t::r)=_:=p25;rw[p1];unfold okAt Lh;cases hd:(t.kind==9&&t.text==[92])with
 |true=>
  have hk:t.kind=9:=by rw[Ga,Jb]at hd;exact hd.1
  have ht:(t.text==[92])=true:=by rw[Ga]at hd;exact hd.2
  simp only[hk,ht,Int.reduceBEq,Da,Ca,Aa];cases r with
  |nil=>exact⟨_,rfl,rfl⟩
  |cons s r=>
   show∃n:Int,(bif !(s.kind==13)then some 0 else some 2)=some n/\(n==0)= !((!true||s.kind==13)&&_);cases s.kind==13
   ·exact⟨0,rfl,rfl⟩
   ·exact⟨2,rfl,rfl⟩
 |false=>
  have hc:(bif t.kind==9 then t.text==[92]else false)=false:=by
   cases h9:t.kind==9
   ·rfl
   ·rw[h9]at hd;exact hd
  simp only[hc,hd,Ca,Lb,xe,Xb];cases hu:(t.kind==2&&lowS t.text==[117,114,108])with
  |false=>
   have:(bif t.kind==2 then bif t.kind==2 then lowS t.text==[117,114,108]else default else false)=false:=by
    cases h2:t.kind==2
    ·rfl
    ·rw[h2]at hu;exact hu
   rw[this];exact⟨1,rfl,rfl⟩
  |true=>
   rw[Ga]at hu;rw[hu.1,hu.2];simp only[Da,Aa];cases r with
   |nil=>exact⟨0,by simp[p15],rfl⟩
   |cons s r=>
    cases hs:s.kind==13 with
    |false=>
     have e1:(match(t::s::r)[1]? with|some t=>t.kind==13|none=>false)=false:=hs;have e5:ZX ((1,5),t::s::r)=some (s.kind==5):=p15;simp only[e1,Ca,zh,e5,Aa,Om,hs];cases s.kind==5
     ·exact⟨0,rfl,rfl⟩
     ·exact⟨2,by rfl,rfl⟩
    |true=>
     have e1:(match(t::s::r)[1]? with|some t=>t.kind==13|none=>false)=true:=hs;simp only[e1,Da,zh,p25,Aa,Om,hs];cases r with
     |nil=>exact⟨0,rfl,rfl⟩
     |cons u r=>
      show∃n:Int,(bif !(u.kind==5)then some 0 else some (w64 (2+1)))=some n/\(n==0)= !(!true||u.kind==5);cases u.kind==5
      ·exact⟨0,rfl,rfl⟩
      ·exact⟨3,rfl,rfl⟩
theorem bT(l:List zb):decide ((l.length:Int)>1500)= !decide (l.length<=1500):=zFx _ 1500
theorem zpr{l:List zb}(h: ∀t∈l,t.text.length<=big/\t.unit.length<=big):WA l=some (gluS l):=by
 unfold WA gluS;rw[bT];cases hl:decide (l.length<=1500)with
 |false=>rfl
 |true=>
  have hl:=Dc hl;simp only[Yb,Ca,Da];refine(aU l.length (Sm l) 8 (fun i hi=> ?_) ?_).trans ?_
  ·obtain⟨g1,g2⟩:=h _ (De hi);have hgd:l.getD i default=l[i]:=by simp[hi]
   have hdr:=Rb hi;obtain⟨n,e1,e2⟩:=zps (t:=l[i]) (r:=l.drop (i+1)) g1;rw[<-hdr]at e1 e2;have e3:decide ((i:Int)<=(l.length:Int))=true:=Ha (by omega);unfold Sm;simp only[Xi hi,Da,qA hi,ze,Aa,zrB g1 g2,Gx,e3,Xb,xe,Zr,Ua,e1,Q5,qj hi (show l.length<=big by unfold big;omega),hgd];cases ig l[i]with
   |false=>rfl
   |true=> simp only[Yb,Lb,Da,Ca,e2,Xb];cases okAt (l.drop i)<;>rfl
  ·simp only[Nj,Ca]
  ·cases (List.range l.length).all (Sm l)<;>rfl
theorem pK{α:Type}{l:List α}{i:Nat}{s:α}{r:List α}(h:l.drop i=s::r):i<l.length/\geti l (i:Int)=some s/\l.drop (i+1)=r:=by
 have hi:i<l.length:=by
  rcases Tc i l.length with h'|h'
  ·exact h'
  ·rw[Be h']at h;cases h
 rw[Rb hi]at h;injection h with h1 h2;exact⟨hi,by rw[qA hi,h1],h2⟩
theorem oK{α:Type}{l:List α}{i:Nat}(h:l.drop i=[])(hi:i<=l.length):i=l.length:=by have:=Jf.1 h;omega
theorem zCv{l:List zb}{i:Nat}(hi:i<l.length)(hl:l.length<=1500):
  Za (X:=Int) (R:=LX Unit (LO Int Unit Int)) (ze (zw (decide (((i+1:Nat):Int)<(l.length:Int))) (geti l ((i+1:Nat):Int)) (default:zb)) fun y7=>bif bif decide (((i+1:Nat):Int)<(l.length:Int))then y7.kind==13 else false then some (LX.out (w64 (((i+1:Nat):Int)+1)))else some (LX.out ((i+1:Nat):Int)))
   (fun j8=>ze (zw (!(decide (j8>=(l.length:Int)))) (geti l j8) (default:zb)) fun y9=>bif bif decide (j8>=(l.length:Int))then true else y9.kind != 5 then some (LX.ret (LO.ret 8))else some (LX.out ()))=bif Om (l.drop (i+1))then some (LX.out ())else some (LX.ret (LO.ret 8)):=by
 cases hr:l.drop (i+1)with
 |nil=> have he:=oK hr (by omega);have e1:decide (((i+1:Nat):Int)<(l.length:Int))=false:=Xa (by omega);have e2:decide (((i+1:Nat):Int)>=(l.length:Int))=true:=Ha (by omega);simp only[e1,e2,zO,ze,Aa,Ca,Da,zh,Yb,Om]
 |cons s r=>
  obtain⟨h1,h2,h3⟩:=pK hr;have e2:decide (((i+1:Nat):Int)>=(l.length:Int))=false:=Xa (by omega);have hw:w64 (((i+1:Nat):Int)+1)=((i+1+1:Nat):Int):=qj h1 (by unfold big;omega);simp only[Xi h1,zH,h2,ze,Aa,Da,hw,Om];cases hs:s.kind==13 with
  |false=>
   simp only[Ca,zh,e2,Lb,zH,h2,Aa,bne];cases s.kind==5<;>rfl
  |true=>
   simp only[Da,zh];cases r with
   |nil=> have he:=oK h3 (by omega);have e3:decide (((i+1+1:Nat):Int)>=(l.length:Int))=true:=Ha (by omega);simp only[e3,Yb,zO,Aa,Da,Ca]
   |cons u r=> obtain⟨g1,g2,g3⟩:=pK h3;have e3:decide (((i+1+1:Nat):Int)>=(l.length:Int))=false:=Xa (by omega);simp only[e3,Lb,zH,g2,Aa,Ca,bne];cases u.kind==5<;>rfl
theorem zAX{l:List zb}{i:Nat}(hi:i<l.length)(d:Bool)(A B:Option (LO Int Unit Int)):
  (ze (zw (!(((i+1:Nat):Int)==(l.length:Int))&&d) (geti l ((i+1:Nat):Int)) (default:zb)) fun y13=>bif bif d then bif ((i+1:Nat):Int)==(l.length:Int)then true else y13.kind != 13 else false then A else B)=bif !d||Oi (l.drop (i+1))then B else A:=by
 cases d with
 |false=>simp only[Pe,zO,ze,Aa,Ca,Lb,xe,Da]
 |true=>
  cases hr:l.drop (i+1)with
  |nil=> have he:=oK hr (by omega);have e1:(((i+1:Nat):Int)==(l.length:Int))=true:=Jb.2 (by omega);simp only[e1,Yb,Yc,zO,ze,Aa,Da,Oi,Bool.or_self,Ca]
  |cons s r=> obtain⟨h1,h2,h3⟩:=pK hr;have e1:(((i+1:Nat):Int)==(l.length:Int))=false:=Ia.2 (by omega);simp only[e1,Lb,Xb,zH,h2,ze,Aa,Da,Oi,Ca,Yb,Od,bne];cases s.kind==13<;>rfl
theorem zDk(b:Bool)(t u:zb)(p:zb->Bool):(bif b then p (bif b then t else u)else false)=(b&&p t):=by cases b<;>rfl
theorem zn3(hD:jD){l:List zb}(h: ∀t∈l,t.text.length<=big/\t.unit.length<=big):LB l=some (gluS l):=by
 unfold LB gluS;rw[bT];cases hl:decide (l.length<=1500)with
 |false=>rfl
 |true=>
  have hl:=Dc hl;simp only[Yb,Ca,Da];refine(aU l.length (Sm l) 8 (fun i hi=> ?_) ?_).trans ?_
  ·obtain⟨g1,g2⟩:=h _ (De hi);have hgd:l.getD i default=l[i]:=by simp[hi]
   have hdr:=Rb hi;have hw:w64 ((i:Int)+1)=((i+1:Nat):Int):=qj hi (by unfold big;omega);have hw2:w64 (((i+1:Nat):Int)+1)=((i+2:Nat):Int):=qj (n:=i+2) (by omega) (by unfold big;omega);unfold Sm;rw[hdr,hgd];simp only[Xi hi,Da,qA hi,ze,Aa,zqj hD g1 g2,hw];cases hf:ig l[i]with
   |false=>rfl
   |true=>
    simp only[Yb,Ca,Q5,Aa,Xb];have hu:=zCv hi hl;have hd:=zAX hi (l[i].kind==9&&l[i].text==[92]) (some (LO.ret 8)) (some (LO.again ((i+1:Nat):Int)));simp only[ze]at hu hd;have hlow:(bif l[i].kind==2 then bif l[i].kind==2 then lowS (bif l[i].kind==2 then l[i]else default).text==[117,114,108]else default else false)=Lh l[i]:=by unfold Lh;cases l[i].kind==2<;>rfl
    have ha:(zw (l[i].kind==2) (Qb ((bif l[i].kind==2 then l[i]else default).text,[117,114,108])) (default:Bool))=some (bif l[i].kind==2 then lowS (bif l[i].kind==2 then l[i]else default).text==[117,114,108]else default):=by
     cases h2:l[i].kind==2 with
     |false=>rfl
     |true=> show Qb (l[i].text,[117,114,108])=some (lowS l[i].text==[117,114,108]);rw[PK g1 (by decide),Yu]
    have hdl:(bif l[i].kind==9 then(bif l[i].kind==9 then l[i]else default).text==[92]else false)=(l[i].kind==9&&l[i].text==[92]):=zDk (l[i].kind==9) l[i] default fun t=>t.text==[92];simp only[ha,Aa,hlow,hdl,hu,okAt];cases Lh l[i]with
    |false=>
     simp only[Ca,zh,Lb,xe,Oc];refine hd.trans ?_;cases (!(l[i].kind==9&&l[i].text==[92])||Oi (l.drop (i+1)))<;>rfl
    |true=>
     simp only[Da,Yb,Od];cases Om (l.drop (i+1))with
     |false=>simp only[Ca,zrN,Pe]
     |true=> simp only[Da,zh,Oc];refine hd.trans ?_;cases (!(l[i].kind==9&&l[i].text==[92])||Oi (l.drop (i+1)))<;>rfl
  ·simp only[Nj,Ca]
  ·cases (List.range l.length).all (Sm l)<;>rfl
set_option maxRecDepth 100000
def partT(r:Nat)(p:Bool):Str:=bif (Si r).isEmpty then(bif p then [48]else [])else Si r
theorem Br{r:Nat}(h:r<1000)(p:Bool):(partT r p).all digB=true/\(partT r p).length<=3/\valG 0 (partT r p)*10 ^ (3 - (partT r p).length)=r/\jl r p=(bif (partT r p).isEmpty then []else 46::partT r p)/\((partT r p).isEmpty=((r==0)&& !p)):=by
 have hf:=YE r h;simp only[Xx,Ga,jb,Jb]at hf;obtain⟨⟨⟨⟨a,b⟩,c⟩,d⟩,e⟩:=hf;unfold partT jl;cases hE:(Si r).isEmpty with
 |true=>
  have hr:r=0:=by rw[hE]at d;exact Jb.1 d.symm
  subst hr;cases p<;>refine⟨by decide,by decide,by decide,rfl,rfl⟩
 |false=> rw[hE]at d;simp only[Ca];exact⟨a,b,c,by rw[hE,Ca],by rw[hE,<-d];rfl⟩
theorem CP{l:Str}(h:(l.all fun b=>digB b||b==46)=true):Di l=true:=by
 unfold Di;rw[ma]at h ⊢;intro b hb;have:=h b hb;refine Ha ?_;rw[Pd]at this;rcases this with h1|h1
 ·have:=Ur h1;omega
 ·rw[Jb.1 h1];decide
theorem BP{m:Nat}(p:Bool):((xg m p).all fun b=>digB b||b==46)=true:=by
 obtain⟨h1,_,_⟩:=bu (m / 1000);obtain⟨h2,_,_,h5,_⟩:=Br (r:=m%1000) (by omega) p;have hw: ∀l:Str,l.all digB=true->(l.all fun b=>digB b||b==46)=true:=by intro l hl;rw[ma]at hl ⊢;intro b hb;rw[hl b hb];rfl
 unfold xg;rw[Ig,hw _ h1,h5,Xb];cases (partT (m%1000) p).isEmpty with
 |true=>rfl
 |false=>rw[Ca,Sd,hw _ h2];rfl
theorem Sz(u:Nat): ∃c r,Lib.decDigits u=c::r/\digB c=true:=by
 obtain⟨h1,_,h3⟩:=bu u;cases h:Lib.decDigits u with
 |nil=>exact absurd h h3
 |cons c r=>rw[h,Sd,Ga]at h1;exact⟨c,r,rfl,h1.1⟩
theorem QB{c:UInt8}(h:digB c=true):c≠45/\c≠43/\c≠46/\c≠0/\List.contains [43,45] c=false:=by
 have: ∀n:Nat,n<256->digB (UInt8.ofNat n)=true->UInt8.ofNat n≠45/\UInt8.ofNat n≠43/\UInt8.ofNat n≠46/\UInt8.ofNat n≠0/\List.contains [43,45] (UInt8.ofNat n)=false:=by decide+kernel
 have:=this c.toNat (Ob c);rw[Mc]at this;exact this h
theorem zAQ{m:Nat}(p:Bool): ∃f,Lib.cut (xg m p) [46]=(Lib.decDigits (m / 1000),partT (m%1000) p,f):=by
 obtain⟨h1,_,_⟩:=bu (m / 1000);obtain⟨_,_,_,h5,_⟩:=Br (r:=m%1000) (by omega) p;unfold xg Lib.cut;rw[VF,h5];cases hp:(partT (m%1000) p).isEmpty with
 |true=> rw[Da,ja,YI _ h1,Ja (by decide)];exact⟨false,by rw[List.isEmpty_iff.1 hp]⟩
 |false=>
  rw[Ca,aI _ _ h1,La (by omega)];refine⟨true,?_⟩;rw[Ua,Ji,Va,show(Lib.decDigits (m / 1000)).length+1=(Lib.decDigits (m / 1000)++[46]).length by simp];have:Lib.decDigits (m / 1000)++46::partT (m%1000) p=(Lib.decDigits (m / 1000)++[46])++partT (m%1000) p:=by simp
  rw[this,List.drop_left]
theorem zn6{n:Int}(h1: -1000000000000<=n)(h2:n<=1000000000000)(p:Bool):qa (numT n p)=some n:=by
 obtain⟨m,hm⟩: ∃m:Nat,n.natAbs=m:=⟨_,rfl⟩;have hmle:m<=1000000000000:=by omega
 obtain⟨c,r,hc,hcd⟩:=Sz (m / 1000);obtain⟨nc45,nc43,_,_,ncc⟩:=QB hcd;have hbody:xg m p=c::(r++jl (m%1000) p):=by unfold xg;rw[hc];rfl
 have hlen:=gz hmle p;obtain⟨f,hcut⟩:=zAQ (m:=m) p;obtain⟨d1,d2,d3⟩:=bu (m / 1000);obtain⟨p1,p2,p3,p4,p5⟩:=Br (r:=m%1000) (by omega) p;have hdl:=EA (u:=m / 1000) (by omega);have hsh:short (xg m p)=true:=Ha (by omega);have hdrop:Lib.trimLeftS (xg m p) [43,45]=xg m p:=by rw[hbody];unfold Lib.trimLeftS;rw[Og,ncc];rfl
 have hT:Lib.trimLeftS (numT n p) [43,45]=xg m p:=by
  unfold numT;rw[hm];by_cases hn:n<0
  ·rw[La hn];show List.dropWhile _ (45::xg m p)=_;rw[Og];exact hdrop
  ·rw[Ja hn];exact hdrop
 have h0: ∃b,geti (numT n p) 0=some b/\(((b.toNat:Int)==45)=decide (n<0)):=by
  unfold numT;rw[hm];by_cases hn:n<0
  ·rw[La hn,Ha hn];exact⟨45,rfl,rfl⟩
  ·rw[Ja hn,Xa hn];refine⟨c,by rw[hbody];rfl,Ia.2 (fun e=>nc45 ?_)⟩;exact Vf.1 (by show c.toNat=45;omega)
 obtain⟨b,hb1,hb2⟩:=h0;unfold qa;simp only[ze,hb1,Aa];have t1:uk (numT n p,[43,45])=some (xg m p):=by unfold uk;rw[zl (show(short ([43,45]:Str)&&Di [43,45])=true by decide)];exact congrArg some hT
 have t2:Ul (xg m p,[101,69])=some (-1):=by unfold Ul;rw[zl (by simp only[hsh,CP (BP p),Oc,Xb];decide)];exact congrArg some (SI _ (BP p))
 have t3:cutF (xg m p,[46])=some (Lib.decDigits (m / 1000),partT (m%1000) p,f):=by unfold cutF;rw[zl (by exact hsh)];exact congrArg some hcut
 simp only[t1,t2,Aa,show decide ((-1:Int)>=0)=false from rfl,Ca,zh,t3];rw[zl (Zf.2 (by omega))];have hw:w64 (3 - ((partT (m%1000) p).length:Int))=((3 - (partT (m%1000) p).length:Nat):Int):=by rw[zJ (by omega) (by omega)];omega
 rw[hw,Xa (by omega),Ca,zh];simp only;have hml:maxLen=9223372036854775807:=rfl;rw[zl (Ha (by rw[Ba,hml];omega))];have hval:valG 0 (Lib.decDigits (m / 1000)++partT (m%1000) p)*10 ^ (3 - (partT (m%1000) p).length)=m:=by rw[kE,d2,Ky,Ee,p3,Pg,<-Nat.pow_add,show(partT (m%1000) p).length+(3 - (partT (m%1000) p).length)=3 by omega];omega
 have hvle:valG 0 (Lib.decDigits (m / 1000)++partT (m%1000) p)<=1000000000000:=by have:=Xe (valG 0 (Lib.decDigits (m / 1000)++partT (m%1000) p)) (Yg (n:=3 - (partT (m%1000) p).length) (show 0<10 by omega));omega
 rw[Zd (zCf (l:=Lib.decDigits (m / 1000)++partT (m%1000) p) (by rw[Ig,d1,p1];rfl) (by rw[Ba];omega) hvle (fun v i hi=> ?_) (fun v=> ?_))]
 ·rw[Zd (U6 (by omega) (by rw[hval];exact hmle) (fun a b=> ?_)),hval]
  ·rw[hb2];by_cases hn:n<0
   ·rw[Ha hn,Da,zh,zJ (by omega) (by omega)];congr 1;omega
   ·rw[Xa hn,Ca,zh];congr 1;omega
  ·simp only
 ·have e1:decide ((i:Int)<((Lib.decDigits (m / 1000)++partT (m%1000) p).length:Int))=true:=Ha (by omega);have e0:decide ((0:Int)<=(i:Int))=true:=Ha (by omega);simp only[e1,e0,Da,Oc,Zr,Ua,Ma hi,Aa]
 ·simp only;rw[Xa (by omega),Ca]
theorem zDg(n:Int)(p:Bool):(n<0/\numT n p=45::xg n.natAbs p)\/(¬n<0/\numT n p=xg n.natAbs p):=by
 unfold numT;by_cases h:n<0
 ·exact .inl ⟨h,by rw[La h];rfl⟩
 ·exact .inr ⟨h,by rw[Ja h];rfl⟩
theorem F6(m:Nat)(p:Bool): ∃c r,xg m p=c::r/\digB c=true:=by obtain⟨c,r,h,hd⟩:=Sz (m / 1000);exact⟨c,r++jl (m%1000) p,by unfold xg;rw[h];rfl,hd⟩
theorem Eo{n:Int}(h1: -1000000000000<=n)(h2:n<=1000000000000)(p:Bool):(numT n p).length<=25/\1<=(numT n p).length:=by
 have:=gz (m:=n.natAbs) (by omega) p;obtain⟨c,r,hb,_⟩:=F6 n.natAbs p;rcases zDg n p with⟨_,h⟩|⟨_,h⟩
 ·rw[h,Fa];omega
 ·rw[h];refine⟨by omega,?_⟩;rw[hb,Fa];omega
theorem ZB{n:Nat}(h:n<256):Z4 ((n:Nat):Int)=some (UInt8.ofNat n):=by unfold Z4;rw[Ha (by omega:(0:Int)<=(n:Int)),Ha (by omega:(n:Int)<=255)];rfl
theorem uH(n k:Nat)(hk:k<=32):Li .i32 (n:Int) (k:Int)=((n / 2 ^ k:Nat):Int):=by unfold Li;rw[show(min ((k:Int).toNat) IntKind.i32.bits)=k by show min k 32=k;omega];rw[Int.fdiv_eq_ediv_of_nonneg _ (Int.le_of_lt (Int.pow_pos (by decide)))];rw[Int.natCast_ediv,Int.natCast_pow];rfl
theorem shr6(n:Nat):Li .i32 (n:Int) 6=((n / 64:Nat):Int):=uH n 6 (by omega)
theorem GY(n:Nat):Li .i32 (n:Int) 12=((n / 4096:Nat):Int):=uH n 12 (by omega)
theorem FY(n:Nat):Li .i32 (n:Int) 18=((n / 262144:Nat):Int):=uH n 18 (by omega)
theorem zGr(n:Int):IntKind.u8.wrap n=n%256:=by simp[IntKind.wrap,IntKind.bits,IntKind.signed]
theorem zEX(n:Int):IntKind.u32.wrap n=n%4294967296:=by simp[IntKind.wrap,IntKind.bits,IntKind.signed]
theorem Po{n:Nat}(h:n<2147483648):w32 (n:Int)=(n:Int):=by show IntKind.i32.wrap _=_;simp only[IntKind.wrap,IntKind.bits,IntKind.signed];simp;omega
theorem OQ{n:Nat}(h:n<2147483648):wu32 (n:Int)=(n:Int):=by show IntKind.u32.wrap _=_;rw[zEX];omega
theorem cu(n:Nat):wu8 (n:Int)=((n%256:Nat):Int):=by show IntKind.u8.wrap (n:Int)=_;rw[zGr];omega
theorem aP(n:Nat):ibOr .u8 128 (Cj .u8 (wu8 (n:Int)) 63)=((128+n%64:Nat):Int):=by
 have: ∀m:Nat,m<256->ibOr .u8 128 (Cj .u8 ((m:Nat):Int) 63)=((128+m%64:Nat):Int):=by decide+kernel
 rw[cu,this _ (Nat.mod_lt _ (by omega)),show n%256%64=n%64 by omega]
theorem YY{n:Nat}(h:n<32):ibOr .u8 192 (wu8 (n:Int))=((192+n:Nat):Int):=by
 have: ∀m:Nat,m<32->ibOr .u8 192 (wu8 ((m:Nat):Int))=((192+m:Nat):Int):=by decide+kernel
 exact this n h
theorem uG{n:Nat}(h:n<16):ibOr .u8 224 (wu8 (n:Int))=((224+n:Nat):Int):=by
 have: ∀m:Nat,m<16->ibOr .u8 224 (wu8 ((m:Nat):Int))=((224+m:Nat):Int):=by decide+kernel
 exact this n h
theorem XY{n:Nat}(h:n<8):ibOr .u8 240 (wu8 (n:Int))=((240+n:Nat):Int):=by
 have: ∀m:Nat,m<8->ibOr .u8 240 (wu8 ((m:Nat):Int))=((240+m:Nat):Int):=by decide+kernel
 exact this n h
theorem xh{n m:Nat}(h:n+m<=2000000000):Zc n m 1=true:=by unfold Zc;exact Ha (by omega)
theorem jY{n:Nat}(h0:n≠0)(h:n<16777216){l:Str}(hl:l.length<=1000000000):qc (w32 (n:Int),l)=some (l++Nh n):=by
 have a1:Zc l.length 1 1=true:=xh (by omega);have a2:Zc l.length 2 1=true:=xh (by omega);have a3:Zc l.length 3 1=true:=xh (by omega);have a4:Zc l.length 4 1=true:=xh (by omega);have a80:(128+n%64)<256:=by omega
 have m80:(128+n / 64%64)<256:=by omega
 have k80:(128+n / 4096%64)<256:=by omega
 unfold qc qi Nh;simp only[Po (show n<2147483648 by omega),OQ (show n<2147483648 by omega),ze,shr6,GY,FY,aP,ZB a80,ZB m80,ZB k80,Aa];by_cases h1:n<128
 ·rw[Ha (by omega),Da,cu,ZB (by omega),Aa,zl a1,Ja (by omega),La h1,Cg (by omega)]
 ·rw[Xa (by omega),Ca];by_cases h2:n<2048
  ·rw[Ha (by omega),Da,YY (by omega),ZB (by omega)];simp only[Aa];rw[zl a2,Ja (by omega),Ja (by omega),La h2];rfl
  ·rw[Xa (by omega),Ca];by_cases h3:n<55296
   ·rw[Ha (by omega),Da,zh];simp only[Da];rw[uG (by omega),ZB (by omega)];simp only[Aa];rw[zl a3,Ja (by omega),Ja (by omega),Ja (by omega),La (by omega)];rfl
   ·rw[Xa (by omega),Ca,zh];simp only[VZ];by_cases h4:57343<n/\n<65536
    ·rw[Ha (by omega),Ha (by omega),Oc,Da,uG (by omega),ZB (by omega)];simp only[Aa];rw[zl a3,Ja (by omega),Ja (by omega),Ja (by omega),La (by omega)];rfl
    ·rw[show(decide ((57343:Int)<(n:Int))&&decide ((n:Int)<=65535))=false by rw[Kg];simp only[Ag];omega,Ca];by_cases h5:65535<n/\n<=1114111
     ·rw[Ha (by omega),Ha (by omega),Oc,Da,XY (by omega),ZB (by omega)];simp only[Aa];rw[zl a4,Ja (by omega),Ja (by omega),Ja (by omega),Ja (by omega)];rfl
     ·rw[show(decide ((n:Int)>65535)&&decide ((n:Int)<=1114111))=false by rw[Kg];simp only[Ag];omega,Ca,zl a3,La (by omega)];rfl
theorem FR{l:Str}(hl:l.length<=1000000000):qc (65533,l)=some (l++Wl):=by have h:=jY (n:=65533) (by omega) (by omega) hl;rw[Po (by omega)]at h;exact h
theorem Zb{s:Str}{c:UInt8}{l:Str}(h:c::l<:+s):l<:+s:=(He c l).trans h
theorem Pi{s:Str}{c:UInt8}{l:Str}(hs:s.length<=big)(h:c::l<:+s):w64 ((beh s (c::l):Int)+1)=(beh s l:Int):=by
 have hb:big=4194304:=rfl;have h1:=h.length_le;rw[Fa]at h1;have e:beh s (c::l)+1=beh s l:=by unfold beh;rw[Fa];omega
 have:=Ni s l;rw[zJ (by omega) (by omega)];omega
theorem Ar(c:UInt8)(l:Str):pk (c::l) 0=(c.toNat:Int):=rfl
theorem dz(c:UInt8):Z4 (wu8 ((c.toNat:Nat):Int))=some c:=by rw[cu,Cg (Ob c),ZB (Ob c),Mc]
theorem Cz{b:UInt8}(h:qL b=true):hexN b<16:=Dc h
theorem cZ{n d:Nat}(hn:n<16777216)(hd:d<16):ibOr .i64 (Sw .i64 (n:Int) 4) (d:Int)=((16*n+d:Nat):Int):=by
 have h1:Sw .i64 (n:Int) 4=((16*n:Nat):Int):=by unfold Sw;rw[show(2:Int) ^ (min (4:Int).toNat IntKind.i64.bits)=16 from rfl];rw[qw (by omega) (by omega)];omega
 rw[h1];unfold ibOr;have e:(BitVec.ofInt IntKind.i64.bits ((16*n:Nat):Int) ||| BitVec.ofInt IntKind.i64.bits (d:Int)).toNat=16*n+d:=by
  rw[BitVec.toNat_or,BitVec.toNat_ofInt,BitVec.toNat_ofInt];rw[show((((16*n:Nat):Int)%((2 ^ IntKind.i64.bits:Nat):Int)).toNat)=16*n by show(((16*n:Nat):Int)%18446744073709551616).toNat=_;omega,
   show(((d:Int)%((2 ^ IntKind.i64.bits:Nat):Int)).toNat)=d by show((d:Int)%18446744073709551616).toNat=_;omega]
  have:=Nat.two_pow_add_eq_or_of_lt (i:=4) (b:=d) hd n;rw[show 2 ^ 4*n=16*n from rfl]at this;exact this.symm
 rw[e,qw (by omega) (by omega)]
theorem wu(b:UInt8):decide (hexI b<0)= !qL b:=by
 unfold hexI;cases qL b with
 |true=>simp only[Ud];exact Xa (by omega)
 |false=>rfl
theorem Bz: ∀(k n:Nat) (l:Str),qL (atS l 0)=false->hexes k n l=(n,l)
 |0,_,_,_=>rfl
 |_+1,_,[],_=>rfl
 |k+1,n,c::r,h=>by unfold hexes;rw[Ja (by rw[show qL c=false from h];decide)]
theorem tQ {R:Type} {step:(Int×Int)×za->Option (LO ((Int×Int)×za) (Int×za) R)} {s l:Str} (hl:l<:+s)
  (h: ∀(n i:Nat) (q:Str),q<:+s->n<16777216->i<=6->step (((n:Int),(i:Int)),sr s q)=some (bif decide (i<6)&&qL (atS q 0)then .again ((((16*n+hexN (atS q 0):Nat):Int),((i+1:Nat):Int)),sr s (q.drop 1))else .out ((n:Int),sr s q))):
  bg step ((0,0),sr s l)=some (.out (((hexes 6 0 l).1:Int),sr s (hexes 6 0 l).2)):=by
 refine ZM (fun z=> ∃(n i:Nat) (q:Str),z=(((n:Int),(i:Int)),sr s q)/\q<:+s/\i<=6/\n<16 ^ i/\hexes (6 - i) n q=hexes 6 0 l) (fun z=>6 - z.1.2.toNat) _ ?_ ⟨0,0,l,rfl,hl,by omega,by decide,rfl⟩;rintro _ ⟨n,i,q,rfl,hq,hi,hn,he⟩;have hn':n<16777216:=Kc hn (Nat.pow_le_pow_right (by omega) hi:16 ^ i<=16 ^ 6);rw[h n i q hq hn' hi];rcases Tc i 6 with hlt|hge
 ·rw[Ha hlt,Xb];cases hx:qL (atS q 0)with
  |true=>
   cases q with
   |nil=>exact absurd hx (by decide)
   |cons c r=>
    have hd:=Cz hx;refine .inl ⟨_,rfl,⟨16*n+hexN (atS (c::r) 0),i+1,r,rfl,Zb hq,by omega,?_,?_⟩,by simp only[Ua];omega⟩
    ·rw[oh];omega
    ·rw[<-he,show 6 - i=(6 - (i+1))+1 by omega];rw[hexes.eq_def ((6 - (i+1))+1) n (c::r)];simp only;rw[La (show qL c=true from hx)];rfl
  |false=> refine .inr (.inl ⟨_,rfl,?_⟩);rw[<-he,Bz _ _ _ hx]
 ·rw[Xa (by omega),Yc];refine .inr (.inl ⟨_,rfl,?_⟩);rw[<-he,show 6 - i=0 by omega];rfl
theorem WE: ∀(k n:Nat) (l:Str),(hexes k n l).1<16 ^ k*(n+1)
 |0,n,l=>by unfold hexes;omega
 |k+1,n,[]=>by have:0<16 ^ (k+1):=Yg (by omega);unfold hexes;exact Kc (Ac n) (Nat.le_mul_of_pos_left _ this)
 |k+1,n,c::r=>by
  unfold hexes;cases hx:qL c with
  |true=> rw[La rfl];have h1:=WE k (16*n+hexN c) r;have:=Cz hx;refine Kc h1 ?_;rw[oh,Pg];exact Nat.mul_le_mul_left _ (by omega)
  |false=> rw[Ja (by decide)];have:0<16 ^ (k+1):=Yg (by omega);exact Kc (Ac n) (Nat.le_mul_of_pos_left _ this)
theorem nK{s l acc:Str}{c:UInt8}(hs:s.length<=big)(hr:c::l<:+s)(ha:acc.length<=1000000000):
  zU (sr s (c::l),acc)=some (sr s (zq l).2,acc++(zq l).1):=by
 have hl:=Zb hr;unfold zU;simp only[Pi hs hr,ze,yh hs hl,Aa,Pq];cases l with
 |nil=> rw[show([]:Str).isEmpty=true from rfl,Da,FR ha];rfl
 |cons d r=>
  rw[show(d::r).isEmpty=false from rfl,Ca,fG];simp only[Aa,wu];cases hx:qL (atS (d::r) 0)with
  |false=>
   rw[Lb,Da,Ar,dz];simp only[Aa,Pi hs hl];rw[zl (xh (by omega))];have:zq (d::r)=([d],r):=by show(if qL d then _ else _)=_;rw[Ja (by rw[show qL d=false from hx];decide)]
   rw[this]
  |true=>
   rw[Yb,Ca];have he:zq (d::r)=(Nh (hexes 6 0 (d::r)).1,unsp (hexes 6 0 (d::r)).2):=by show(if qL d then _ else _)=_;rw[La (show qL d=true from hx)]
   rw[he];rw[Zd (tQ (l:=d::r) hl (fun n i q hq hn hi=> ?_))]
   ·have hq:(hexes 6 0 (d::r)).2<:+s:=(AA 6 0 _).trans hl;have hlt:=WE 6 0 (d::r);rw[show 16 ^ 6*(0+1)=16777216 from rfl]at hlt;simp only[yh hs hq,Aa,Vy];have hj:(bif spB (atS (hexes 6 0 (d::r)).2 0)then some (LX.out (((hexes 6 0 (d::r)).1:Int),(⟨s,w64 ((beh s (hexes 6 0 (d::r)).2:Int)+1)⟩:za),acc))else some (LX.out (((hexes 6 0 (d::r)).1:Int),sr s (hexes 6 0 (d::r)).2,acc)):Option (LX (Int×za×List UInt8) (za×List UInt8)))
      =some (LX.out (((hexes 6 0 (d::r)).1:Int),sr s (unsp (hexes 6 0 (d::r)).2),acc)):=by
     cases hh:(hexes 6 0 (d::r)).2 with
     |nil=>rfl
     |cons e t=> rw[hh]at hq;rw[show atS (e::t) 0=e from rfl,Pi hs hq];show _=some (LX.out (_,sr s (if spB e then t else e::t),acc));cases spB e<;>rfl
    rw[hj,zh];simp only;by_cases h0:(hexes 6 0 (d::r)).1=0
    ·rw[h0,show((((0:Nat):Int))==0)=true from rfl,Da,zh];simp only[Po (show 65533<2147483648 by omega),show w32 (65533:Int)=65533 from Po (n:=65533) (by omega),FR ha,Aa];rfl
    ·rw[show(((hexes 6 0 (d::r)).1:Int)==0)=false by rw[Ia];omega,Ca,zh];simp only[jY h0 hlt ha,Aa]
   ·simp only[yh hs hq,Aa,fG,wu];have hb6:decide ((i:Int)<6)=decide (i<6):=by rw[Yf];omega
    rw[hb6];cases decide (i<6)with
    |false=>rfl
    |true=>
     rw[Da,Xb];cases hx2:qL (atS q 0)with
     |false=>rfl
     |true=>
      cases q with
      |nil=>exact absurd hx2 (by decide)
      |cons e t=>
       have hI:hexI (atS (e::t) 0)=(hexN (atS (e::t) 0):Int):=by unfold hexI;rw[La hx2]
       rw[hI,cZ hn (Cz hx2),Pi hs hq,zJ (by omega) (by omega)];rfl
theorem zDE{s r:Str}{k:Nat}(hs:s.length<=big)(hr:r<:+s)(hk:k<=4):zx ((k:Int),sr s r)=some (escS (r.drop k)&&decide (k<r.length)):=by
 unfold zx;simp only[ze,Rp hs hr (show k<=8 by omega),Aa,TY];rw[show w64 ((k:Int)+1)=((k+1:Nat):Int) by rw[zJ (by omega) (by omega)];omega,Rp hs hr (by omega)];unfold escS;rw[QQ,QQ,Yd];cases h:(atS r k==92)with
 |false=>simp only[zw,Ca,Aa,Yc]
 |true=> have hlt:k<r.length:=Ut (by rw[Jb.1 h];decide);rw[Ha hlt];simp only[zw,Da,Aa,Xb,Oc];unfold bne;rw[BN]
theorem zDD{l:Str}(h:escS l=true):0<l.length:=by unfold escS at h;rw[Ga]at h;exact Ut (by rw[Jb.1 h.1];decide)
theorem bE{s r:Str}{k:Nat}(hs:s.length<=big)(hr:r<:+s)(hk:k<=4):zx ((k:Int),sr s r)=some (escS (r.drop k)):=by
 rw[zDE hs hr hk];cases h:escS (r.drop k)with
 |false=>rfl
 |true=> have:=zDD h;rw[Gc]at this;rw[Ha (by omega)];rfl
theorem XJ{s r:Str}(hs:s.length<=big)(hr:r<:+s):zx (0,sr s r)=some (escS r):=bE (k:=0) hs hr (by omega)
theorem XN{s r:Str}{k:Nat}(hs:s.length<=big)(hr:r<:+s)(hk:k<=2):zK ((k:Int),sr s r)=some (nmS (r.drop k)):=by
 unfold zK;have hk1:w64 ((k:Int)+1)=((k+1:Nat):Int):=by rw[zJ (by omega) (by omega)];omega
 simp only[hk1,ze,Rp hs hr (show k<=8 by omega),Rp hs hr (show k+1<=8 by omega),Aa,zEH,bE hs hr (show k<=4 by omega),bE hs hr (show k+1<=4 by omega)];unfold nmS;rw[QQ,QQ,Pf];unfold bne;rw[Jw,Yd];cases atS r k==45 with
 |true=>
  simp only[Yb,Ca,Ud];cases fstB (atS r (k+1))with
  |true=>rfl
  |false=> simp only[Lb,zw,Da,Ca,Aa,Jw];cases atS r (k+1)==45<;>cases escS (r.drop (k+1))<;>rfl
 |false=> simp only[Lb,Da];cases fstB (atS r k)<;>cases escS (r.drop k)<;>rfl
theorem zCx(n:Nat):(Nh n).length<=4:=by
 unfold Nh Wl
 repeat' split
 all_goals simp
theorem Nr(l:Str):(zq l).1.length<=4:=by
 cases l with
 |nil=>show Wl.length<=4;decide
 |cons c r=>
  show(if qL c then(Nh (hexes 6 0 (c::r)).1,unsp (hexes 6 0 (c::r)).2)else([c],r)).1.length<=4;split
  ·exact zCx _
  ·show 1<=4;omega
theorem zM(c:UInt8)(r:Str):zo (c::r)=if letB c then((c::(zo r).1),(zo r).2)
  else if escS (c::r)then((zq r).1++(zo (zq r).2).1,(zo (zq r).2).2)
  else([],c::r):=by rw[zo]
theorem qV:zo []=([],[]):=by rw[zo]
theorem zFV(l:Str):(pk l 0 != -1)= !l.isEmpty:=by unfold bne;rw[Pq]
theorem dG{s r:Str}(hs:s.length<=big)(hr:r<:+s):zR (sr s r)=some ((zo r).1,sr s (zo r).2):=by
 have hb:big=4194304:=rfl;unfold zR;refine JK (r:=((zo r).1,sr s (zo r).2)) ?_;refine ZM (fun z=> ∃(q acc:Str),z=(sr s q,acc)/\q<:+s/\acc.length+4*q.length<=4*s.length/\acc++(zo q).1=(zo r).1/\(zo q).2=(zo r).2) (fun z=>s.length - z.1.at_.toNat) _ ?_ ⟨r,[],rfl,hr,by have:=hr.length_le;rw[Ib];omega,rfl,rfl⟩;rintro _ ⟨q,acc,rfl,hq,hl,he1,he2⟩;simp only[ze,yh hs hq,Aa,EQ];cases q with
 |nil=> refine .inr (.inr ⟨_,rfl,?_⟩);rw[qV]at he1 he2;rw[<-he1,<-he2,ja]
 |cons c t=>
  have hlen:=hq.length_le;rw[Fa]at hlen hl;rw[show atS (c::t) 0=c from rfl];rw[zM]at he1 he2;cases hlet:letB c with
  |true=>
   rw[hlet,La rfl]at he1 he2;refine .inl ⟨(sr s t,acc++[c]),?_,⟨t,acc++[c],rfl,Zb hq,by rw[Ba,Va];omega,by rw[<-he1,Na];rfl,he2⟩,?_⟩
   ·rw[Da,Ar,dz];simp only[Aa];rw[zl (xh (by omega)),Pi hs hq]
   ·show s.length - beh s t<s.length - beh s (c::t);unfold beh;rw[Fa];omega
  |false=>
   rw[hlet,Ja (by decide)]at he1 he2;rw[Ca,zFV,show(c::t).isEmpty=false from rfl,XJ hs hq];cases hesc:escS (c::t)with
   |true=>
    rw[hesc,La rfl]at he1 he2;have h4:=Nr t;have h5:=zS t;refine .inl ⟨(sr s (zq t).2,acc++(zq t).1),?_,⟨_,_,rfl,(Zg t).trans (Zb hq),by rw[Ba];omega,by rw[<-he1,Na],he2⟩,?_⟩
    ·simp only[Lb,zw,Da,Aa,nK hs hq (show acc.length<=1000000000 by omega)]
    ·show s.length - beh s (zq t).2<s.length - beh s (c::t);unfold beh;rw[Fa];omega
   |false=> rw[hesc,Ja (by decide)]at he1 he2;refine .inr (.inr ⟨_,rfl,?_⟩);rw[<-he1,<-he2,ja]
theorem Mm(l:Str):(zo l).2<:+l:=by
 match l with
 |[]=>rw[qV];exact Ed _
 |c::r=>
  rw[zM];split
  ·exact(Mm r).trans (He c r)
  ·split
   ·have:=zS r;exact(Mm (zq r).2).trans ((Zg r).trans (He c r))
   ·exact Ed _
termination_by l.length
decreasing_by
 all_goals first|(have:=zS r;simp only[Fa];omega)|(simp only[Fa];omega)
end Go.Lv.VT
