/- Tokens that can be written: the program's check. -/
import Derived.Test.YtcdeccnjlkkejaaGreatDoorLaw
set_option linter.unusedSimpArgs false
set_option linter.unusedVariables false
namespace Go.Lv.VT
theorem zDT(g d:Bool)(b c:UInt8):(bif g then namN (bif g then b else c).toNat else d)=bif g then namN b.toNat else d:=by cases g<;>rfl
theorem zqw{x:zb}(h1:x.text.length<=big)(h2:x.unit.length<=big):uy x=some (ug x):=by
 unfold uy;rw[zy (Dz.2 (by unfold big at h1 h2;omega))];simp only[ze,jE,Aa];have hn:decide (Lib.indexByte (x.text++x.unit) (0:Int).toNat.toUInt8<0)=(Zn x.text&&Zn x.unit):=by rw[zCv,zCj,zq6,Bool.not_not]
 simp only[hn,KV,Bv,Rm,Aa,ge_iff_le,bne];have hb:=zAe x.text;unfold ug rngS;by_cases O:x.kind=9
 ·simp only[O,Int.reduceBEq,Ka,Ia,zh,Uf,Vd];cases ht:x.text with
  |nil=>
   have:Zn ([]:Str)=true:=rfl;simp only[j,Vb];cases Zn x.unit<;>rfl
  |cons b r=>
   cases r with
   |nil=>
    have V:=nX b;have e1:((([b]:Str).length:Int)==1)=true:=rfl;have e2:geti [b] 0=some b:=rfl;have e3:(([b]:Str)==[45])=(b==45):=by show((b==45)&&true)=_;rw[Uc]
    have e4:Zn [b]= !(b==0):=by show((!(b==0))&&true)=_;rw[Uc]
    have e5:delS [b]=Vi b.toNat:=rfl;simp only[e1,e2,e3,e4,e5,zmJ,UU,Rm,Aa,zDT,<-V];cases hu:x.unit with
    |nil=>
     have:Zn ([]:Str)=true:=rfl;simp only[j,Uc];generalize (Gs.any fun c=>c==b)=a1;cases namN b.toNat<;>cases (b==0)<;>cases (b==45)<;>cases a1<;>cases (x.num==0)<;>cases x.flag<;>rfl
    |cons c s=> have:((c::s:Str)==[])=false:=rfl;simp only[j];generalize Zn (c::s)=a2;generalize (Gs.any fun c=>c==b)=a1;cases a2<;>cases namN b.toNat<;>cases (b==0)<;>cases (b==45)<;>cases a1<;>cases (x.num==0)<;>cases x.flag<;>rfl
   |cons c r=>
    have e1:(((b::c::r:Str).length:Int)==1)=false:=Ga.2 (by simp only[Ea];omega);have e3:((b::c::r:Str)==[45])=false:=by show((b==45)&&false)=_;rw[Ve]
    have e5:delS (b::c::r)=false:=rfl;simp only[e1,e3,e5];cases (Zn (b::c::r)&&Zn x.unit)<;>rfl
 have W:=Ga.2 O;have hu:(x.unit==[])=true->Zn x.unit=true:=fun h=>by rw[Ib]at h;rw[h];rfl
 have d:(x.text==[])=true->Zn x.text=true:=fun h=>by rw[Ib]at h;rw[h];rfl
 rw[<-hb];generalize u:(x.text==[45])=A at*;generalize (List.isPrefixOf [45,45] x.text)=B at*;generalize numS x.text=Y at*;generalize Zn x.text=a1 at*;generalize Zn x.unit=a2 at*;generalize (x.text==[])=a4 at*;generalize (x.unit==[])=f at*;generalize (x.num==0)=m at*;generalize x.flag=i at*;generalize decide (-1000000000000<=x.num)=J at*;generalize decide (x.num<=1000000000000)=L at*;generalize (Int.tmod x.num 1000==0)=p at*;clear hb hn u;have K: ∀k:Int,k∈[1,2,3,4,5,7,10,11,12]->x.kind=k->True:=fun _ _ _=>trivial;clear K;by_cases k1:x.kind=1
 ·simp only[k1,zh,Ka,Ia,Int.reduceBEq];cases a1<;>cases a2<;>cases a4<;>cases f<;>cases m<;>cases i<;>first|rfl|(simp at hu d;done)|simp_all
 by_cases k2:x.kind=2
 ·simp only[k2,zh,Ka,Ia,Int.reduceBEq];cases a1<;>cases a2<;>cases a4<;>cases f<;>cases m<;>cases i<;>first|rfl|(simp at hu d;done)|simp_all
 by_cases k3:x.kind=3
 ·simp only[k3,zh,Ka,Ia,Int.reduceBEq];cases a1<;>cases a2<;>cases a4<;>cases f<;>cases m<;>cases i<;>first|rfl|(simp at hu d;done)|simp_all
 by_cases k4:x.kind=4
 ·simp only[k4,zh,Ka,Ia,Int.reduceBEq];cases a1<;>cases a2<;>cases Y<;>cases a4<;>cases f<;>cases m<;>cases i<;>cases A<;>cases B<;>first|rfl|(simp at hu d;done)|simp_all
 by_cases k5:x.kind=5
 ·simp only[k5,zh,Ka,Ia,Int.reduceBEq];cases a1<;>cases a2<;>cases f<;>cases m<;>cases i<;>first|rfl|(simp at hu d;done)|simp_all
 by_cases U:x.kind=7
 ·simp only[U,zh,Ka,Ia,Int.reduceBEq];cases a1<;>cases a2<;>cases f<;>cases m<;>cases i<;>first|rfl|(simp at hu d;done)|simp_all
 by_cases v:x.kind=10
 ·simp only[v,zh,Ka,Ia,Int.reduceBEq];cases a1<;>cases a2<;>cases a4<;>cases f<;>cases i<;>cases J<;>cases L<;>cases p<;>first|rfl|(simp at hu d;done)|simp_all
 by_cases y:x.kind=11
 ·simp only[y,zh,Ka,Ia,Int.reduceBEq];cases a1<;>cases a2<;>cases a4<;>cases f<;>cases i<;>cases J<;>cases L<;>cases p<;>first|rfl|(simp at hu d;done)|simp_all
 by_cases z:x.kind=12
 ·simp only[z,zh,Ka,Ia,Int.reduceBEq];cases a1<;>cases a2<;>cases a4<;>cases f<;>cases i<;>cases J<;>cases L<;>cases p<;>first|rfl|(simp at hu d;done)|simp_all
 simp only[W,Ga.2 k1,Ga.2 k2,Ga.2 k3,Ga.2 k4,Ga.2 k5,Ga.2 U,Ga.2 v,Ga.2 y,Ga.2 z,zh,Ka,Ia,Bool.or_self];cases decide (13<=x.kind)<;>cases decide (x.kind<=24)<;>cases a4<;>cases f<;>cases m<;>cases i<;>rfl
theorem bS {R:Type} {step:Int->Option (LO Int Unit R)} {k:Unit->Option R} (n:Nat) (p:Nat->Bool) (r:R)
  (d: ∀(i:Nat),i<n->step (i:Int)=some (bif p i then .again ((i+1:Nat):Int)else .ret r)) (hf:step (n:Int)=some (.out ())):
  ZE step 0 k=bif (List.range n).all p then k ()else some r:=by
 have e:=rR (k:=k) (List.range n) (fun i=>bif p i then none else some r) () (fun i hi=> ?_) (by simpa using hf)
 ·rw[e,II];cases (List.range n).all p<;>rfl
 ·have c:i<n:=by simpa using hi
  rw[d i c];simp only[List.getElem_range];cases p i<;>rfl
def Wl:List zb->Bool
 |[]=>false
 |s::r=>bif s.kind==13 then(match r with|u::_=>u.kind==5|[]=>false)else s.kind==5
def Bj:List zb->Bool
 |[]=>false
 |s::_=>s.kind==13
def Ph(t:zb):Bool:=t.kind==2&&lowS t.text==[117,114,108]
def okAt:List zb->Bool
 |[]=>true
 |t::r=>(!(t.kind==9&&t.text==[92])||Bj r)&&(!(Ph t)||Wl r)
def il(l:List zb)(i:Nat):Bool:=ug (l.getD i default)&&okAt (l.drop i)
def gluS(l:List zb):Int:=bif decide (l.length<=1500)then(bif (List.range l.length).all (il l)then 0 else 8)else 4
theorem Eu(l:List zb)(i:Nat)(k:Int):ZK (((i:Int),k),l)=some (match l[i]? with|some t=>t.kind==k|none=>false):=by
 unfold ZK;by_cases h:i<l.length
 ·simp only[ek h,Zp,QX h,ze,Aa,Ka,Ma h]
 ·have e:decide ((i:Int)<(l.length:Int))=false:=Db (by omega);simp only[e,ZA,ze,Aa,Ia,List.getElem?_eq_none (Nat.le_of_not_lt h)]
theorem Xx:lowS [117,114,108]=[117,114,108]:=by decide
theorem zoJ{t:zb}{r:List zb}(h:t.text.length<=big): ∃n:Int,QM (t::r)=some n/\(n==0)= !okAt (t::r):=by
 have e0:geti (t::r) 0=some t:=rfl;have p1:=Eu (t::r) 1 13;have c:=Eu (t::r) 1 5;have d:=Eu (t::r) 2 5;unfold QM;simp only[e0,ze,Aa,kJ h (show([117,114,108]:Str).length<=big by decide),Xx,Rm];simp only[Int.natCast_one]at p1 c;replace d:ZK ((2,5),t::r)=_:=d;rw[p1];unfold okAt Ph;cases f:(t.kind==9&&t.text==[92])with
 |true=>
  have hk:t.kind=9:=by rw[Da,Ib]at f;exact f.1
  have ht:(t.text==[92])=true:=by rw[Da]at f;exact f.2
  simp only[hk,ht,Int.reduceBEq,Ka,Ia,Aa];cases r with
  |nil=>exact⟨_,rfl,rfl⟩
  |cons s r=>
   show∃n:Int,(bif !(s.kind==13)then some 0 else some 2)=some n/\(n==0)= !((!true||s.kind==13)&&_);cases s.kind==13
   ·exact⟨0,rfl,rfl⟩
   ·exact⟨2,rfl,rfl⟩
 |false=>
  have hc:(bif t.kind==9 then t.text==[92]else false)=false:=by
   cases m:t.kind==9
   ·rfl
   ·rw[m]at f;exact f
  simp only[hc,f,Ia,Ec,Hf,Vb];cases hu:(t.kind==2&&lowS t.text==[117,114,108])with
  |false=>
   have:(bif t.kind==2 then bif t.kind==2 then lowS t.text==[117,114,108]else default else false)=false:=by
    cases h2:t.kind==2
    ·rfl
    ·rw[h2]at hu;exact hu
   rw[j];exact⟨1,rfl,rfl⟩
  |true=>
   rw[Da]at hu;rw[hu.1,hu.2];simp only[Ka,Aa];cases r with
   |nil=>exact⟨0,by simp[c],rfl⟩
   |cons s r=>
    cases i:s.kind==13 with
    |false=>
     have e1:(match(t::s::r)[1]? with|some t=>t.kind==13|none=>false)=false:=i;have e5:ZK ((1,5),t::s::r)=some (s.kind==5):=c;simp only[e1,Ia,zh,e5,Aa,Wl,i];cases s.kind==5
     ·exact⟨0,rfl,rfl⟩
     ·exact⟨2,by rfl,rfl⟩
    |true=>
     have e1:(match(t::s::r)[1]? with|some t=>t.kind==13|none=>false)=true:=i;simp only[e1,Ka,zh,d,Aa,Wl,i];cases r with
     |nil=>exact⟨0,rfl,rfl⟩
     |cons u r=>
      show∃n:Int,(bif !(u.kind==5)then some 0 else some (w64 (2+1)))=some n/\(n==0)= !(!true||u.kind==5);cases u.kind==5
      ·exact⟨0,rfl,rfl⟩
      ·exact⟨3,rfl,rfl⟩
theorem vR(l:List zb):decide ((l.length:Int)>1500)= !decide (l.length<=1500):=zDN _ 1500
theorem zoI{l:List zb}(h: ∀t∈l,t.text.length<=big/\t.unit.length<=big):az l=some (gluS l):=by
 unfold az gluS;rw[vR];cases hl:decide (l.length<=1500)with
 |false=>rfl
 |true=>
  have hl:=Jc hl;simp only[Nc,Ia,Ka];refine(bS l.length (il l) 8 (fun i hi=> ?_) ?_).trans ?_
  ·obtain⟨g1,f⟩:=h _ (We hi);have c:l.getD i default=l[i]:=by simp[hi]
   have d:=Yb hi;obtain⟨n,e1,e2⟩:=zoJ (t:=l[i]) (r:=l.drop (i+1)) g1;rw[<-d]at e1 e2;have e3:decide ((i:Int)<=(l.length:Int))=true:=Ja (by omega);unfold il;simp only[ek hi,Ka,QX hi,ze,Aa,zqw g1 f,Ww,e3,Vb,Hf,Z5,jb,e1,Rm,Qd hi (show l.length<=big by unfold big;omega),c];cases ug l[i]with
   |false=>rfl
   |true=> simp only[Nc,Ec,Ka,Ia,e2,Vb];cases okAt (l.drop i)<;>rfl
  ·simp only[Kl,Ia]
  ·cases (List.range l.length).all (il l)<;>rfl
theorem fI{α:Type}{l:List α}{i:Nat}{s:α}{r:List α}(h:l.drop i=s::r):i<l.length/\geti l (i:Int)=some s/\l.drop (i+1)=r:=by
 have hi:i<l.length:=by
  rcases Yc i l.length with h'|h'
  ·exact h'
  ·rw[Re h']at h;cases h
 rw[Yb hi]at h;injection h with h1 h2;exact⟨hi,by rw[QX hi,h1],h2⟩
theorem dI{α:Type}{l:List α}{i:Nat}(h:l.drop i=[])(hi:i<=l.length):i=l.length:=by have:=Ff.1 h;omega
theorem zAT{l:List zb}{i:Nat}(hi:i<l.length)(hl:l.length<=1500):
  zW (X:=Int) (R:=LX Unit (LO Int Unit Int)) (ze (zu (decide (((i+1:Nat):Int)<(l.length:Int))) (geti l ((i+1:Nat):Int)) (default:zb)) fun d=>bif bif decide (((i+1:Nat):Int)<(l.length:Int))then d.kind==13 else false then some (LX.out (w64 (((i+1:Nat):Int)+1)))else some (LX.out ((i+1:Nat):Int)))
   (fun c=>ze (zu (!(decide (c>=(l.length:Int)))) (geti l c) (default:zb)) fun f=>bif bif decide (c>=(l.length:Int))then true else f.kind != 5 then some (LX.ret (LO.ret 8))else some (LX.out ()))=bif Wl (l.drop (i+1))then some (LX.out ())else some (LX.ret (LO.ret 8)):=by
 cases hr:l.drop (i+1)with
 |nil=> have j:=dI hr (by omega);have e1:decide (((i+1:Nat):Int)<(l.length:Int))=false:=Db (by omega);have e2:decide (((i+1:Nat):Int)>=(l.length:Int))=true:=Ja (by omega);simp only[e1,e2,ZA,ze,Aa,Ia,Ka,zh,Nc,Wl]
 |cons s r=>
  obtain⟨h1,h2,h3⟩:=fI hr;have e2:decide (((i+1:Nat):Int)>=(l.length:Int))=false:=Db (by omega);have m:w64 (((i+1:Nat):Int)+1)=((i+1+1:Nat):Int):=Qd h1 (by unfold big;omega);simp only[ek h1,Zp,h2,ze,Aa,Ka,m,Wl];cases v:s.kind==13 with
  |false=>
   simp only[Ia,zh,e2,Ec,Zp,h2,Aa,bne];cases s.kind==5<;>rfl
  |true=>
   simp only[Ka,zh];cases r with
   |nil=> have j:=dI h3 (by omega);have e3:decide (((i+1+1:Nat):Int)>=(l.length:Int))=true:=Ja (by omega);simp only[e3,Nc,ZA,Aa,Ka,Ia]
   |cons u r=> obtain⟨g1,p,y⟩:=fI h3;have e3:decide (((i+1+1:Nat):Int)>=(l.length:Int))=false:=Db (by omega);simp only[e3,Ec,Zp,p,Aa,Ia,bne];cases u.kind==5<;>rfl
theorem mX{l:List zb}{i:Nat}(hi:i<l.length)(d:Bool)(A B:Option (LO Int Unit Int)):
  (ze (zu (!(((i+1:Nat):Int)==(l.length:Int))&&d) (geti l ((i+1:Nat):Int)) (default:zb)) fun c=>bif bif d then bif ((i+1:Nat):Int)==(l.length:Int)then true else c.kind != 13 else false then A else B)=bif !d||Bj (l.drop (i+1))then B else A:=by
 cases d with
 |false=>simp only[Ve,ZA,ze,Aa,Ia,Ec,Hf,Ka]
 |true=>
  cases hr:l.drop (i+1)with
  |nil=> have f:=dI hr (by omega);have e1:(((i+1:Nat):Int)==(l.length:Int))=true:=Ib.2 (by omega);simp only[e1,Nc,Sc,ZA,ze,Aa,Ka,Bj,Bool.or_self,Ia]
  |cons s r=> obtain⟨h1,h2,h3⟩:=fI hr;have e1:(((i+1:Nat):Int)==(l.length:Int))=false:=Ga.2 (by omega);simp only[e1,Ec,Vb,Zp,h2,ze,Aa,Ka,Bj,Ia,Nc,Vd,bne];cases s.kind==13<;>rfl
theorem zBI(b:Bool)(t u:zb)(p:zb->Bool):(bif b then p (bif b then t else u)else false)=(b&&p t):=by cases b<;>rfl
theorem zm8(hD:xB){l:List zb}(h: ∀t∈l,t.text.length<=big/\t.unit.length<=big):lu l=some (gluS l):=by
 unfold lu gluS;rw[vR];cases hl:decide (l.length<=1500)with
 |false=>rfl
 |true=>
  have hl:=Jc hl;simp only[Nc,Ia,Ka];refine(bS l.length (il l) 8 (fun i hi=> ?_) ?_).trans ?_
  ·obtain⟨g1,p⟩:=h _ (We hi);have d:l.getD i default=l[i]:=by simp[hi]
   have f:=Yb hi;have r:w64 ((i:Int)+1)=((i+1:Nat):Int):=Qd hi (by unfold big;omega);have u:w64 (((i+1:Nat):Int)+1)=((i+2:Nat):Int):=Qd (n:=i+2) (by omega) (by unfold big;omega);unfold il;rw[f,d];simp only[ek hi,Ka,QX hi,ze,Aa,zpp hD g1 p,r];cases hf:ug l[i]with
   |false=>rfl
   |true=>
    simp only[Nc,Ia,Rm,Aa,Vb];have hu:=zAT hi hl;have j:=mX hi (l[i].kind==9&&l[i].text==[92]) (some (LO.ret 8)) (some (LO.again ((i+1:Nat):Int)));simp only[ze]at hu j;have c:(bif l[i].kind==2 then bif l[i].kind==2 then lowS (bif l[i].kind==2 then l[i]else default).text==[117,114,108]else default else false)=Ph l[i]:=by unfold Ph;cases l[i].kind==2<;>rfl
    have ha:(zu (l[i].kind==2) (qE ((bif l[i].kind==2 then l[i]else default).text,[117,114,108])) (default:Bool))=some (bif l[i].kind==2 then lowS (bif l[i].kind==2 then l[i]else default).text==[117,114,108]else default):=by
     cases h2:l[i].kind==2 with
     |false=>rfl
     |true=> show qE (l[i].text,[117,114,108])=some (lowS l[i].text==[117,114,108]);rw[GZ g1 (by decide),Xx]
    have m:(bif l[i].kind==9 then(bif l[i].kind==9 then l[i]else default).text==[92]else false)=(l[i].kind==9&&l[i].text==[92]):=zBI (l[i].kind==9) l[i] default fun t=>t.text==[92];simp only[ha,Aa,c,m,hu,okAt];cases Ph l[i]with
    |false=>
     simp only[Ia,zh,Ec,Hf,Uc];refine j.trans ?_;cases (!(l[i].kind==9&&l[i].text==[92])||Bj (l.drop (i+1)))<;>rfl
    |true=>
     simp only[Ka,Nc,Vd];cases Wl (l.drop (i+1))with
     |false=>simp only[Ia,zqI,Ve]
     |true=> simp only[Ka,zh,Uc];refine j.trans ?_;cases (!(l[i].kind==9&&l[i].text==[92])||Bj (l.drop (i+1)))<;>rfl
  ·simp only[Kl,Ia]
  ·cases (List.range l.length).all (il l)<;>rfl
theorem zm7{l:List zb}(h: ∀t∈l,t.text.length<=big/\t.unit.length<=big):lu l=some (gluS l):=zm8 zm9 h
set_option maxRecDepth 100000
def partT(r:Nat)(p:Bool):Str:=bif (ni r).isEmpty then(bif p then [48]else [])else ni r
theorem Xp{r:Nat}(h:r<1000)(p:Bool):(partT r p).all digB=true/\(partT r p).length<=3/\valG 0 (partT r p)*10 ^ (3 - (partT r p).length)=r/\Xm r p=(bif (partT r p).isEmpty then []else 46::partT r p)/\((partT r p).isEmpty=((r==0)&& !p)):=by
 have hf:=FI r h;simp only[JB,Da,Cc,Ib]at hf;obtain⟨⟨⟨⟨a,b⟩,c⟩,d⟩,e⟩:=hf;unfold partT Xm;cases f:(ni r).isEmpty with
 |true=>
  have hr:r=0:=by rw[f]at d;exact Ib.1 d.symm
  subst hr;cases p<;>refine⟨by decide,by decide,by decide,rfl,rfl⟩
 |false=> rw[f]at d;simp only[Ia];exact⟨a,b,c,by rw[f,Ia],by rw[f,<-d];rfl⟩
theorem RN{l:Str}(h:(l.all fun b=>digB b||b==46)=true):uh l=true:=by
 unfold uh;rw[Xa]at h ⊢;intro b hb;have:=h b hb;refine Ja ?_;rw[Ld]at c;rcases c with h1|h1
 ·have:=Ru h1;omega
 ·rw[Ib.1 h1];decide
theorem MN{m:Nat}(p:Bool):((xg m p).all fun b=>digB b||b==46)=true:=by
 obtain⟨h1,_,_⟩:=yt (m / 1000);obtain⟨h2,_,_,d,_⟩:=Xp (r:=m%1000) (by omega) p;have c: ∀l:Str,l.all digB=true->(l.all fun b=>digB b||b==46)=true:=by intro l hl;rw[Xa]at hl ⊢;intro b hb;rw[hl b hb];rfl
 unfold xg;rw[Fg,c _ h1,d,Vb];cases (partT (m%1000) p).isEmpty with
 |true=>rfl
 |false=>rw[Ia,Pd,c _ h2];rfl
theorem ky(u:Nat): ∃c r,Lib.decDigits u=c::r/\digB c=true:=by
 obtain⟨h1,_,h3⟩:=yt u;cases h:Lib.decDigits u with
 |nil=>exact absurd h h3
 |cons c r=>rw[h,Pd,Da]at h1;exact⟨c,r,rfl,h1.1⟩
theorem QV{c:UInt8}(h:digB c=true):c≠45/\c≠43/\c≠46/\c≠0/\List.contains [43,45] c=false:=by
 have: ∀n:Nat,n<256->digB (UInt8.ofNat n)=true->UInt8.ofNat n≠45/\UInt8.ofNat n≠43/\UInt8.ofNat n≠46/\UInt8.ofNat n≠0/\List.contains [43,45] (UInt8.ofNat n)=false:=by decide+f
 have:=d c.toNat (Rb c);rw[Gc]at d;exact d h
theorem yX{m:Nat}(p:Bool): ∃f,Lib.cut (xg m p) [46]=(Lib.decDigits (m / 1000),partT (m%1000) p,f):=by
 obtain⟨h1,_,_⟩:=yt (m / 1000);obtain⟨_,_,_,d,_⟩:=Xp (r:=m%1000) (by omega) p;unfold xg Lib.cut;rw[FE,d];cases hp:(partT (m%1000) p).isEmpty with
 |true=> rw[Ka,Ab,wG _ h1,Ha (by decide)];exact⟨false,by rw[List.isEmpty_iff.1 hp]⟩
 |false=>
  rw[Ia,xG _ _ h1,La (by omega)];refine⟨true,?_⟩;rw[jb,xh,Cb,show(Lib.decDigits (m / 1000)).length+1=(Lib.decDigits (m / 1000)++[46]).length by simp];have:Lib.decDigits (m / 1000)++46::partT (m%1000) p=(Lib.decDigits (m / 1000)++[46])++partT (m%1000) p:=by simp
  rw[c,Xg]
theorem znb{n:Int}(h1: -1000000000000<=n)(h2:n<=1000000000000)(p:Bool):ZR (numT n p)=some n:=by
 obtain⟨m,hm⟩: ∃m:Nat,n.natAbs=m:=⟨_,rfl⟩;have y:m<=1000000000000:=by omega
 obtain⟨c,r,hc,O⟩:=ky (m / 1000);obtain⟨A,Z,_,_,U⟩:=QV O;have d:xg m p=c::(r++Xm (m%1000) p):=by unfold xg;rw[hc];rfl
 have a3:=LD y p;obtain⟨f,B⟩:=yX (m:=m) p;obtain⟨d1,d2,d3⟩:=yt (m / 1000);obtain⟨p1,p2,p3,p4,p5⟩:=Xp (r:=m%1000) (by omega) p;have a5:=CJ (u:=m / 1000) (by omega);have J:short (xg m p)=true:=Ja (by omega);have j:Lib.trimLeftS (xg m p) [43,45]=xg m p:=by rw[d];unfold Lib.trimLeftS;rw[Lg,U];rfl
 have hT:Lib.trimLeftS (numT n p) [43,45]=xg m p:=by
  unfold numT;rw[hm];by_cases hn:n<0
  ·rw[La hn];show List.dropWhile _ (45::xg m p)=_;rw[Lg];exact j
  ·rw[Ha hn];exact j
 have h0: ∃b,geti (numT n p) 0=some b/\(((b.toNat:Int)==45)=decide (n<0)):=by
  unfold numT;rw[hm];by_cases hn:n<0
  ·rw[La hn,Ja hn];exact⟨45,rfl,rfl⟩
  ·rw[Ha hn,Db hn];refine⟨c,by rw[d];rfl,Ga.2 (fun e=>A ?_)⟩;exact Tf.1 (by show c.toNat=45;omega)
 obtain⟨b,V,W⟩:=h0;unfold ZR;simp only[ze,V,Aa];have t1:Uk (numT n p,[43,45])=some (xg m p):=by unfold Uk;rw[zy (show(short ([43,45]:Str)&&uh [43,45])=true by decide)];exact congrArg some hT
 have t2:QZ (xg m p,[101,69])=some (-1):=by unfold QZ;rw[zy (by simp only[J,RN (MN p),Uc,Vb];decide)];exact congrArg some (MH _ (MN p))
 have t3:cutF (xg m p,[46])=some (Lib.decDigits (m / 1000),partT (m%1000) p,f):=by unfold cutF;rw[zy (by exact J)];exact congrArg some B
 simp only[t1,t2,Aa,show decide ((-1:Int)>=0)=false from rfl,Ia,zh,t3];rw[zy (Dz.2 (by omega))];have hw:w64 (3 - ((partT (m%1000) p).length:Int))=((3 - (partT (m%1000) p).length:Nat):Int):=by rw[Za (by omega) (by omega)];omega
 rw[hw,Db (by omega),Ia,zh];simp only;have Y:maxLen=9223372036854775807:=rfl;rw[zy (Ja (by rw[Ba,Y];omega))];have z:valG 0 (Lib.decDigits (m / 1000)++partT (m%1000) p)*10 ^ (3 - (partT (m%1000) p).length)=m:=by rw[LC,d2,Ox,Ce,p3,vg,<-Nat.pow_add,show(partT (m%1000) p).length+(3 - (partT (m%1000) p).length)=3 by omega];omega
 have L:valG 0 (Lib.decDigits (m / 1000)++partT (m%1000) p)<=1000000000000:=by have:=Cf (valG 0 (Lib.decDigits (m / 1000)++partT (m%1000) p)) (Bh (n:=3 - (partT (m%1000) p).length) (show 0<10 by omega));omega
 rw[Qk (zAF (l:=Lib.decDigits (m / 1000)++partT (m%1000) p) (by rw[Fg,d1,p1];rfl) (by rw[Ba];omega) L (fun v i hi=> ?_) (fun v=> ?_))]
 ·rw[Qk (V6 (by omega) (by rw[z];exact y) (fun a b=> ?_)),z]
  ·rw[W];by_cases hn:n<0
   ·rw[Ja hn,Ka,zh,Za (by omega) (by omega)];congr 1;omega
   ·rw[Db hn,Ia,zh];congr 1;omega
  ·simp only
 ·have e1:decide ((i:Int)<((Lib.decDigits (m / 1000)++partT (m%1000) p).length:Int))=true:=Ja (by omega);have e0:decide ((0:Int)<=(i:Int))=true:=Ja (by omega);simp only[e1,e0,Ka,Uc,Z5,jb,Ma hi,Aa]
 ·simp only;rw[Db (by omega),Ia]
theorem zBC(n:Int)(p:Bool):(n<0/\numT n p=45::xg n.natAbs p)\/(¬n<0/\numT n p=xg n.natAbs p):=by
 unfold numT;by_cases h:n<0
 ·exact .inl ⟨h,by rw[La h];rfl⟩
 ·exact .inr ⟨h,by rw[Ha h];rfl⟩
theorem X3(m:Nat)(p:Bool): ∃c r,xg m p=c::r/\digB c=true:=by obtain⟨c,r,h,d⟩:=ky (m / 1000);exact⟨c,r++Xm (m%1000) p,by unfold xg;rw[h];rfl,d⟩
theorem aA{n:Int}(h1: -1000000000000<=n)(h2:n<=1000000000000)(p:Bool):(numT n p).length<=25/\1<=(numT n p).length:=by
 have:=LD (m:=n.natAbs) (by omega) p;obtain⟨c,r,hb,_⟩:=X3 n.natAbs p;rcases zBC n p with⟨_,h⟩|⟨_,h⟩
 ·rw[h,Ea];omega
 ·rw[h];refine⟨by omega,?_⟩;rw[hb,Ea];omega
theorem Zx{n:Nat}(h:n<256):Zw ((n:Nat):Int)=some (UInt8.ofNat n):=by unfold Zw;rw[Ja (by omega:(0:Int)<=(n:Int)),Ja (by omega:(n:Int)<=255)];rfl
theorem bG(n k:Nat)(hk:k<=32):Ai .i32 (n:Int) (k:Int)=((n / 2 ^ k:Nat):Int):=by unfold Ai;rw[show(min ((k:Int).toNat) IntKind.i32.bits)=k by show min k 32=k;omega];rw[Int.fdiv_eq_ediv_of_nonneg _ (Int.le_of_lt (Int.pow_pos (by decide)))];rw[Int.natCast_ediv,Int.natCast_pow];rfl
theorem shr6(n:Nat):Ai .i32 (n:Int) 6=((n / 64:Nat):Int):=bG n 6 (by omega)
theorem FW(n:Nat):Ai .i32 (n:Int) 12=((n / 4096:Nat):Int):=bG n 12 (by omega)
theorem EW(n:Nat):Ai .i32 (n:Int) 18=((n / 262144:Nat):Int):=bG n 18 (by omega)
theorem zEy(n:Int):IntKind.u8.wrap n=n%256:=by simp[IntKind.wrap,IntKind.bits,IntKind.signed]
theorem zDj(n:Int):IntKind.u32.wrap n=n%4294967296:=by simp[IntKind.wrap,IntKind.bits,IntKind.signed]
theorem Rn{n:Nat}(h:n<2147483648):w32 (n:Int)=(n:Int):=by show IntKind.i32.wrap _=_;simp only[IntKind.wrap,IntKind.bits,IntKind.signed];simp;omega
theorem JO{n:Nat}(h:n<2147483648):wu32 (n:Int)=(n:Int):=by show IntKind.u32.wrap _=_;rw[zDj];omega
theorem Lx(n:Nat):wu8 (n:Int)=((n%256:Nat):Int):=by show IntKind.u8.wrap (n:Int)=_;rw[zEy];omega
theorem RP(n:Nat):ibOr .u8 128 (mi .u8 (wu8 (n:Int)) 63)=((128+n%64:Nat):Int):=by
 have: ∀m:Nat,m<256->ibOr .u8 128 (mi .u8 ((m:Nat):Int) 63)=((128+m%64:Nat):Int):=by decide+c
 rw[Lx,d _ (Nat.mod_lt _ (by omega)),show n%256%64=n%64 by omega]
theorem mW{n:Nat}(h:n<32):ibOr .u8 192 (wu8 (n:Int))=((192+n:Nat):Int):=by
 have: ∀m:Nat,m<32->ibOr .u8 192 (wu8 ((m:Nat):Int))=((192+m:Nat):Int):=by decide+c
 exact d n h
theorem aF{n:Nat}(h:n<16):ibOr .u8 224 (wu8 (n:Int))=((224+n:Nat):Int):=by
 have: ∀m:Nat,m<16->ibOr .u8 224 (wu8 ((m:Nat):Int))=((224+m:Nat):Int):=by decide+c
 exact d n h
theorem lW{n:Nat}(h:n<8):ibOr .u8 240 (wu8 (n:Int))=((240+n:Nat):Int):=by
 have: ∀m:Nat,m<8->ibOr .u8 240 (wu8 ((m:Nat):Int))=((240+m:Nat):Int):=by decide+c
 exact d n h
theorem mh{n m:Nat}(h:n+m<=2000000000):Zb n m 1=true:=by unfold Zb;exact Ja (by omega)
theorem JW{n:Nat}(h0:n≠0)(h:n<16777216){l:Str}(hl:l.length<=1000000000):ZU (w32 (n:Int),l)=some (l++Xh n):=by
 have a1:Zb l.length 1 1=true:=mh (by omega);have a2:Zb l.length 2 1=true:=mh (by omega);have c:Zb l.length 3 1=true:=mh (by omega);have a4:Zb l.length 4 1=true:=mh (by omega);have d:(128+n%64)<256:=by omega
 have f:(128+n / 64%64)<256:=by omega
 have i:(128+n / 4096%64)<256:=by omega
 unfold ZU ZZ Xh;simp only[Rn (show n<2147483648 by omega),JO (show n<2147483648 by omega),ze,shr6,FW,EW,RP,Zx d,Zx f,Zx i,Aa];by_cases h1:n<128
 ·rw[Ja (by omega),Ka,Lx,Zx (by omega),Aa,zy a1,Ha (by omega),La h1,Kg (by omega)]
 ·rw[Db (by omega),Ia];by_cases h2:n<2048
  ·rw[Ja (by omega),Ka,mW (by omega),Zx (by omega)];simp only[Aa];rw[zy a2,Ha (by omega),Ha (by omega),La h2];rfl
  ·rw[Db (by omega),Ia];by_cases h3:n<55296
   ·rw[Ja (by omega),Ka,zh];simp only[Ka];rw[aF (by omega),Zx (by omega)];simp only[Aa];rw[zy c,Ha (by omega),Ha (by omega),Ha (by omega),La (by omega)];rfl
   ·rw[Db (by omega),Ia,zh];simp only[dX];by_cases h4:57343<n/\n<65536
    ·rw[Ja (by omega),Ja (by omega),Uc,Ka,aF (by omega),Zx (by omega)];simp only[Aa];rw[zy c,Ha (by omega),Ha (by omega),Ha (by omega),La (by omega)];rfl
    ·rw[show(decide ((57343:Int)<(n:Int))&&decide ((n:Int)<=65535))=false by rw[Hg];simp only[Rf];omega,Ia];by_cases j:65535<n/\n<=1114111
     ·rw[Ja (by omega),Ja (by omega),Uc,Ka,lW (by omega),Zx (by omega)];simp only[Aa];rw[zy a4,Ha (by omega),Ha (by omega),Ha (by omega),Ha (by omega)];rfl
     ·rw[show(decide ((n:Int)>65535)&&decide ((n:Int)<=1114111))=false by rw[Hg];simp only[Rf];omega,Ia,zy c,La (by omega)];rfl
theorem vP{l:Str}(hl:l.length<=1000000000):ZU (65533,l)=some (l++lm):=by have h:=JW (n:=65533) (by omega) (by omega) hl;rw[Rn (by omega)]at h;exact h
theorem Ck{s:Str}{c:UInt8}{l:Str}(h:c::l<:+s):l<:+s:=(Ee c l).trans h
theorem Ni{s:Str}{c:UInt8}{l:Str}(d:s.length<=big)(h:c::l<:+s):w64 ((beh s (c::l):Int)+1)=(beh s l:Int):=by
 have hb:big=4194304:=rfl;have h1:=h.length_le;rw[Ea]at h1;have e:beh s (c::l)+1=beh s l:=by unfold beh;rw[Ea];omega
 have:=Yk s l;rw[Za (by omega) (by omega)];omega
theorem Wp(c:UInt8)(l:Str):pk (c::l) 0=(c.toNat:Int):=rfl
theorem Sy(c:UInt8):Zw (wu8 ((c.toNat:Nat):Int))=some c:=by rw[Lx,Kg (Rb c),Zx (Rb c),Gc]
theorem FC{b:UInt8}(h:Qb b=true):hexN b<16:=Jc h
theorem uW{n d:Nat}(hn:n<16777216)(f:d<16):ibOr .i64 (Mv .i64 (n:Int) 4) (d:Int)=((16*n+d:Nat):Int):=by
 have h1:Mv .i64 (n:Int) 4=((16*n:Nat):Int):=by unfold Mv;rw[show(2:Int) ^ (min (4:Int).toNat IntKind.i64.bits)=16 from rfl];rw[Jm (by omega) (by omega)];omega
 rw[h1];unfold ibOr;have e:(BitVec.ofInt IntKind.i64.bits ((16*n:Nat):Int) ||| BitVec.ofInt IntKind.i64.bits (d:Int)).toNat=16*n+d:=by
  rw[BitVec.toNat_or,BitVec.toNat_ofInt,BitVec.toNat_ofInt];rw[show((((16*n:Nat):Int)%((2 ^ IntKind.i64.bits:Nat):Int)).toNat)=16*n by show(((16*n:Nat):Int)%18446744073709551616).toNat=_;omega,
   show(((d:Int)%((2 ^ IntKind.i64.bits:Nat):Int)).toNat)=d by show((d:Int)%18446744073709551616).toNat=_;omega]
  have:=Nat.two_pow_add_eq_or_of_lt (i:=4) (b:=d) f n;rw[show 2 ^ 4*n=16*n from rfl]at c;exact c.symm
 rw[e,Jm (by omega) (by omega)]
theorem BD(b:UInt8):decide (hexI b<0)= !Qb b:=by
 unfold hexI;cases Qb b with
 |true=>simp only[Td];exact Db (by omega)
 |false=>rfl
theorem yG: ∀(k n:Nat) (l:Str),Qb (atS l 0)=false->hexes k n l=(n,l)
 |0,_,_,_=>rfl
 |_+1,_,[],_=>rfl
 |k+1,n,c::r,h=>by unfold hexes;rw[Ha (by rw[show Qb c=false from h];decide)]
theorem yO {R:Type} {step:(Int×Int)×za->Option (LO ((Int×Int)×za) (Int×za) R)} {s l:Str} (hl:l<:+s)
  (h: ∀(n i:Nat) (q:Str),q<:+s->n<16777216->i<=6->step (((n:Int),(i:Int)),sr s q)=some (bif decide (i<6)&&Qb (atS q 0)then .again ((((16*n+hexN (atS q 0):Nat):Int),((i+1:Nat):Int)),sr s (q.drop 1))else .out ((n:Int),sr s q))):
  Rh step ((0,0),sr s l)=some (.out (((hexes 6 0 l).1:Int),sr s (hexes 6 0 l).2)):=by
 refine Qj (fun z=> ∃(n i:Nat) (q:Str),z=(((n:Int),(i:Int)),sr s q)/\q<:+s/\i<=6/\n<16 ^ i/\hexes (6 - i) n q=hexes 6 0 l) (fun z=>6 - z.1.2.toNat) _ ?_ ⟨0,0,l,rfl,hl,by omega,by decide,rfl⟩;rintro _ ⟨n,i,q,rfl,p,hi,hn,f⟩;have j:n<16777216:=Mc hn (Nat.pow_le_pow_right (by omega) hi:16 ^ i<=16 ^ 6);rw[h n i q p j hi];rcases Yc i 6 with m|u
 ·rw[Ja m,Vb];cases d:Qb (atS q 0)with
  |true=>
   cases q with
   |nil=>exact absurd d (by decide)
   |cons c r=>
    have v:=FC d;refine .inl ⟨_,rfl,⟨16*n+hexN (atS (c::r) 0),i+1,r,rfl,Ck p,by omega,?_,?_⟩,by simp only[jb];omega⟩
    ·rw[Nat.pow_succ];omega
    ·rw[<-f,show 6 - i=(6 - (i+1))+1 by omega];rw[hexes.eq_def ((6 - (i+1))+1) n (c::r)];simp only;rw[La (show Qb c=true from d)];rfl
  |false=> refine .inr (.inl ⟨_,rfl,?_⟩);rw[<-f,yG _ _ _ d]
 ·rw[Db (by omega),Sc];refine .inr (.inl ⟨_,rfl,?_⟩);rw[<-f,show 6 - i=0 by omega];rfl
theorem BI: ∀(k n:Nat) (l:Str),(hexes k n l).1<16 ^ k*(n+1)
 |0,n,l=>by unfold hexes;omega
 |k+1,n,[]=>by have:0<16 ^ (k+1):=Bh (by omega);unfold hexes;exact Mc (Dc n) (Nat.le_mul_of_pos_left _ d)
 |k+1,n,c::r=>by
  unfold hexes;cases f:Qb c with
  |true=> rw[La rfl];have h1:=BI k (16*n+hexN c) r;have:=FC f;refine Mc h1 ?_;rw[Nat.pow_succ,vg];exact Nh _ (by omega)
  |false=> rw[Ha (by decide)];have:0<16 ^ (k+1):=Bh (by omega);exact Mc (Dc n) (Nat.le_mul_of_pos_left _ d)
theorem bI{s l acc:Str}{c:UInt8}(f:s.length<=big)(hr:c::l<:+s)(ha:acc.length<=1000000000):
  zO (sr s (c::l),acc)=some (sr s (zq l).2,acc++(zq l).1):=by
 have hl:=Ck hr;unfold zO;simp only[Ni f hr,ze,ah f hl,Aa,Jp];cases l with
 |nil=> rw[show([]:Str).isEmpty=true from rfl,Ka,vP ha];rfl
 |cons d r=>
  rw[show(d::r).isEmpty=false from rfl,Ia,gF];simp only[Aa,BD];cases v:Qb (atS (d::r) 0)with
  |false=>
   rw[Ec,Ka,Wp,Sy];simp only[Aa,Ni f hl];rw[zy (mh (by omega))];have:zq (d::r)=([d],r):=by show(if Qb d then _ else _)=_;rw[Ha (by rw[show Qb d=false from v];decide)]
   rw[y]
  |true=>
   rw[Nc,Ia];have z:zq (d::r)=(Xh (hexes 6 0 (d::r)).1,unsp (hexes 6 0 (d::r)).2):=by show(if Qb d then _ else _)=_;rw[La (show Qb d=true from v)]
   rw[z];rw[Qk (yO (l:=d::r) hl (fun n i q m hn hi=> ?_))]
   ·have m:(hexes 6 0 (d::r)).2<:+s:=(kD 6 0 _).trans hl;have p:=BI 6 0 (d::r);rw[show 16 ^ 6*(0+1)=16777216 from rfl]at p;simp only[ah f m,Aa,yw];have A:(bif spB (atS (hexes 6 0 (d::r)).2 0)then some (LX.out (((hexes 6 0 (d::r)).1:Int),(⟨s,w64 ((beh s (hexes 6 0 (d::r)).2:Int)+1)⟩:za),acc))else some (LX.out (((hexes 6 0 (d::r)).1:Int),sr s (hexes 6 0 (d::r)).2,acc)):Option (LX (Int×za×List UInt8) (za×List UInt8)))
      =some (LX.out (((hexes 6 0 (d::r)).1:Int),sr s (unsp (hexes 6 0 (d::r)).2),acc)):=by
     cases B:(hexes 6 0 (d::r)).2 with
     |nil=>rfl
     |cons e t=> rw[B]at m;rw[show atS (e::t) 0=e from rfl,Ni f m];show _=some (LX.out (_,sr s (if spB e then t else e::t),acc));cases spB e<;>rfl
    rw[A,zh];simp only;by_cases h0:(hexes 6 0 (d::r)).1=0
    ·rw[h0,show((((0:Nat):Int))==0)=true from rfl,Ka,zh];simp only[Rn (show 65533<2147483648 by omega),show w32 (65533:Int)=65533 from Rn (n:=65533) (by omega),vP ha,Aa];rfl
    ·rw[show(((hexes 6 0 (d::r)).1:Int)==0)=false by rw[Ga];omega,Ia,zh];simp only[JW h0 p ha,Aa]
   ·simp only[ah f m,Aa,gF,BD];have u:decide ((i:Int)<6)=decide (i<6):=by rw[uf];omega
    rw[u];cases decide (i<6)with
    |false=>rfl
    |true=>
     rw[Ka,Vb];cases j:Qb (atS q 0)with
     |false=>rfl
     |true=>
      cases q with
      |nil=>exact absurd j (by decide)
      |cons e t=>
       have hI:hexI (atS (e::t) 0)=(hexN (atS (e::t) 0):Int):=by unfold hexI;rw[La j]
       rw[hI,uW hn (FC j),Ni f m,Za (by omega) (by omega)];rfl
theorem zB4{s r:Str}{k:Nat}(d:s.length<=big)(hr:r<:+s)(hk:k<=4):zt ((k:Int),sr s r)=some (escS (r.drop k)&&decide (k<r.length)):=by
 unfold zt;simp only[ze,Xo d hr (show k<=8 by omega),Aa,LW];rw[show w64 ((k:Int)+1)=((k+1:Nat):Int) by rw[Za (by omega) (by omega)];omega,Xo d hr (by omega)];unfold escS;rw[Qy,Qy,jd];cases h:(atS r k==92)with
 |false=>simp only[zu,Ia,Aa,Sc]
 |true=> have c:k<r.length:=Dr (by rw[Ib.1 h];decide);rw[Ja c];simp only[zu,Ka,Aa,Vb,Uc];unfold bne;rw[YL]
theorem zB3{l:Str}(h:escS l=true):0<l.length:=by unfold escS at h;rw[Da]at h;exact Dr (by rw[Ib.1 h.1];decide)
theorem GD{s r:Str}{k:Nat}(d:s.length<=big)(hr:r<:+s)(hk:k<=4):zt ((k:Int),sr s r)=some (escS (r.drop k)):=by
 rw[zB4 d hr hk];cases h:escS (r.drop k)with
 |false=>rfl
 |true=> have:=zB3 h;rw[Ob]at c;rw[Ja (by omega)];rfl
theorem JI{s r:Str}(c:s.length<=big)(hr:r<:+s):zt (0,sr s r)=some (escS r):=GD (k:=0) c hr (by omega)
theorem KL{s r:Str}{k:Nat}(c:s.length<=big)(hr:r<:+s)(hk:k<=2):zF ((k:Int),sr s r)=some (nmS (r.drop k)):=by
 unfold zF;have d:w64 ((k:Int)+1)=((k+1:Nat):Int):=by rw[Za (by omega) (by omega)];omega
 simp only[d,ze,Xo c hr (show k<=8 by omega),Xo c hr (show k+1<=8 by omega),Aa,zC3,GD c hr (show k<=4 by omega),GD c hr (show k+1<=4 by omega)];unfold nmS;rw[Qy,Qy,Vf];unfold bne;rw[Vv,jd];cases atS r k==45 with
 |true=>
  simp only[Nc,Ia,Td];cases fstB (atS r (k+1))with
  |true=>rfl
  |false=> simp only[Ec,zu,Ka,Ia,Aa,Vv];cases atS r (k+1)==45<;>cases escS (r.drop (k+1))<;>rfl
 |false=> simp only[Ec,Ka];cases fstB (atS r k)<;>cases escS (r.drop k)<;>rfl
theorem zAV(n:Nat):(Xh n).length<=4:=by
 unfold Xh lm
 repeat' split
 all_goals simp
theorem Nu(l:Str):(zq l).1.length<=4:=by
 cases l with
 |nil=>show lm.length<=4;decide
 |cons c r=>
  show(if Qb c then(Xh (hexes 6 0 (c::r)).1,unsp (hexes 6 0 (c::r)).2)else([c],r)).1.length<=4;split
  ·exact zAV _
  ·show 1<=4;omega
theorem zH(c:UInt8)(r:Str):zm (c::r)=if letB c then((c::(zm r).1),(zm r).2)
  else if escS (c::r)then((zq r).1++(zm (zq r).2).1,(zm (zq r).2).2)
  else([],c::r):=by rw[zm]
theorem qN:zm []=([],[]):=by rw[zm]
theorem zEb(l:Str):(pk l 0 != -1)= !l.isEmpty:=by unfold bne;rw[Jp]
theorem fF{s r:Str}(u:s.length<=big)(hr:r<:+s):zM (sr s r)=some ((zm r).1,sr s (zm r).2):=by
 have hb:big=4194304:=rfl;unfold zM;refine oI (r:=((zm r).1,sr s (zm r).2)) ?_;refine Qj (fun z=> ∃(q acc:Str),z=(sr s q,acc)/\q<:+s/\acc.length+4*q.length<=4*s.length/\acc++(zm q).1=(zm r).1/\(zm q).2=(zm r).2) (fun z=>s.length - z.1.at_.toNat) _ ?_ ⟨r,[],rfl,hr,by have:=hr.length_le;rw[Lc];omega,rfl,rfl⟩;rintro _ ⟨q,acc,rfl,m,hl,d,f⟩;simp only[ze,ah u m,Aa,nN];cases q with
 |nil=> refine .inr (.inr ⟨_,rfl,?_⟩);rw[qN]at d f;rw[<-d,<-f,Ab]
 |cons c t=>
  have p:=m.length_le;rw[Ea]at p hl;rw[show atS (c::t) 0=c from rfl];rw[zH]at d f;cases i:letB c with
  |true=>
   rw[i,La rfl]at d f;refine .inl ⟨(sr s t,acc++[c]),?_,⟨t,acc++[c],rfl,Ck m,by rw[Ba,Cb];omega,by rw[<-d,Na];rfl,f⟩,?_⟩
   ·rw[Ka,Wp,Sy];simp only[Aa];rw[zy (mh (by omega)),Ni u m]
   ·show s.length - beh s t<s.length - beh s (c::t);unfold beh;rw[Ea];omega
  |false=>
   rw[i,Ha (by decide)]at d f;rw[Ia,zEb,show(c::t).isEmpty=false from rfl,JI u m];cases j:escS (c::t)with
   |true=>
    rw[j,La rfl]at d f;have h4:=Nu t;have v:=zD t;refine .inl ⟨(sr s (zq t).2,acc++(zq t).1),?_,⟨_,_,rfl,(ZO t).trans (Ck m),by rw[Ba];omega,by rw[<-d,Na],f⟩,?_⟩
    ·simp only[Ec,zu,Ka,Aa,bI u m (show acc.length<=1000000000 by omega)]
    ·show s.length - beh s (zq t).2<s.length - beh s (c::t);unfold beh;rw[Ea];omega
   |false=> rw[j,Ha (by decide)]at d f;refine .inr (.inr ⟨_,rfl,?_⟩);rw[<-d,<-f,Ab]
theorem Rl(l:Str):(zm l).2<:+l:=by
 match l with
 |[]=>rw[qN];exact Ad _
 |c::r=>
  rw[zH];split
  ·exact(Rl r).trans (Ee c r)
  ·split
   ·have:=zD r;exact(Rl (zq r).2).trans ((ZO r).trans (Ee c r))
   ·exact Ad _
termination_by l.length
decreasing_by
 all_goals first|(have:=zD r;simp only[Ea];omega)|(simp only[Ea];omega)
end Go.Lv.VT
