/- Tokens that can be written: the program's check. -/
import Derived.Test.YtcdeccnjlkkejaaGreatDoorLaw
set_option linter.unusedSimpArgs false
set_option linter.unusedVariables false
namespace Go.Lv.VT
theorem zBZ(g d:Bool)(b c:UInt8):(bif g then namN (bif g then b else c).toNat else d)=bif g then namN b.toNat else d:=by cases g<;>rfl
theorem U3{x:ze}(h1:x.text.length<=big)(h2:x.unit.length<=big):xu x=some (Pf x):=by
 unfold xu;rw[zm (zO.2 (by grind))];simp only[zb,Dr,Aa];have hn:decide (Lib.indexByte (x.text++x.unit) (0:Int).toNat.toUInt8<0)=(Zm x.text&&Zm x.unit):=by rw[zAz,SE,O4,Bool.not_not]
 simp only[hn,dR,QA,ZY,Aa,ge_iff_le,bne];have hb:=uW x.text;unfold Pf rngS;by_cases k9:x.kind=9
 ·simp only[k9,Int.reduceBEq,Ca,Ba,zh,Be,Gc];cases ht:x.text with
  |nil=>
   have:Zm ([]:Str)=true:=rfl;simp only[this,ma];cases Zm x.unit<;>rfl
  |cons b r=>
   cases r with
   |nil=>
    have hd:=oV b;have e1:((([b]:Str).length:Int)==1)=true:=rfl;have e2:geti [b] 0=some b:=rfl;have e3:(([b]:Str)==[45])=(b==45):=by show((b==45)&&true)=_;rw[Lb]
    have e4:Zm [b]= !(b==0):=by show((!(b==0))&&true)=_;rw[Lb]
    have e5:delS [b]=Dh b.toNat:=rfl;simp only[e1,e2,e3,e4,e5,M8,lQ,ZY,Aa,zBZ,<-hd];cases hu:x.unit with
    |nil=>
     have:Zm ([]:Str)=true:=rfl;simp only[this,Lb];generalize (Pt.any fun c=>c==b)=a1;cases namN b.toNat<;>cases (b==0)<;>cases (b==45)<;>cases a1<;>cases (x.num==0)<;>cases x.flag<;>rfl
    |cons c s=> simp_all
   |cons c r=>
    have e1:(((b::c::r:Str).length:Int)==1)=false:=Ha.2 (by grind);have e3:((b::c::r:Str)==[45])=false:=by show((b==45)&&false)=_;rw[lc]
    have e5:delS (b::c::r)=false:=rfl;simp only[e1,e3,e5];simp_all
 have b9:=Ha.2 k9;have hu:(x.unit==[])=true->Zm x.unit=true:=fun h=>by rw[Cb]at h;rw[h];rfl
 have htx:(x.text==[])=true->Zm x.text=true:=fun h=>by rw[Cb]at h;rw[h];rfl
 rw[<-hb];generalize hl45:(x.text==[45])=a11 at*;generalize (List.isPrefixOf [45,45] x.text)=a12 at*;generalize numS x.text=a3 at*;generalize Zm x.text=a1 at*;generalize Zm x.unit=a2 at*;generalize (x.text==[])=a4 at*;generalize (x.unit==[])=a5 at*;generalize (x.num==0)=a6 at*;generalize x.flag=a7 at*;generalize decide (-1000000000000<=x.num)=a8 at*;generalize decide (x.num<=1000000000000)=a9 at*;generalize (Int.tmod x.num 1000==0)=a10 at*;clear hb hn hl45;have K: ∀k:Int,k∈[1,2,3,4,5,7,10,11,12]->x.kind=k->True:=fun _ _ _=>trivial;clear K;by_cases k1:x.kind=1
 ·simp only[k1,zh,Ca,Ba,Int.reduceBEq]
  grind
 by_cases k2:x.kind=2
 ·simp only[k2,zh,Ca,Ba,Int.reduceBEq]
  grind
 by_cases k3:x.kind=3
 ·simp only[k3,zh,Ca,Ba,Int.reduceBEq]
  grind
 by_cases k4:x.kind=4
 ·simp only[k4,zh,Ca,Ba,Int.reduceBEq]
  grind
 by_cases k5:x.kind=5
 ·simp only[k5,zh,Ca,Ba,Int.reduceBEq]
  grind
 by_cases k7:x.kind=7
 ·simp only[k7,zh,Ca,Ba,Int.reduceBEq]
  grind
 by_cases k10:x.kind=10
 ·simp only[k10,zh,Ca,Ba,Int.reduceBEq]
  grind
 by_cases k11:x.kind=11
 ·simp only[k11,zh,Ca,Ba,Int.reduceBEq]
  grind
 by_cases k12:x.kind=12
 ·simp only[k12,zh,Ca,Ba,Int.reduceBEq]
  grind
 simp only[b9,Ha.2 k1,Ha.2 k2,Ha.2 k3,Ha.2 k4,Ha.2 k5,Ha.2 k7,Ha.2 k10,Ha.2 k11,Ha.2 k12,zh,Ca,Ba,Bool.or_self];cases decide (13<=x.kind)<;>cases decide (x.kind<=24)<;>cases a4<;>cases a5<;>cases a6<;>cases a7<;>rfl
theorem bP {R:Type} {step:Int->Option (LO Int Unit R)} {k:Unit->Option R} (n:Nat) (p:Nat->Bool) (r:R)
  (c: ∀(i:Nat),i<n->step (i:Int)=some (bif p i then .again ((i+1:Nat):Int)else .ret r)) (a:step (n:Int)=some (.out ())):
  Za step 0 k=bif (List.range n).all p then k ()else some r:=by
 have e:=Pv (k:=k) (List.range n) (fun i=>bif p i then none else some r) () (fun i b=> ?_) (by simpa using a)
 ·rw[e,cz]
  grind
 grind
def Kj:List ze->Bool
 |[]=>false
 |s::r=>bif s.kind==13 then(match r with|u::_=>u.kind==5|[]=>false)else s.kind==5
def Ah:List ze->Bool
 |[]=>false
 |s::_=>s.kind==13
def rf(t:ze):Bool:=t.kind==2&&lowS t.text==[117,114,108]
def okAt:List ze->Bool
 |[]=>true
 |t::r=>(!(t.kind==9&&t.text==[92])||Ah r)&&(!(rf t)||Kj r)
def ll(l:List ze)(i:Nat):Bool:=Pf (l.getD i default)&&okAt (l.drop i)
def gluS(l:List ze):Int:=bif decide (l.length<=1500)then(bif (List.range l.length).all (ll l)then 0 else 8)else 4
theorem Jq(l:List ze)(i:Nat)(k:Int):ZZ (((i:Int),k),l)=some (match l[i]? with|some t=>t.kind==k|none=>false):=by
 unfold ZZ;by_cases h:i<l.length
 ·simp only[qD h,zx,Zo h,zb,Aa,Ca,Ta h]
 ·have e:decide ((i:Int)<(l.length:Int))=false:=Ra (by omega);simp only[e,zP,zb,Aa,Ba,List.getElem?_eq_none (Nat.le_of_not_lt h)]
theorem Yp:lowS [117,114,108]=[117,114,108]:=by decide
theorem M6{t:ze}{r:List ze}(h:t.text.length<=big): ∃n:Int,QV (t::r)=some n/\(n==0)= !okAt (t::r):=by
 have e0:geti (t::r) 0=some t:=rfl;have p1:=Jq (t::r) 1 13;have p15:=Jq (t::r) 1 5;have p25:=Jq (t::r) 2 5;unfold QV;simp only[e0,zb,Aa,iG h (show([117,114,108]:Str).length<=big by decide),Yp,ZY];simp only[Int.natCast_one]at p1 p15;replace p25:ZZ ((2,5),t::r)=_:=p25;rw[p1];unfold okAt rf;cases hd:(t.kind==9&&t.text==[92])with
 |true=>
  have hk:t.kind=9:=by rw[Fa,Cb]at hd;exact hd.1
  have ht:(t.text==[92])=true:=by rw[Fa]at hd;exact hd.2
  simp only[hk,ht,Int.reduceBEq,Ca,Ba,Aa];cases r with
  |nil=>exact⟨_,rfl,rfl⟩
  |cons s r=>
   show∃n:Int,(bif !(s.kind==13)then some 0 else some 2)=some n/\(n==0)= !((!true||s.kind==13)&&_);cases s.kind==13
   ·simp_all
   simp_all
 |false=>
  have hc:(bif t.kind==9 then t.text==[92]else false)=false:=by
   cases h9:t.kind==9
   ·rfl
   ·grind
  simp only[hc,hd,Ba,Va,Wd,ma];cases hu:(t.kind==2&&lowS t.text==[117,114,108])with
  |false=>
   have:(bif t.kind==2 then bif t.kind==2 then lowS t.text==[117,114,108]else default else false)=false:=by
    cases h2:t.kind==2
    ·rfl
    ·grind
   rw[this]
   grind
  |true=>
   rw[Fa]at hu;rw[hu.1,hu.2];simp only[Ca,Aa];cases r with
   |nil=>exact⟨0,by simp[p15],rfl⟩
   |cons s r=>
    cases hs:s.kind==13 with
    |false=>
     have e1:(match(t::s::r)[1]? with|some t=>t.kind==13|none=>false)=false:=hs;have e5:ZZ ((1,5),t::s::r)=some (s.kind==5):=p15;simp only[e1,Ba,zh,e5,Aa,Kj,hs];cases s.kind==5
     ·grind
     ·exact⟨2,by rfl,rfl⟩
    |true=>
     have e1:(match(t::s::r)[1]? with|some t=>t.kind==13|none=>false)=true:=hs;simp only[e1,Ca,zh,p25,Aa,Kj,hs];cases r with
     |nil=>grind
     |cons u r=>
      show∃n:Int,(bif !(u.kind==5)then some 0 else some (w64 (2+1)))=some n/\(n==0)= !(!true||u.kind==5);cases u.kind==5
      ·grind
      ·exact⟨3,rfl,rfl⟩
theorem IP(l:List ze):decide ((l.length:Int)>1500)= !decide (l.length<=1500):=oC _ 1500
theorem nQ{l:List ze}(h: ∀t∈l,t.text.length<=big/\t.unit.length<=big):Ul l=some (gluS l):=by
 unfold Ul gluS;rw[IP];cases e:decide (l.length<=1500)with
 |false=>rfl
 |true=>
  have e:=Ob e;simp only[Ya,Ba,Ca];refine(bP l.length (ll l) 8 (fun i a=> ?_) ?_).trans ?_
  ·obtain⟨d,j⟩:=h _ (Ac a);have b:l.getD i default=l[i]:=by simp[a]
   have c:=Ab a;obtain⟨n,f,k⟩:=M6 (t:=l[i]) (r:=l.drop (i+1)) d;rw[<-c]at f k;have g:decide ((i:Int)<=(l.length:Int))=true:=Ea (by omega);unfold ll;simp only[qD a,Ca,Zo a,zb,Aa,U3 d j,iC,g,ma,Wd,Zi,Sa,f,ZY,ZC a (show l.length<=big by unfold big;omega),b]
   grind
  ·grind
  grind
theorem tF{α:Type}{l:List α}{i:Nat}{s:α}{r:List α}(h:l.drop i=s::r):i<l.length/\geti l (i:Int)=some s/\l.drop (i+1)=r:=by
 have a:i<l.length:=by
  rcases Lc i l.length with b|b
  ·exact b
  ·rw[De b]at h;cases h
 rw[Ab a]at h;injection h with d c;exact⟨a,by rw[Zo a,d],c⟩
theorem sF{α:Type}{l:List α}{i:Nat}(h:l.drop i=[])(hi:i<=l.length):i=l.length:=by have:=Ud.1 h;omega
theorem MV{l:List ze}{i:Nat}(hi:i<l.length)(v:l.length<=1500):
  zS (X:=Int) (R:=LX Unit (LO Int Unit Int)) (zb (zq (decide (((i+1:Nat):Int)<(l.length:Int))) (geti l ((i+1:Nat):Int)) (default:ze)) fun m=>bif bif decide (((i+1:Nat):Int)<(l.length:Int))then m.kind==13 else false then some (LX.out (w64 (((i+1:Nat):Int)+1)))else some (LX.out ((i+1:Nat):Int)))
   (fun a=>zb (zq (!(decide (a>=(l.length:Int)))) (geti l a) (default:ze)) fun h=>bif bif decide (a>=(l.length:Int))then true else h.kind != 5 then some (LX.ret (LO.ret 8))else some (LX.out ()))=bif Kj (l.drop (i+1))then some (LX.out ())else some (LX.ret (LO.ret 8)):=by
 cases f:l.drop (i+1)with
 |nil=> have k:=sF f (by omega);have o:decide (((i+1:Nat):Int)<(l.length:Int))=false:=Ra (by omega);have b:decide (((i+1:Nat):Int)>=(l.length:Int))=true:=Ea (by omega);simp only[o,b,zP,zb,Aa,Ba,Ca,zh,Ya,Kj]
 |cons s r=>
  obtain⟨c,e,d⟩:=tF f;have b:decide (((i+1:Nat):Int)>=(l.length:Int))=false:=Ra (by omega);have n:w64 (((i+1:Nat):Int)+1)=((i+1+1:Nat):Int):=ZC c (by unfold big;omega);simp only[qD c,zx,e,zb,Aa,Ca,n,Kj];cases p:s.kind==13 with
  |false=>
   simp only[Ba,zh,b,Va,zx,e,Aa,bne]
   grind
  |true=>
   simp only[Ca,zh];cases r with
   |nil=> have k:=sF d (by omega);simp_all
   |cons u r=>
    obtain⟨t,j,q⟩:=tF d;have g:decide (((i+1+1:Nat):Int)>=(l.length:Int))=false:=Ra (by omega);simp only[g,Va,zx,j,Aa,Ba,bne]
    grind
theorem nV{l:List ze}{i:Nat}(hi:i<l.length)(d:Bool)(A B:Option (LO Int Unit Int)):
  (zb (zq (!(((i+1:Nat):Int)==(l.length:Int))&&d) (geti l ((i+1:Nat):Int)) (default:ze)) fun a=>bif bif d then bif ((i+1:Nat):Int)==(l.length:Int)then true else a.kind != 13 else false then A else B)=bif !d||Ah (l.drop (i+1))then B else A:=by
 cases d with
 |false=>simp_all
 |true=>
  cases c:l.drop (i+1)with
  |nil=> have h:=sF c (by omega);have b:(((i+1:Nat):Int)==(l.length:Int))=true:=Cb.2 (by omega);simp only[b,Ya,Pb,zP,zb,Aa,Ca,Ah,Bool.or_self,Ba]
  |cons s r=>
   obtain⟨f,e,g⟩:=tF c;have b:(((i+1:Nat):Int)==(l.length:Int))=false:=Ha.2 (by omega);simp only[b,Va,ma,zx,e,zb,Aa,Ca,Ah,Ba,Ya,Gc,bne]
   grind
theorem WU(b:Bool)(t u:ze)(p:ze->Bool):(bif b then p (bif b then t else u)else false)=(b&&p t):=by cases b<;>rfl
theorem J7(k:Az){l:List ze}(h: ∀t∈l,t.text.length<=big/\t.unit.length<=big):Ho l=some (gluS l):=by
 unfold Ho gluS;rw[IP];cases e:decide (l.length<=1500)with
 |false=>rfl
 |true=>
  have e:=Ob e;simp only[Ya,Ba,Ca];refine(bP l.length (ll l) 8 (fun i a=> ?_) ?_).trans ?_
  ·obtain⟨g,p⟩:=h _ (Ac a);have d:l.getD i default=l[i]:=by simp[a]
   have f:=Ab a;have q:w64 ((i:Int)+1)=((i+1:Nat):Int):=ZC a (by unfold big;omega);have m:w64 (((i+1:Nat):Int)+1)=((i+2:Nat):Int):=ZC (n:=i+2) (by omega) (by unfold big;omega);unfold ll;rw[f,d];simp only[qD a,Ca,Zo a,zb,Aa,K5 k g p,q];cases s:Pf l[i]with
   |false=>rfl
   |true=>
    simp only[Ya,Ba,ZY,Aa,ma];have j:=MV a e;have o:=nV a (l[i].kind==9&&l[i].text==[92]) (some (LO.ret 8)) (some (LO.again ((i+1:Nat):Int)));simp only[zb]at j o;have b:(bif l[i].kind==2 then bif l[i].kind==2 then lowS (bif l[i].kind==2 then l[i]else default).text==[117,114,108]else default else false)=rf l[i]:=by unfold rf;cases l[i].kind==2<;>rfl
    have r:(zq (l[i].kind==2) (Z9 ((bif l[i].kind==2 then l[i]else default).text,[117,114,108])) (default:Bool))=some (bif l[i].kind==2 then lowS (bif l[i].kind==2 then l[i]else default).text==[117,114,108]else default):=by
     cases u:l[i].kind==2 with
     |false=>rfl
     |true=> show Z9 (l[i].text,[117,114,108])=some (lowS l[i].text==[117,114,108]);rw[iF g (by decide),Yp]
    have c:(bif l[i].kind==9 then(bif l[i].kind==9 then l[i]else default).text==[92]else false)=(l[i].kind==9&&l[i].text==[92]):=WU (l[i].kind==9) l[i] default fun t=>t.text==[92];simp only[r,Aa,b,c,j,okAt];cases rf l[i]with
    |false=>
     simp only[Ba,zh,Va,Wd,Lb]
     grind
    |true=>
     simp only[Ca,Ya,Gc];cases Kj (l.drop (i+1))with
     |false=>simp_all
     |true=>
      simp only[Ca,zh,Lb]
      grind
  ·grind
  grind
theorem K7{l:List ze}(h: ∀t∈l,t.text.length<=big/\t.unit.length<=big):Ho l=some (gluS l):=J7 I7 h
set_option maxRecDepth 100000
def partT(r:Nat)(p:Bool):Str:=bif (vg r).isEmpty then(bif p then [48]else [])else vg r
theorem aj{r:Nat}(h:r<1000)(p:Bool):(partT r p).all digB=true/\(partT r p).length<=3/\valG 0 (partT r p)*10 ^ (3 - (partT r p).length)=r/\mi r p=(bif (partT r p).isEmpty then []else 46::partT r p)/\((partT r p).isEmpty=((r==0)&& !p)):=by
 have f:=bz r h;simp only[Lt,Fa,Kb,Cb]at f;obtain⟨⟨⟨⟨a,b⟩,c⟩,d⟩,e⟩:=f;unfold partT mi;cases g:(vg r).isEmpty with
 |true=>
  have i:r=0:=by rw[g]at d;exact Cb.1 d.symm
  subst i;cases p<;>refine⟨by decide,by decide,by decide,rfl,rfl⟩
 |false=>
  grind
theorem vK{l:Str}(h:(l.all fun b=>digB b||b==46)=true):Ug l=true:=by
 unfold Ug;rw[Rb]at h ⊢;intro b hb;have:=h b hb;refine Ea ?_;rw[Jc]at this;rcases this with h1|h1
 ·have:=Un h1;omega
 simp_all
theorem uK{m:Nat}(p:Bool):((Yf m p).all fun b=>digB b||b==46)=true:=by
 obtain⟨d,_,_⟩:=gp (m / 1000);obtain⟨g,_,_,e,_⟩:=aj (r:=m%1000) (by omega) p;have f: ∀l:Str,l.all digB=true->(l.all fun b=>digB b||b==46)=true:=by intro l a;rw[Rb]at a ⊢;intro b c;rw[a b c];rfl
 unfold Yf
 grind
theorem bu(u:Nat): ∃c r,Lib.decDigits u=c::r/\digB c=true:=by
 obtain⟨b,_,a⟩:=gp u;cases h:Lib.decDigits u with
 |nil=>exact absurd h a
 |cons c r=>grind
theorem Qt{c:UInt8}(h:digB c=true):c≠45/\c≠43/\c≠46/\c≠0/\List.contains [43,45] c=false:=by
 have: ∀n:Nat,n<256->digB (UInt8.ofNat n)=true->UInt8.ofNat n≠45/\UInt8.ofNat n≠43/\UInt8.ofNat n≠46/\UInt8.ofNat n≠0/\List.contains [43,45] (UInt8.ofNat n)=false:=by decide+kernel
 have:=this c.toNat (Bb c);simp_all
theorem vV{m:Nat}(p:Bool): ∃f,Lib.cut (Yf m p) [46]=(Lib.decDigits (m / 1000),partT (m%1000) p,f):=by
 obtain⟨a,_,_⟩:=gp (m / 1000);obtain⟨_,_,_,b,_⟩:=aj (r:=m%1000) (by omega) p;unfold Yf Lib.cut;rw[XA,b];cases c:(partT (m%1000) p).isEmpty with
 |true=> rw[Ca,ja,nD _ a,Ja (by decide)];simp_all
 |false=> rw[Ba,oD _ _ a,Ka (by omega)];simp_all
theorem F7{n:Int}(S: -1000000000000<=n)(h2:n<=1000000000000)(p:Bool):qc (numT n p)=some n:=by
 obtain⟨m,B⟩: ∃m:Nat,n.natAbs=m:=⟨_,rfl⟩;have k:m<=1000000000000:=by omega
 obtain⟨c,r,E,y⟩:=bu (m / 1000);obtain⟨h,C,_,_,t⟩:=Qt y;have d:Yf m p=c::(r++mi (m%1000) p):=by unfold Yf;rw[E];rfl
 have A:=fu k p;obtain⟨f,j⟩:=vV (m:=m) p;obtain⟨X,L,Y⟩:=gp (m / 1000);obtain⟨T,U,K,V,W⟩:=aj (r:=m%1000) (by omega) p;have H:=Bv (u:=m / 1000) (by omega);have o:short (Yf m p)=true:=Ea (by omega);have w:Lib.trimLeftS (Yf m p) [43,45]=Yf m p:=by rw[d];unfold Lib.trimLeftS;rw[yc,t];rfl
 have J:Lib.trimLeftS (numT n p) [43,45]=Yf m p:=by
  unfold numT;rw[B];by_cases g:n<0
  ·rw[Ka g];show List.dropWhile _ (45::Yf m p)=_;simp_all
  ·grind
 have Q: ∃b,geti (numT n p) 0=some b/\(((b.toNat:Int)==45)=decide (n<0)):=by
  unfold numT;rw[B];by_cases g:n<0
  ·rw[Ka g,Ea g];exact⟨45,rfl,rfl⟩
  ·rw[Ja g,Ra g];refine⟨c,by rw[d];rfl,Ha.2 (fun e=>h ?_)⟩;exact Oe.1 (by grind)
 obtain⟨b,x,z⟩:=Q;unfold qc;simp only[zb,x,Aa];have O:Pi (numT n p,[43,45])=some (Yf m p):=by unfold Pi;rw[zm (show(short ([43,45]:Str)&&Ug [43,45])=true by decide)];exact congrArg some J
 have M:di (Yf m p,[101,69])=some (-1):=by unfold di;rw[zm (by simp only[o,vK (uK p),Lb,ma];decide)];exact congrArg some (mD _ (uK p))
 have P:cutF (Yf m p,[46])=some (Lib.decDigits (m / 1000),partT (m%1000) p,f):=by unfold cutF;rw[zm (by exact o)];exact congrArg some j
 simp only[O,M,Aa,show decide ((-1:Int)>=0)=false from rfl,Ba,zh,P];rw[zm (zO.2 (by omega))];have N:w64 (3 - ((partT (m%1000) p).length:Int))=((3 - (partT (m%1000) p).length:Nat):Int):=by rw[zJ (by omega) (by omega)];omega
 rw[N,Ra (by omega),Ba,zh];simp only;have D:maxLen=9223372036854775807:=rfl;rw[zm (Ea (by grind))];have q:valG 0 (Lib.decDigits (m / 1000)++partT (m%1000) p)*10 ^ (3 - (partT (m%1000) p).length)=m:=by rw[Iz,L,yt,Te,K,jf,<-Nat.pow_add,show(partT (m%1000) p).length+(3 - (partT (m%1000) p).length)=3 by omega];omega
 have s:valG 0 (Lib.decDigits (m / 1000)++partT (m%1000) p)<=1000000000000:=by have:=Od (valG 0 (Lib.decDigits (m / 1000)++partT (m%1000) p)) (Mf (n:=3 - (partT (m%1000) p).length) (show 0<10 by omega));omega
 rw[Ze (dV (l:=Lib.decDigits (m / 1000)++partT (m%1000) p) (by grind) (by grind) s (fun v i R=> ?_) (fun v=> ?_))]
 ·rw[Ze (VZ (by omega) (by grind) (fun a b=> ?_)),q]
  ·rw[z];by_cases g:n<0
   ·rw[Ea g,Ca,zh,zJ (by omega) (by omega)];congr 1;omega
   ·rw[Ra g,Ba,zh];congr 1;omega
  ·simp only
 ·have F:decide ((i:Int)<((Lib.decDigits (m / 1000)++partT (m%1000) p).length:Int))=true:=Ea (by omega);have G:decide ((0:Int)<=(i:Int))=true:=Ea (by omega);simp only[F,G,Ca,Lb,Zi,Sa,Ta R,Aa]
 ·grind
theorem aU(n:Int)(p:Bool):(n<0/\numT n p=45::Yf n.natAbs p)\/(¬n<0/\numT n p=Yf n.natAbs p):=by
 unfold numT
 grind
theorem jZ(m:Nat)(p:Bool): ∃c r,Yf m p=c::r/\digB c=true:=by obtain⟨c,r,h,a⟩:=bu (m / 1000);exact⟨c,r++mi (m%1000) p,by unfold Yf;rw[h];rfl,a⟩
theorem Xk{n:Int}(b: -1000000000000<=n)(h2:n<=1000000000000)(p:Bool):(numT n p).length<=25/\1<=(numT n p).length:=by
 have:=fu (m:=n.natAbs) (by omega) p;obtain⟨c,r,a,_⟩:=jZ n.natAbs p;rcases aU n p with⟨_,h⟩|⟨_,h⟩
 ·grind
 grind
theorem ZE{n:Nat}(h:n<256):ZP ((n:Nat):Int)=some (UInt8.ofNat n):=by
 unfold ZP
 grind
theorem LD(n k:Nat)(a:k<=32):bg .i32 (n:Int) (k:Int)=((n / 2 ^ k:Nat):Int):=by
 unfold bg;rw[show(min ((k:Int).toNat) IntKind.i32.bits)=k by show min k 32=k;omega]
 grind
theorem shr6(n:Nat):bg .i32 (n:Int) 6=((n / 64:Nat):Int):=LD n 6 (by omega)
theorem KT(n:Nat):bg .i32 (n:Int) 12=((n / 4096:Nat):Int):=LD n 12 (by omega)
theorem jT(n:Nat):bg .i32 (n:Int) 18=((n / 262144:Nat):Int):=LD n 18 (by omega)
theorem zCM(n:Int):IntKind.u8.wrap n=n%256:=by simp[IntKind.wrap,IntKind.bits,IntKind.signed]
theorem zBj(n:Int):IntKind.u32.wrap n=n%4294967296:=by simp[IntKind.wrap,IntKind.bits,IntKind.signed]
theorem Bl{n:Nat}(h:n<2147483648):w32 (n:Int)=(n:Int):=by show IntKind.i32.wrap _=_;simp only[IntKind.wrap,IntKind.bits,IntKind.signed];simp;omega
theorem LM{n:Nat}(h:n<2147483648):wu32 (n:Int)=(n:Int):=by show IntKind.u32.wrap _=_;rw[zBj];omega
theorem Bq(n:Nat):wu8 (n:Int)=((n%256:Nat):Int):=by show IntKind.u8.wrap (n:Int)=_;rw[zCM];omega
theorem FL(n:Nat):ibOr .u8 128 (Kh .u8 (wu8 (n:Int)) 63)=((128+n%64:Nat):Int):=by
 have: ∀m:Nat,m<256->ibOr .u8 128 (Kh .u8 ((m:Nat):Int) 63)=((128+m%64:Nat):Int):=by decide+kernel
 rw[Bq,this _ (Nat.mod_lt _ (by omega)),show n%256%64=n%64 by omega]
theorem gT{n:Nat}(h:n<32):ibOr .u8 192 (wu8 (n:Int))=((192+n:Nat):Int):=by
 have: ∀m:Nat,m<32->ibOr .u8 192 (wu8 ((m:Nat):Int))=((192+m:Nat):Int):=by decide+kernel
 exact this n h
theorem ow{n:Nat}(h:n<16):ibOr .u8 224 (wu8 (n:Int))=((224+n:Nat):Int):=by
 have: ∀m:Nat,m<16->ibOr .u8 224 (wu8 ((m:Nat):Int))=((224+m:Nat):Int):=by decide+kernel
 exact this n h
theorem fT{n:Nat}(h:n<8):ibOr .u8 240 (wu8 (n:Int))=((240+n:Nat):Int):=by
 have: ∀m:Nat,m<8->ibOr .u8 240 (wu8 ((m:Nat):Int))=((240+m:Nat):Int):=by decide+kernel
 exact this n h
theorem Jg{n m:Nat}(h:n+m<=2000000000):Zc n m 1=true:=by unfold Zc;grind
theorem OT{n:Nat}(o:n≠0)(h:n<16777216){l:Str}(m:l.length<=1000000000):qf (w32 (n:Int),l)=some (l++Ag n):=by
 have j:Zc l.length 1 1=true:=Jg (by omega);have f:Zc l.length 2 1=true:=Jg (by omega);have d:Zc l.length 3 1=true:=Jg (by omega);have g:Zc l.length 4 1=true:=Jg (by omega);have c:(128+n%64)<256:=by omega
 have a:(128+n / 64%64)<256:=by omega
 have b:(128+n / 4096%64)<256:=by omega
 unfold qf qo Ag;simp only[Bl (show n<2147483648 by omega),LM (show n<2147483648 by omega),zb,shr6,KT,jT,FL,ZE c,ZE a,ZE b,Aa];by_cases e:n<128
 ·rw[Ea (by omega),Ca,Bq,ZE (by omega),Aa,zm j,Ja (by omega),Ka e,je (by omega)]
 ·rw[Ra (by omega),Ba];by_cases i:n<2048
  ·rw[Ea (by omega),Ca,gT (by omega),ZE (by omega)];simp only[Aa];rw[zm f,Ja (by omega),Ja (by omega),Ka i];rfl
  ·rw[Ra (by omega),Ba];by_cases p:n<55296
   ·rw[Ea (by omega),Ca,zh];simp only[Ca];rw[ow (by omega),ZE (by omega)];simp only[Aa];rw[zm d,Ja (by omega),Ja (by omega),Ja (by omega),Ka (by omega)];rfl
   ·rw[Ra (by omega),Ba,zh];simp only[MJ];by_cases k:57343<n/\n<65536
    ·rw[Ea (by omega),Ea (by omega),Lb,Ca,ow (by omega),ZE (by omega)];simp only[Aa];rw[zm d,Ja (by omega),Ja (by omega),Ja (by omega),Ka (by omega)];rfl
    ·rw[show(decide ((57343:Int)<(n:Int))&&decide ((n:Int)<=65535))=false by grind,Ba];by_cases q:65535<n/\n<=1114111
     ·rw[Ea (by omega),Ea (by omega),Lb,Ca,fT (by omega),ZE (by omega)];simp only[Aa];rw[zm g,Ja (by omega),Ja (by omega),Ja (by omega),Ja (by omega)];rfl
     ·rw[show(decide ((n:Int)>65535)&&decide ((n:Int)<=1114111))=false by grind,Ba,zm d,Ka (by omega)];rfl
theorem GN{l:Str}(a:l.length<=1000000000):qf (65533,l)=some (l++ui):=by have h:=OT (n:=65533) (by omega) (by omega) a;rw[Bl (by omega)]at h;exact h
theorem Zd{s:Str}{c:UInt8}{l:Str}(h:c::l<:+s):l<:+s:=(Ld c l).trans h
theorem lg{s:Str}{c:UInt8}{l:Str}(d:s.length<=big)(h:c::l<:+s):w64 ((beh s (c::l):Int)+1)=(beh s l:Int):=by
 have b:big=4194304:=rfl;have a:=h.length_le;rw[Ia]at a;have e:beh s (c::l)+1=beh s l:=by unfold beh;rw[Ia];omega
 have:=Eh s l;rw[zJ (by omega) (by omega)];omega
theorem wm(c:UInt8)(l:Str):pk (c::l) 0=(c.toNat:Int):=rfl
theorem eu(c:UInt8):ZP (wu8 ((c.toNat:Nat):Int))=some c:=by rw[Bq,je (Bb c),ZE (Bb c),Nc]
theorem Nu{b:UInt8}(h:qQ b=true):hexN b<16:=Ob h
theorem kI{n d:Nat}(hn:n<16777216)(hd:d<16):ibOr .i64 (Rs .i64 (n:Int) 4) (d:Int)=((16*n+d:Nat):Int):=by
 have h1:Rs .i64 (n:Int) 4=((16*n:Nat):Int):=by unfold Rs;rw[show(2:Int) ^ (min (4:Int).toNat IntKind.i64.bits)=16 from rfl];rw[qJ (by omega) (by omega)];omega
 rw[h1];unfold ibOr;have e:(BitVec.ofInt IntKind.i64.bits ((16*n:Nat):Int) ||| BitVec.ofInt IntKind.i64.bits (d:Int)).toNat=16*n+d:=by
  rw[BitVec.toNat_or,BitVec.toNat_ofInt,BitVec.toNat_ofInt];rw[show((((16*n:Nat):Int)%((2 ^ IntKind.i64.bits:Nat):Int)).toNat)=16*n by show(((16*n:Nat):Int)%18446744073709551616).toNat=_;omega,
   show(((d:Int)%((2 ^ IntKind.i64.bits:Nat):Int)).toNat)=d by show((d:Int)%18446744073709551616).toNat=_;omega]
  have:=Nat.two_pow_add_eq_or_of_lt (i:=4) (b:=d) hd n;rw[show 2 ^ 4*n=16*n from rfl]at this;exact this.symm
 rw[e,qJ (by omega) (by omega)]
theorem Pq(b:UInt8):decide (hexI b<0)= !qQ b:=by
 unfold hexI
 grind
theorem Lu: ∀(k n:Nat) (l:Str),qQ (atS l 0)=false->hexes k n l=(n,l)
 |0,_,_,_=>rfl
 |_+1,_,[],_=>rfl
 |k+1,n,c::r,h=>by unfold hexes;rw[Ja (by rw[show qQ c=false from h];decide)]
theorem nM {R:Type} {step:(Int×Int)×za->Option (LO ((Int×Int)×za) (Int×za) R)} {s l:Str} (j:l<:+s)
  (h: ∀(n i:Nat) (q:Str),q<:+s->n<16777216->i<=6->step (((n:Int),(i:Int)),sr s q)=some (bif decide (i<6)&&qQ (atS q 0)then .again ((((16*n+hexN (atS q 0):Nat):Int),((i+1:Nat):Int)),sr s (q.drop 1))else .out ((n:Int),sr s q))):
  Nf step ((0,0),sr s l)=some (.out (((hexes 6 0 l).1:Int),sr s (hexes 6 0 l).2)):=by
 refine Zv (fun z=> ∃(n i:Nat) (q:Str),z=(((n:Int),(i:Int)),sr s q)/\q<:+s/\i<=6/\n<16 ^ i/\hexes (6 - i) n q=hexes 6 0 l) (fun z=>6 - z.1.2.toNat) _ ?_ ⟨0,0,l,rfl,j,by omega,by decide,rfl⟩;rintro _ ⟨n,i,q,rfl,g,f,k,d⟩;have e:n<16777216:=ib k (Nat.pow_le_pow_right (by omega) f:16 ^ i<=16 ^ 6);rw[h n i q g e f];rcases Lc i 6 with b|m
 ·rw[Ea b,ma];cases a:qQ (atS q 0)with
  |true=>
   cases q with
   |nil=>exact absurd a (by decide)
   |cons c r=>
    have o:=Nu a;refine .inl ⟨_,rfl,⟨16*n+hexN (atS (c::r) 0),i+1,r,rfl,Zd g,by omega,?_,?_⟩,by grind⟩
    ·grind
    ·rw[<-d,show 6 - i=(6 - (i+1))+1 by omega];rw[hexes.eq_def ((6 - (i+1))+1) n (c::r)];simp only;rw[Ka (show qQ c=true from a)];rfl
  |false=> refine .inr (.inl ⟨_,rfl,?_⟩);rw[<-d,Lu _ _ _ a]
 ·rw[Ra (by omega),Pb];refine .inr (.inl ⟨_,rfl,?_⟩);rw[<-d,show 6 - i=0 by omega];rfl
theorem Yz: ∀(k n:Nat) (l:Str),(hexes k n l).1<16 ^ k*(n+1)
 |0,n,l=>by unfold hexes;omega
 |k+1,n,[]=>by have:0<16 ^ (k+1):=Mf (by omega);unfold hexes;exact ib (Nat.lt_succ_self n) (Nat.le_mul_of_pos_left _ this)
 |k+1,n,c::r=>by
  unfold hexes;cases hx:qQ c with
  |true=> rw[Ka rfl];have h1:=Yz k (16*n+hexN c) r;have:=Nu hx;refine ib h1 ?_;rw[Nat.pow_succ,jf];exact Nat.mul_le_mul_left _ (by omega)
  |false=> rw[Ja (by decide)];have:0<16 ^ (k+1):=Mf (by omega);exact ib (Nat.lt_succ_self n) (Nat.le_mul_of_pos_left _ this)
theorem PG{s l acc:Str}{c:UInt8}(hs:s.length<=big)(hr:c::l<:+s)(ha:acc.length<=1000000000):
  zX (sr s (c::l),acc)=some (sr s (zt l).2,acc++(zt l).1):=by
 have hl:=Zd hr;unfold zX;simp only[lg hs hr,zb,Og hs hl,Aa,Im];cases l with
 |nil=> rw[show([]:Str).isEmpty=true from rfl,Ca,GN ha];rfl
 |cons d r=>
  rw[show(d::r).isEmpty=false from rfl,Ba,xw];simp only[Aa,Pq];cases hx:qQ (atS (d::r) 0)with
  |false=>
   rw[Va,Ca,wm,eu];simp only[Aa,lg hs hl];rw[zm (Jg (by omega))];have:zt (d::r)=([d],r):=by show(if qQ d then _ else _)=_;rw[Ja (by rw[show qQ d=false from hx];decide)]
   rw[this]
  |true=>
   rw[Ya,Ba];have he:zt (d::r)=(Ag (hexes 6 0 (d::r)).1,unsp (hexes 6 0 (d::r)).2):=by show(if qQ d then _ else _)=_;rw[Ka (show qQ d=true from hx)]
   rw[he];rw[Ze (nM (l:=d::r) hl (fun n i q hq hn hi=> ?_))]
   ·have hq:(hexes 6 0 (d::r)).2<:+s:=(uu 6 0 _).trans hl;have hlt:=Yz 6 0 (d::r);rw[show 16 ^ 6*(0+1)=16777216 from rfl]at hlt;simp only[Og hs hq,Aa,Eu];have hj:(bif spB (atS (hexes 6 0 (d::r)).2 0)then some (LX.out (((hexes 6 0 (d::r)).1:Int),(⟨s,w64 ((beh s (hexes 6 0 (d::r)).2:Int)+1)⟩:za),acc))else some (LX.out (((hexes 6 0 (d::r)).1:Int),sr s (hexes 6 0 (d::r)).2,acc)):Option (LX (Int×za×List UInt8) (za×List UInt8)))
      =some (LX.out (((hexes 6 0 (d::r)).1:Int),sr s (unsp (hexes 6 0 (d::r)).2),acc)):=by
     cases hh:(hexes 6 0 (d::r)).2 with
     |nil=>rfl
     |cons e t=>
      rw[hh]at hq;rw[show atS (e::t) 0=e from rfl,lg hs hq];show _=some (LX.out (_,sr s (if spB e then t else e::t),acc))
      grind
    rw[hj,zh];simp only;by_cases h0:(hexes 6 0 (d::r)).1=0
    ·rw[h0,show((((0:Nat):Int))==0)=true from rfl,Ca,zh];simp only[Bl (show 65533<2147483648 by omega),show w32 (65533:Int)=65533 from Bl (n:=65533) (by omega),GN ha,Aa];rfl
    ·rw[show(((hexes 6 0 (d::r)).1:Int)==0)=false by grind,Ba,zh];simp only[OT h0 hlt ha,Aa]
   ·simp only[Og hs hq,Aa,xw,Pq];have hb6:decide ((i:Int)<6)=decide (i<6):=by rw[bf];omega
    rw[hb6];cases decide (i<6)with
    |false=>rfl
    |true=>
     rw[Ca,ma];cases hx2:qQ (atS q 0)with
     |false=>rfl
     |true=>
      cases q with
      |nil=>exact absurd hx2 (by decide)
      |cons e t=>
       have hI:hexI (atS (e::t) 0)=(hexN (atS (e::t) 0):Int):=by unfold hexI;rw[Ka hx2]
       rw[hI,kI hn (Nu hx2),lg hs hq,zJ (by omega) (by omega)];rfl
theorem zAb{s r:Str}{k:Nat}(b:s.length<=big)(c:r<:+s)(d:k<=4):zy ((k:Int),sr s r)=some (escS (r.drop k)&&decide (k<r.length)):=by
 unfold zy;simp only[zb,jl b c (show k<=8 by omega),Aa,YT];rw[show w64 ((k:Int)+1)=((k+1:Nat):Int) by rw[zJ (by omega) (by omega)];omega,jl b c (by omega)];unfold escS;rw[QB,QB,Yc];cases h:(atS r k==92)with
 |false=>simp_all
 |true=> have a:k<r.length:=Us (by grind);rw[Ea a];simp only[zq,Ca,Aa,ma,Lb];unfold bne;rw[OI]
theorem zAa{l:Str}(h:escS l=true):0<l.length:=by unfold escS at h;rw[Fa]at h;exact Us (by grind)
theorem dz{s r:Str}{k:Nat}(hs:s.length<=big)(hr:r<:+s)(hk:k<=4):zy ((k:Int),sr s r)=some (escS (r.drop k)):=by
 rw[zAb hs hr hk];cases h:escS (r.drop k)with
 |false=>rfl
 |true=> have:=zAa h;rw[Ec]at this;rw[Ea (by omega)];rfl
theorem wE{s r:Str}(a:s.length<=big)(b:r<:+s):zy (0,sr s r)=some (escS r):=dz (k:=0) a b (by omega)
theorem FI{s r:Str}{k:Nat}(a:s.length<=big)(b:r<:+s)(d:k<=2):zN ((k:Int),sr s r)=some (nmS (r.drop k)):=by
 unfold zN;have c:w64 ((k:Int)+1)=((k+1:Nat):Int):=by rw[zJ (by omega) (by omega)];omega
 simp only[c,zb,jl a b (show k<=8 by omega),jl a b (show k+1<=8 by omega),Aa,zBa,dz a b (show k<=4 by omega),dz a b (show k+1<=4 by omega)];unfold nmS;rw[QB,QB,Ee];unfold bne;rw[Es,Yc];cases atS r k==45 with
 |true=>
  simp only[Ya,Ba,Md];cases fstB (atS r (k+1))with
  |true=>rfl
  |false=>
   simp only[Va,zq,Ca,Ba,Aa,Es]
   grind
 |false=> simp only[Va,Ca];cases fstB (atS r k)<;>cases escS (r.drop k)<;>rfl
theorem LV(n:Nat):(Ag n).length<=4:=by
 unfold Ag ui
 grind
theorem Sn(l:Str):(zt l).1.length<=4:=by
 cases l with
 |nil=>show ui.length<=4;decide
 |cons c r=>
  show(if qQ c then(Ag (hexes 6 0 (c::r)).1,unsp (hexes 6 0 (c::r)).2)else([c],r)).1.length<=4;split
  ·exact LV _
  grind
theorem zQ(c:UInt8)(r:Str):zo (c::r)=if letB c then((c::(zo r).1),(zo r).2)
  else if escS (c::r)then((zt r).1++(zo (zt r).2).1,(zo (zt r).2).2)
  else([],c::r):=by rw[zo]
theorem qR:zo []=([],[]):=by rw[zo]
theorem zCj(l:Str):(pk l 0 != -1)= !l.isEmpty:=by unfold bne;rw[Im]
theorem ww{s r:Str}(i:s.length<=big)(k:r<:+s):zU (sr s r)=some ((zo r).1,sr s (zo r).2):=by
 have m:big=4194304:=rfl;unfold zU;refine JG (r:=((zo r).1,sr s (zo r).2)) ?_;refine Zv (fun z=> ∃(q a:Str),z=(sr s q,a)/\q<:+s/\a.length+4*q.length<=4*s.length/\a++(zo q).1=(zo r).1/\(zo q).2=(zo r).2) (fun z=>s.length - z.1.at_.toNat) _ ?_ ⟨r,[],rfl,k,by grind,rfl,rfl⟩;rintro _ ⟨q,a,rfl,f,j,d,b⟩;simp only[zb,Og i f,Aa,jL];cases q with
 |nil=>
  refine .inr (.inr ⟨_,rfl,?_⟩);rw[qR]at d b
  grind
 |cons c t=>
  have g:=f.length_le;rw[Ia]at g j;rw[show atS (c::t) 0=c from rfl];rw[zQ]at d b;cases e:letB c with
  |true=>
   rw[e,Ka rfl]at d b;refine .inl ⟨(sr s t,a++[c]),?_,⟨t,a++[c],rfl,Zd f,by grind,by grind,b⟩,?_⟩
   ·rw[Ca,wm,eu];simp only[Aa];rw[zm (Jg (by omega)),lg i f]
   ·show s.length - beh s t<s.length - beh s (c::t);unfold beh;grind
  |false=>
   rw[e,Ja (by decide)]at d b;rw[Ba,zCj,show(c::t).isEmpty=false from rfl,wE i f];cases h:escS (c::t)with
   |true=>
    rw[h,Ka rfl]at d b;have l:=Sn t;have n:=Zg t;refine .inl ⟨(sr s (zt t).2,a++(zt t).1),?_,⟨_,_,rfl,(Zh t).trans (Zd f),by grind,by grind,b⟩,?_⟩
    ·simp only[Va,zq,Ca,Aa,PG i f (show a.length<=1000000000 by omega)]
    ·show s.length - beh s (zt t).2<s.length - beh s (c::t);unfold beh;grind
   |false=> simp_all
theorem Jj(l:Str):(zo l).2<:+l:=by
 match l with
 |[]=>rw[qR];grind
 |c::r=>
  rw[zQ];split
  ·exact(Jj r).trans (Ld c r)
  ·split
   ·have:=Zg r;exact(Jj (zt r).2).trans ((Zh r).trans (Ld c r))
   grind
termination_by l.length
decreasing_by
 all_goals grind
end Go.Lv.VT
