/- Tokens that can be written: the program's check. -/
import Derived.Test.YtcdeccnjlkkejaaGreatDoorLaw
set_option linter.unusedSimpArgs false
set_option linter.unusedVariables false
namespace Go.Lv.VT
theorem zAt(g d:Bool)(b c:UInt8):(bif g then namN (bif g then b else c).toNat else d)=bif g then namN b.toNat else d:=by cases g<;>rfl
theorem D5{x:zb}(h1:x.text.length<=big)(h2:x.unit.length<=big):Vu x=some (Nf x):=by
 unfold Vu;rw[zm (Ze.2 (by grind))];simp only[ze,GA,Aa];have hn:decide (Lib.indexByte (x.text++x.unit) (0:Int).toNat.toUInt8<0)=(Zp x.text&&Zp x.unit):=by rw[uT,DU,M3,Bool.not_not]
 simp only[hn,IQ,Xq,Qy,Aa,ge_iff_le,bne];have hb:=uV x.text;unfold Nf rngS;by_cases k9:x.kind=9
 ·simp only[k9,Int.reduceBEq,Ca,Ba,zh,Ke,Jc];cases ht:x.text with
  |nil=>
   have:Zp ([]:Str)=true:=rfl;simp only[this,Eb];cases Zp x.unit<;>rfl
  |cons b r=>
   cases r with
   |nil=>
    have hd:=dW b;have e1:((([b]:Str).length:Int)==1)=true:=rfl;have e2:geti [b] 0=some b:=rfl;have e3:(([b]:Str)==[45])=(b==45):=by show((b==45)&&true)=_;rw[Ib]
    have e4:Zp [b]= !(b==0):=by show((!(b==0))&&true)=_;rw[Ib]
    have e5:delS [b]=vg b.toNat:=rfl;simp only[e1,e2,e3,e4,e5,l7,FP,Qy,Aa,zAt,<-hd];cases hu:x.unit with
    |nil=>
     have:Zp ([]:Str)=true:=rfl;simp only[this,Ib];generalize (Jr.any fun c=>c==b)=a1;cases namN b.toNat<;>cases (b==0)<;>cases (b==45)<;>cases a1<;>cases (x.num==0)<;>cases x.flag<;>rfl
    |cons c s=> simp_all
   |cons c r=>
    have e1:(((b::c::r:Str).length:Int)==1)=false:=Ga.2 (by grind);have e3:((b::c::r:Str)==[45])=false:=by show((b==45)&&false)=_;rw[Be]
    have e5:delS (b::c::r)=false:=rfl;simp only[e1,e3,e5];simp_all
 have b9:=Ga.2 k9;have hu:(x.unit==[])=true->Zp x.unit=true:=fun h=>by rw[Ab]at h;rw[h];rfl
 have htx:(x.text==[])=true->Zp x.text=true:=fun h=>by rw[Ab]at h;rw[h];rfl
 rw[<-hb];generalize hl45:(x.text==[45])=a11 at*;generalize (List.isPrefixOf [45,45] x.text)=a12 at*;generalize numS x.text=a3 at*;generalize Zp x.text=a1 at*;generalize Zp x.unit=a2 at*;generalize (x.text==[])=a4 at*;generalize (x.unit==[])=a5 at*;generalize (x.num==0)=a6 at*;generalize x.flag=a7 at*;generalize decide (-1000000000000<=x.num)=a8 at*;generalize decide (x.num<=1000000000000)=a9 at*;generalize (Int.tmod x.num 1000==0)=a10 at*;clear hb hn hl45;have K: ∀k:Int,k∈[1,2,3,4,5,7,10,11,12]->x.kind=k->True:=fun _ _ _=>trivial;clear K;by_cases k1:x.kind=1
 ·simp only[k1,zh,Ca,Ba,Int.reduceBEq]
  grind
 by_cases k2:x.kind=2
 ·simp only[k2,zh,Ca,Ba,Int.reduceBEq]
  grind
 by_cases k3:x.kind=3
 ·simp only[k3,zh,Ca,Ba,Int.reduceBEq]
  grind
 by_cases k4:x.kind=4
 ·simp only[k4,zh,Ca,Ba,Int.reduceBEq]
  grind
 by_cases k5:x.kind=5
 ·simp only[k5,zh,Ca,Ba,Int.reduceBEq]
  grind
 by_cases k7:x.kind=7
 ·simp only[k7,zh,Ca,Ba,Int.reduceBEq]
  grind
 by_cases k10:x.kind=10
 ·simp only[k10,zh,Ca,Ba,Int.reduceBEq]
  grind
 by_cases k11:x.kind=11
 ·simp only[k11,zh,Ca,Ba,Int.reduceBEq]
  grind
 by_cases k12:x.kind=12
 ·simp only[k12,zh,Ca,Ba,Int.reduceBEq]
  grind
 simp only[b9,Ga.2 k1,Ga.2 k2,Ga.2 k3,Ga.2 k4,Ga.2 k5,Ga.2 k7,Ga.2 k10,Ga.2 k11,Ga.2 k12,zh,Ca,Ba,Bool.or_self];cases decide (13<=x.kind)<;>cases decide (x.kind<=24)<;>cases a4<;>cases a5<;>cases a6<;>cases a7<;>rfl
theorem iN {R:Type} {step:Int->Option (LO Int Unit R)} {k:Unit->Option R} (n:Nat) (p:Nat->Bool) (r:R)
  (c: ∀(i:Nat),i<n->step (i:Int)=some (bif p i then .again ((i+1:Nat):Int)else .ret r)) (a:step (n:Int)=some (.out ())):
  Zg step 0 k=bif (List.range n).all p then k ()else some r:=by
 have e:=DN (k:=k) (List.range n) (fun i=>bif p i then none else some r) () (fun i b=> ?_) (by simpa using a)
 ·rw[e,KF]
  grind
 grind
def Wi:List zb->Bool
 |[]=>false
 |s::r=>bif s.kind==13 then(match r with|u::_=>u.kind==5|[]=>false)else s.kind==5
def pg:List zb->Bool
 |[]=>false
 |s::_=>s.kind==13
def df(t:zb):Bool:=t.kind==2&&lowS t.text==[117,114,108]
def okAt:List zb->Bool
 |[]=>true
 |t::r=>(!(t.kind==9&&t.text==[92])||pg r)&&(!(df t)||Wi r)
def Jl(l:List zb)(i:Nat):Bool:=Nf (l.getD i default)&&okAt (l.drop i)
def gluS(l:List zb):Int:=bif decide (l.length<=1500)then(bif (List.range l.length).all (Jl l)then 0 else 8)else 4
theorem Gp(l:List zb)(i:Nat)(k:Int):ZJ (((i:Int),k),l)=some (match l[i]? with|some t=>t.kind==k|none=>false):=by
 unfold ZJ;by_cases h:i<l.length
 ·simp only[Q7 h,zH,Z8 h,ze,Aa,Ca,Sa h]
 ·have e:decide ((i:Int)<(l.length:Int))=false:=Ua (by omega);simp only[e,Zb,ze,Aa,Ba,List.getElem?_eq_none (Nat.le_of_not_lt h)]
theorem Xo:lowS [117,114,108]=[117,114,108]:=by decide
theorem I5{t:zb}{r:List zb}(h:t.text.length<=big): ∃n:Int,QA (t::r)=some n/\(n==0)= !okAt (t::r):=by
 have e0:geti (t::r) 0=some t:=rfl;have p1:=Gp (t::r) 1 13;have p15:=Gp (t::r) 1 5;have p25:=Gp (t::r) 2 5;unfold QA;simp only[e0,ze,Aa,OG h (show([117,114,108]:Str).length<=big by decide),Xo,Qy];simp only[Int.natCast_one]at p1 p15;replace p25:ZJ ((2,5),t::r)=_:=p25;rw[p1];unfold okAt df;cases hd:(t.kind==9&&t.text==[92])with
 |true=>
  have hk:t.kind=9:=by rw[Ea,Ab]at hd;exact hd.1
  have ht:(t.text==[92])=true:=by rw[Ea]at hd;exact hd.2
  simp only[hk,ht,Int.reduceBEq,Ca,Ba,Aa];cases r with
  |nil=>exact⟨_,rfl,rfl⟩
  |cons s r=>
   show∃n:Int,(bif !(s.kind==13)then some 0 else some 2)=some n/\(n==0)= !((!true||s.kind==13)&&_);cases s.kind==13
   ·simp_all
   simp_all
 |false=>
  have hc:(bif t.kind==9 then t.text==[92]else false)=false:=by
   cases h9:t.kind==9
   ·rfl
   ·grind
  simp only[hc,hd,Ba,ma,Wd,Eb];cases hu:(t.kind==2&&lowS t.text==[117,114,108])with
  |false=>
   have:(bif t.kind==2 then bif t.kind==2 then lowS t.text==[117,114,108]else default else false)=false:=by
    cases h2:t.kind==2
    ·rfl
    ·grind
   rw[this]
   grind
  |true=>
   rw[Ea]at hu;rw[hu.1,hu.2];simp only[Ca,Aa];cases r with
   |nil=>exact⟨0,by simp[p15],rfl⟩
   |cons s r=>
    cases hs:s.kind==13 with
    |false=>
     have e1:(match(t::s::r)[1]? with|some t=>t.kind==13|none=>false)=false:=hs;have e5:ZJ ((1,5),t::s::r)=some (s.kind==5):=p15;simp only[e1,Ba,zh,e5,Aa,Wi,hs];cases s.kind==5
     ·grind
     ·exact⟨2,by rfl,rfl⟩
    |true=>
     have e1:(match(t::s::r)[1]? with|some t=>t.kind==13|none=>false)=true:=hs;simp only[e1,Ca,zh,p25,Aa,Wi,hs];cases r with
     |nil=>grind
     |cons u r=>
      show∃n:Int,(bif !(u.kind==5)then some 0 else some (w64 (2+1)))=some n/\(n==0)= !(!true||u.kind==5);cases u.kind==5
      ·grind
      ·exact⟨3,rfl,rfl⟩
theorem KN(l:List zb):decide ((l.length:Int)>1500)= !decide (l.length<=1500):=zAi _ 1500
theorem J5{l:List zb}(h: ∀t∈l,t.text.length<=big/\t.unit.length<=big):au l=some (gluS l):=by
 unfold au gluS;rw[KN];cases e:decide (l.length<=1500)with
 |false=>rfl
 |true=>
  have e:=Pb e;simp only[Db,Ba,Ca];refine(iN l.length (Jl l) 8 (fun i a=> ?_) ?_).trans ?_
  ·obtain⟨d,j⟩:=h _ (Xc a);have b:l.getD i default=l[i]:=by simp[a]
   have c:=ja a;obtain⟨n,f,k⟩:=I5 (t:=l[i]) (r:=l.drop (i+1)) d;rw[<-c]at f k;have g:decide ((i:Int)<=(l.length:Int))=true:=Fa (by omega);unfold Jl;simp only[Q7 a,Ca,Z8 a,ze,Aa,D5 d j,YC,g,Eb,Wd,Zd,Ra,f,Qy,Z6 a (show l.length<=big by unfold big;omega),b]
   grind
  ·grind
  grind
theorem gF{α:Type}{l:List α}{i:Nat}{s:α}{r:List α}(h:l.drop i=s::r):i<l.length/\geti l (i:Int)=some s/\l.drop (i+1)=r:=by
 have a:i<l.length:=by
  rcases Yc i l.length with b|b
  ·exact b
  ·rw[jd b]at h;cases h
 rw[ja a]at h;injection h with d c;exact⟨a,by rw[Z8 a,d],c⟩
theorem fF{α:Type}{l:List α}{i:Nat}(h:l.drop i=[])(hi:i<=l.length):i=l.length:=by have:=Yd.1 h;omega
theorem dU{l:List zb}{i:Nat}(hi:i<l.length)(v:l.length<=1500):
  zX (X:=Int) (R:=LX Unit (LO Int Unit Int)) (ze (zt (decide (((i+1:Nat):Int)<(l.length:Int))) (geti l ((i+1:Nat):Int)) (default:zb)) fun m=>bif bif decide (((i+1:Nat):Int)<(l.length:Int))then m.kind==13 else false then some (LX.out (w64 (((i+1:Nat):Int)+1)))else some (LX.out ((i+1:Nat):Int)))
   (fun a=>ze (zt (!(decide (a>=(l.length:Int)))) (geti l a) (default:zb)) fun h=>bif bif decide (a>=(l.length:Int))then true else h.kind != 5 then some (LX.ret (LO.ret 8))else some (LX.out ()))=bif Wi (l.drop (i+1))then some (LX.out ())else some (LX.ret (LO.ret 8)):=by
 cases f:l.drop (i+1)with
 |nil=> have k:=fF f (by omega);have o:decide (((i+1:Nat):Int)<(l.length:Int))=false:=Ua (by omega);have b:decide (((i+1:Nat):Int)>=(l.length:Int))=true:=Fa (by omega);simp only[o,b,Zb,ze,Aa,Ba,Ca,zh,Db,Wi]
 |cons s r=>
  obtain⟨c,e,d⟩:=gF f;have b:decide (((i+1:Nat):Int)>=(l.length:Int))=false:=Ua (by omega);have n:w64 (((i+1:Nat):Int)+1)=((i+1+1:Nat):Int):=Z6 c (by unfold big;omega);simp only[Q7 c,zH,e,ze,Aa,Ca,n,Wi];cases p:s.kind==13 with
  |false=>
   simp only[Ba,zh,b,ma,zH,e,Aa,bne]
   grind
  |true=>
   simp only[Ca,zh];cases r with
   |nil=> have k:=fF d (by omega);simp_all
   |cons u r=>
    obtain⟨t,j,q⟩:=gF d;have g:decide (((i+1+1:Nat):Int)>=(l.length:Int))=false:=Ua (by omega);simp only[g,ma,zH,j,Aa,Ba,bne]
    grind
theorem bW{l:List zb}{i:Nat}(hi:i<l.length)(d:Bool)(A B:Option (LO Int Unit Int)):
  (ze (zt (!(((i+1:Nat):Int)==(l.length:Int))&&d) (geti l ((i+1:Nat):Int)) (default:zb)) fun a=>bif bif d then bif ((i+1:Nat):Int)==(l.length:Int)then true else a.kind != 13 else false then A else B)=bif !d||pg (l.drop (i+1))then B else A:=by
 cases d with
 |false=>simp_all
 |true=>
  cases c:l.drop (i+1)with
  |nil=> have h:=fF c (by omega);have b:(((i+1:Nat):Int)==(l.length:Int))=true:=Ab.2 (by omega);simp only[b,Db,Ac,Zb,ze,Aa,Ca,pg,Bool.or_self,Ba]
  |cons s r=>
   obtain⟨f,e,g⟩:=gF c;have b:(((i+1:Nat):Int)==(l.length:Int))=false:=Ga.2 (by omega);simp only[b,ma,Eb,zH,e,ze,Aa,Ca,pg,Ba,Db,Jc,bne]
   grind
theorem uU(b:Bool)(t u:zb)(p:zb->Bool):(bif b then p (bif b then t else u)else false)=(b&&p t):=by cases b<;>rfl
theorem D7(k:Ky){l:List zb}(h: ∀t∈l,t.text.length<=big/\t.unit.length<=big):xu l=some (gluS l):=by
 unfold xu gluS;rw[KN];cases e:decide (l.length<=1500)with
 |false=>rfl
 |true=>
  have e:=Pb e;simp only[Db,Ba,Ca];refine(iN l.length (Jl l) 8 (fun i a=> ?_) ?_).trans ?_
  ·obtain⟨g,p⟩:=h _ (Xc a);have d:l.getD i default=l[i]:=by simp[a]
   have f:=ja a;have q:w64 ((i:Int)+1)=((i+1:Nat):Int):=Z6 a (by unfold big;omega);have m:w64 (((i+1:Nat):Int)+1)=((i+2:Nat):Int):=Z6 (n:=i+2) (by omega) (by unfold big;omega);unfold Jl;rw[f,d];simp only[Q7 a,Ca,Z8 a,ze,Aa,M6 k g p,q];cases s:Nf l[i]with
   |false=>rfl
   |true=>
    simp only[Db,Ba,Qy,Aa,Eb];have j:=dU a e;have o:=bW a (l[i].kind==9&&l[i].text==[92]) (some (LO.ret 8)) (some (LO.again ((i+1:Nat):Int)));simp only[ze]at j o;have b:(bif l[i].kind==2 then bif l[i].kind==2 then lowS (bif l[i].kind==2 then l[i]else default).text==[117,114,108]else default else false)=df l[i]:=by unfold df;cases l[i].kind==2<;>rfl
    have r:(zt (l[i].kind==2) (qG ((bif l[i].kind==2 then l[i]else default).text,[117,114,108])) (default:Bool))=some (bif l[i].kind==2 then lowS (bif l[i].kind==2 then l[i]else default).text==[117,114,108]else default):=by
     cases u:l[i].kind==2 with
     |false=>rfl
     |true=> show qG (l[i].text,[117,114,108])=some (lowS l[i].text==[117,114,108]);rw[UF g (by decide),Xo]
    have c:(bif l[i].kind==9 then(bif l[i].kind==9 then l[i]else default).text==[92]else false)=(l[i].kind==9&&l[i].text==[92]):=uU (l[i].kind==9) l[i] default fun t=>t.text==[92];simp only[r,Aa,b,c,j,okAt];cases df l[i]with
    |false=>
     simp only[Ba,zh,ma,Wd,Ib]
     grind
    |true=>
     simp only[Ca,Db,Jc];cases Wi (l.drop (i+1))with
     |false=>simp_all
     |true=>
      simp only[Ca,zh,Ib]
      grind
  ·grind
  grind
set_option maxRecDepth 100000
def partT(r:Nat)(p:Bool):Str:=bif (mg r).isEmpty then(bif p then [48]else [])else mg r
theorem Fj{r:Nat}(h:r<1000)(p:Bool):(partT r p).all digB=true/\(partT r p).length<=3/\valG 0 (partT r p)*10 ^ (3 - (partT r p).length)=r/\Ni r p=(bif (partT r p).isEmpty then []else 46::partT r p)/\((partT r p).isEmpty=((r==0)&& !p)):=by
 have f:=Xy r h;simp only[kr,Ea,Jb,Ab]at f;obtain⟨⟨⟨⟨a,b⟩,c⟩,d⟩,e⟩:=f;unfold partT Ni;cases g:(mg r).isEmpty with
 |true=>
  have i:r=0:=by rw[g]at d;exact Ab.1 d.symm
  subst i;cases p<;>refine⟨by decide,by decide,by decide,rfl,rfl⟩
 |false=>
  grind
theorem VJ{l:Str}(h:(l.all fun b=>digB b||b==46)=true):Sg l=true:=by
 unfold Sg;rw[Sb]at h ⊢;intro b hb;have:=h b hb;refine Fa ?_;rw[Gc]at this;rcases this with h1|h1
 ·have:=jm h1;omega
 simp_all
theorem UJ{m:Nat}(p:Bool):((Vf m p).all fun b=>digB b||b==46)=true:=by
 obtain⟨d,_,_⟩:=Yo (m / 1000);obtain⟨g,_,_,e,_⟩:=Fj (r:=m%1000) (by omega) p;have f: ∀l:Str,l.all digB=true->(l.all fun b=>digB b||b==46)=true:=by intro l a;rw[Sb]at a ⊢;intro b c;rw[a b c];rfl
 unfold Vf
 grind
theorem Cu(u:Nat): ∃c r,Lib.decDigits u=c::r/\digB c=true:=by
 obtain⟨b,_,a⟩:=Yo u;cases h:Lib.decDigits u with
 |nil=>exact absurd h a
 |cons c r=>grind
theorem Qc{c:UInt8}(h:digB c=true):c≠45/\c≠43/\c≠46/\c≠0/\List.contains [43,45] c=false:=by
 have: ∀n:Nat,n<256->digB (UInt8.ofNat n)=true->UInt8.ofNat n≠45/\UInt8.ofNat n≠43/\UInt8.ofNat n≠46/\UInt8.ofNat n≠0/\List.contains [43,45] (UInt8.ofNat n)=false:=by decide+kernel
 have:=this c.toNat (aa c);simp_all
theorem mW{m:Nat}(p:Bool): ∃f,Lib.cut (Vf m p) [46]=(Lib.decDigits (m / 1000),partT (m%1000) p,f):=by
 obtain⟨a,_,_⟩:=Yo (m / 1000);obtain⟨_,_,_,b,_⟩:=Fj (r:=m%1000) (by omega) p;unfold Vf Lib.cut;rw[oz,b];cases c:(partT (m%1000) p).isEmpty with
 |true=> rw[Ca,Xa,mD _ a,Ja (by decide)];simp_all
 |false=> rw[Ba,nD _ _ a,Ka (by omega)];simp_all
theorem C8{n:Int}(S: -1000000000000<=n)(h2:n<=1000000000000)(p:Bool):ZU (numT n p)=some n:=by
 obtain⟨m,B⟩: ∃m:Nat,n.natAbs=m:=⟨_,rfl⟩;have k:m<=1000000000000:=by omega
 obtain⟨c,r,E,y⟩:=Cu (m / 1000);obtain⟨h,C,_,_,t⟩:=Qc y;have d:Vf m p=c::(r++Ni (m%1000) p):=by unfold Vf;rw[E];rfl
 have A:=Yt k p;obtain⟨f,j⟩:=mW (m:=m) p;obtain⟨X,L,Y⟩:=Yo (m / 1000);obtain⟨T,U,K,V,W⟩:=Fj (r:=m%1000) (by omega) p;have H:=Gu (u:=m / 1000) (by omega);have o:short (Vf m p)=true:=Fa (by omega);have w:Lib.trimLeftS (Vf m p) [43,45]=Vf m p:=by rw[d];unfold Lib.trimLeftS;rw[Eg,t];rfl
 have J:Lib.trimLeftS (numT n p) [43,45]=Vf m p:=by
  unfold numT;rw[B];by_cases g:n<0
  ·rw[Ka g];show List.dropWhile _ (45::Vf m p)=_;simp_all
  ·grind
 have Q: ∃b,geti (numT n p) 0=some b/\(((b.toNat:Int)==45)=decide (n<0)):=by
  unfold numT;rw[B];by_cases g:n<0
  ·rw[Ka g,Fa g];exact⟨45,rfl,rfl⟩
  ·rw[Ja g,Ua g];refine⟨c,by rw[d];rfl,Ga.2 (fun e=>h ?_)⟩;exact Fe.1 (by grind)
 obtain⟨b,x,z⟩:=Q;unfold ZU;simp only[ze,x,Aa];have O:yh (numT n p,[43,45])=some (Vf m p):=by unfold yh;rw[zm (show(short ([43,45]:Str)&&Sg [43,45])=true by decide)];exact congrArg some J
 have M:QL (Vf m p,[101,69])=some (-1):=by unfold QL;rw[zm (by simp only[o,VJ (UJ p),Ib,Eb];decide)];exact congrArg some (xD _ (UJ p))
 have P:cutF (Vf m p,[46])=some (Lib.decDigits (m / 1000),partT (m%1000) p,f):=by unfold cutF;rw[zm (by exact o)];exact congrArg some j
 simp only[O,M,Aa,show decide ((-1:Int)>=0)=false from rfl,Ba,zh,P];rw[zm (Ze.2 (by omega))];have N:w64 (3 - ((partT (m%1000) p).length:Int))=((3 - (partT (m%1000) p).length:Nat):Int):=by rw[zK (by omega) (by omega)];omega
 rw[N,Ua (by omega),Ba,zh];simp only;have D:maxLen=9223372036854775807:=rfl;rw[zm (Fa (by grind))];have q:valG 0 (Lib.decDigits (m / 1000)++partT (m%1000) p)*10 ^ (3 - (partT (m%1000) p).length)=m:=by rw[ry,L,Us,Je,K,af,<-Nat.pow_add,show(partT (m%1000) p).length+(3 - (partT (m%1000) p).length)=3 by omega];omega
 have s:valG 0 (Lib.decDigits (m / 1000)++partT (m%1000) p)<=1000000000000:=by have:=Gd (valG 0 (Lib.decDigits (m / 1000)++partT (m%1000) p)) (Hf (n:=3 - (partT (m%1000) p).length) (show 0<10 by omega));omega
 rw[Za (wV (l:=Lib.decDigits (m / 1000)++partT (m%1000) p) (by grind) (by grind) s (fun v i R=> ?_) (fun v=> ?_))]
 ·rw[Za (bY (by omega) (by grind) (fun a b=> ?_)),q]
  ·rw[z];by_cases g:n<0
   ·rw[Fa g,Ca,zh,zK (by omega) (by omega)];congr 1;omega
   ·rw[Ua g,Ba,zh];congr 1;omega
  ·simp only
 ·have F:decide ((i:Int)<((Lib.decDigits (m / 1000)++partT (m%1000) p).length:Int))=true:=Fa (by omega);have G:decide ((0:Int)<=(i:Int))=true:=Fa (by omega);simp only[F,G,Ca,Ib,Zd,Ra,Sa R,Aa]
 ·grind
theorem xU(n:Int)(p:Bool):(n<0/\numT n p=45::Vf n.natAbs p)\/(¬n<0/\numT n p=Vf n.natAbs p):=by
 unfold numT
 grind
theorem DZ(m:Nat)(p:Bool): ∃c r,Vf m p=c::r/\digB c=true:=by obtain⟨c,r,h,a⟩:=Cu (m / 1000);exact⟨c,r++Ni (m%1000) p,by unfold Vf;rw[h];rfl,a⟩
theorem Wj{n:Int}(b: -1000000000000<=n)(h2:n<=1000000000000)(p:Bool):(numT n p).length<=25/\1<=(numT n p).length:=by
 have:=Yt (m:=n.natAbs) (by omega) p;obtain⟨c,r,a,_⟩:=DZ n.natAbs p;rcases xU n p with⟨_,h⟩|⟨_,h⟩
 ·grind
 grind
theorem Zu{n:Nat}(h:n<256):ZO ((n:Nat):Int)=some (UInt8.ofNat n):=by
 unfold ZO
 grind
theorem sD(n k:Nat)(a:k<=32):Vg .i32 (n:Int) (k:Int)=((n / 2 ^ k:Nat):Int):=by
 unfold Vg;rw[show(min ((k:Int).toNat) IntKind.i32.bits)=k by show min k 32=k;omega]
 grind
theorem shr6(n:Nat):Vg .i32 (n:Int) 6=((n / 64:Nat):Int):=sD n 6 (by omega)
theorem WR(n:Nat):Vg .i32 (n:Int) 12=((n / 4096:Nat):Int):=sD n 12 (by omega)
theorem VR(n:Nat):Vg .i32 (n:Int) 18=((n / 262144:Nat):Int):=sD n 18 (by omega)
theorem zBe(n:Int):IntKind.u8.wrap n=n%256:=by simp[IntKind.wrap,IntKind.bits,IntKind.signed]
theorem VS(n:Int):IntKind.u32.wrap n=n%4294967296:=by simp[IntKind.wrap,IntKind.bits,IntKind.signed]
theorem Sk{n:Nat}(h:n<2147483648):w32 (n:Int)=(n:Int):=by show IntKind.i32.wrap _=_;simp only[IntKind.wrap,IntKind.bits,IntKind.signed];simp;omega
theorem CK{n:Nat}(h:n<2147483648):wu32 (n:Int)=(n:Int):=by show IntKind.u32.wrap _=_;rw[VS];omega
theorem mo(n:Nat):wu8 (n:Int)=((n%256:Nat):Int):=by show IntKind.u8.wrap (n:Int)=_;rw[zBe];omega
theorem cK(n:Nat):ibOr .u8 128 (Bh .u8 (wu8 (n:Int)) 63)=((128+n%64:Nat):Int):=by
 have: ∀m:Nat,m<256->ibOr .u8 128 (Bh .u8 ((m:Nat):Int) 63)=((128+m%64:Nat):Int):=by decide+kernel
 rw[mo,this _ (Nat.mod_lt _ (by omega)),show n%256%64=n%64 by omega]
theorem PR{n:Nat}(h:n<32):ibOr .u8 192 (wu8 (n:Int))=((192+n:Nat):Int):=by
 have: ∀m:Nat,m<32->ibOr .u8 192 (wu8 ((m:Nat):Int))=((192+m:Nat):Int):=by decide+kernel
 exact this n h
theorem Jw{n:Nat}(h:n<16):ibOr .u8 224 (wu8 (n:Int))=((224+n:Nat):Int):=by
 have: ∀m:Nat,m<16->ibOr .u8 224 (wu8 ((m:Nat):Int))=((224+m:Nat):Int):=by decide+kernel
 exact this n h
theorem NR{n:Nat}(h:n<8):ibOr .u8 240 (wu8 (n:Int))=((240+n:Nat):Int):=by
 have: ∀m:Nat,m<8->ibOr .u8 240 (wu8 ((m:Nat):Int))=((240+m:Nat):Int):=by decide+kernel
 exact this n h
theorem Kg{n m:Nat}(h:n+m<=2000000000):zQ n m 1=true:=by unfold zQ;grind
theorem BR{n:Nat}(o:n≠0)(h:n<16777216){l:Str}(m:l.length<=1000000000):ZW (w32 (n:Int),l)=some (l++rf n):=by
 have j:zQ l.length 1 1=true:=Kg (by omega);have f:zQ l.length 2 1=true:=Kg (by omega);have d:zQ l.length 3 1=true:=Kg (by omega);have g:zQ l.length 4 1=true:=Kg (by omega);have c:(128+n%64)<256:=by omega
 have a:(128+n / 64%64)<256:=by omega
 have b:(128+n / 4096%64)<256:=by omega
 unfold ZW Z5 rf;simp only[Sk (show n<2147483648 by omega),CK (show n<2147483648 by omega),ze,shr6,WR,VR,cK,Zu c,Zu a,Zu b,Aa];by_cases e:n<128
 ·rw[Fa (by omega),Ca,mo,Zu (by omega),Aa,zm j,Ja (by omega),Ka e,Ue (by omega)]
 ·rw[Ua (by omega),Ba];by_cases i:n<2048
  ·rw[Fa (by omega),Ca,PR (by omega),Zu (by omega)];simp only[Aa];rw[zm f,Ja (by omega),Ja (by omega),Ka i];rfl
  ·rw[Ua (by omega),Ba];by_cases p:n<55296
   ·rw[Fa (by omega),Ca,zh];simp only[Ca];rw[Jw (by omega),Zu (by omega)];simp only[Aa];rw[zm d,Ja (by omega),Ja (by omega),Ja (by omega),Ka (by omega)];rfl
   ·rw[Ua (by omega),Ba,zh];simp only[bH];by_cases k:57343<n/\n<65536
    ·rw[Fa (by omega),Fa (by omega),Ib,Ca,Jw (by omega),Zu (by omega)];simp only[Aa];rw[zm d,Ja (by omega),Ja (by omega),Ja (by omega),Ka (by omega)];rfl
    ·rw[show(decide ((57343:Int)<(n:Int))&&decide ((n:Int)<=65535))=false by grind,Ba];by_cases q:65535<n/\n<=1114111
     ·rw[Fa (by omega),Fa (by omega),Ib,Ca,NR (by omega),Zu (by omega)];simp only[Aa];rw[zm g,Ja (by omega),Ja (by omega),Ja (by omega),Ja (by omega)];rfl
     ·rw[show(decide ((n:Int)>65535)&&decide ((n:Int)<=1114111))=false by grind,Ba,zm d,Ka (by omega)];rfl
theorem aL{l:Str}(a:l.length<=1000000000):ZW (65533,l)=some (l++Ji):=by have h:=BR (n:=65533) (by omega) (by omega) a;rw[Sk (by omega)]at h;exact h
theorem z8{s:Str}{c:UInt8}{l:Str}(h:c::l<:+s):l<:+s:=(lc c l).trans h
theorem bg{s:Str}{c:UInt8}{l:Str}(d:s.length<=big)(h:c::l<:+s):w64 ((beh s (c::l):Int)+1)=(beh s l:Int):=by
 have b:big=4194304:=rfl;have a:=h.length_le;rw[Ia]at a;have e:beh s (c::l)+1=beh s l:=by unfold beh;rw[Ia];omega
 have:=ng s l;rw[zK (by omega) (by omega)];omega
theorem Im(c:UInt8)(l:Str):pk (c::l) 0=(c.toNat:Int):=rfl
theorem Xt(c:UInt8):ZO (wu8 ((c.toNat:Nat):Int))=some c:=by rw[mo,Ue (aa c),Zu (aa c),Kc]
theorem Bt{b:UInt8}(h:qA b=true):hexN b<16:=Pb h
theorem jH{n d:Nat}(hn:n<16777216)(hd:d<16):ibOr .i64 (tq .i64 (n:Int) 4) (d:Int)=((16*n+d:Nat):Int):=by
 have h1:tq .i64 (n:Int) 4=((16*n:Nat):Int):=by unfold tq;rw[show(2:Int) ^ (min (4:Int).toNat IntKind.i64.bits)=16 from rfl];rw[qc (by omega) (by omega)];omega
 rw[h1];unfold ibOr;have e:(BitVec.ofInt IntKind.i64.bits ((16*n:Nat):Int) ||| BitVec.ofInt IntKind.i64.bits (d:Int)).toNat=16*n+d:=by
  rw[BitVec.toNat_or,BitVec.toNat_ofInt,BitVec.toNat_ofInt];rw[show((((16*n:Nat):Int)%((2 ^ IntKind.i64.bits:Nat):Int)).toNat)=16*n by show(((16*n:Nat):Int)%18446744073709551616).toNat=_;omega,
   show(((d:Int)%((2 ^ IntKind.i64.bits:Nat):Int)).toNat)=d by show((d:Int)%18446744073709551616).toNat=_;omega]
  have:=Nat.two_pow_add_eq_or_of_lt (i:=4) (b:=d) hd n;rw[show 2 ^ 4*n=16*n from rfl]at this;exact this.symm
 rw[e,qc (by omega) (by omega)]
theorem Xp(b:UInt8):decide (hexI b<0)= !qA b:=by
 unfold hexI
 grind
theorem Ws: ∀(k n:Nat) (l:Str),qA (atS l 0)=false->hexes k n l=(n,l)
 |0,_,_,_=>rfl
 |_+1,_,[],_=>rfl
 |k+1,n,c::r,h=>by unfold hexes;rw[Ja (by rw[show qA c=false from h];decide)]
theorem oK {R:Type} {step:(Int×Int)×za->Option (LO ((Int×Int)×za) (Int×za) R)} {s l:Str} (j:l<:+s)
  (h: ∀(n i:Nat) (q:Str),q<:+s->n<16777216->i<=6->step (((n:Int),(i:Int)),sr s q)=some (bif decide (i<6)&&qA (atS q 0)then .again ((((16*n+hexN (atS q 0):Nat):Int),((i+1:Nat):Int)),sr s (q.drop 1))else .out ((n:Int),sr s q))):
  Lf step ((0,0),sr s l)=some (.out (((hexes 6 0 l).1:Int),sr s (hexes 6 0 l).2)):=by
 refine Zw (fun z=> ∃(n i:Nat) (q:Str),z=(((n:Int),(i:Int)),sr s q)/\q<:+s/\i<=6/\n<16 ^ i/\hexes (6 - i) n q=hexes 6 0 l) (fun z=>6 - z.1.2.toNat) _ ?_ ⟨0,0,l,rfl,j,by omega,by decide,rfl⟩;rintro _ ⟨n,i,q,rfl,g,f,k,d⟩;have e:n<16777216:=jb k (Nat.pow_le_pow_right (by omega) f:16 ^ i<=16 ^ 6);rw[h n i q g e f];rcases Yc i 6 with b|m
 ·rw[Fa b,Eb];cases a:qA (atS q 0)with
  |true=>
   cases q with
   |nil=>exact absurd a (by decide)
   |cons c r=>
    have o:=Bt a;refine .inl ⟨_,rfl,⟨16*n+hexN (atS (c::r) 0),i+1,r,rfl,z8 g,by omega,?_,?_⟩,by grind⟩
    ·grind
    ·rw[<-d,show 6 - i=(6 - (i+1))+1 by omega];rw[hexes.eq_def ((6 - (i+1))+1) n (c::r)];simp only;rw[Ka (show qA c=true from a)];rfl
  |false=> refine .inr (.inl ⟨_,rfl,?_⟩);rw[<-d,Ws _ _ _ a]
 ·rw[Ua (by omega),Ac];refine .inr (.inl ⟨_,rfl,?_⟩);rw[<-d,show 6 - i=0 by omega];rfl
theorem Vy: ∀(k n:Nat) (l:Str),(hexes k n l).1<16 ^ k*(n+1)
 |0,n,l=>by unfold hexes;omega
 |k+1,n,[]=>by have:0<16 ^ (k+1):=Hf (by omega);unfold hexes;exact jb (Ve n) (Nat.le_mul_of_pos_left _ this)
 |k+1,n,c::r=>by
  unfold hexes;cases hx:qA c with
  |true=> rw[Ka rfl];have h1:=Vy k (16*n+hexN c) r;have:=Bt hx;refine jb h1 ?_;rw[Nat.pow_succ,af];exact Nat.mul_le_mul_left _ (by omega)
  |false=> rw[Ja (by decide)];have:0<16 ^ (k+1):=Hf (by omega);exact jb (Ve n) (Nat.le_mul_of_pos_left _ this)
theorem eF{s l acc:Str}{c:UInt8}(hs:s.length<=big)(hr:c::l<:+s)(ha:acc.length<=1000000000):
  zV (sr s (c::l),acc)=some (sr s (zq l).2,acc++(zq l).1):=by
 have hl:=z8 hr;unfold zV;simp only[bg hs hr,ze,Lg hs hl,Aa,ll];cases l with
 |nil=> rw[show([]:Str).isEmpty=true from rfl,Ca,aL ha];rfl
 |cons d r=>
  rw[show(d::r).isEmpty=false from rfl,Ba,vv];simp only[Aa,Xp];cases hx:qA (atS (d::r) 0)with
  |false=>
   rw[ma,Ca,Im,Xt];simp only[Aa,bg hs hl];rw[zm (Kg (by omega))];have:zq (d::r)=([d],r):=by show(if qA d then _ else _)=_;rw[Ja (by rw[show qA d=false from hx];decide)]
   rw[this]
  |true=>
   rw[Db,Ba];have he:zq (d::r)=(rf (hexes 6 0 (d::r)).1,unsp (hexes 6 0 (d::r)).2):=by show(if qA d then _ else _)=_;rw[Ka (show qA d=true from hx)]
   rw[he];rw[Za (oK (l:=d::r) hl (fun n i q hq hn hi=> ?_))]
   ·have hq:(hexes 6 0 (d::r)).2<:+s:=(Tu 6 0 _).trans hl;have hlt:=Vy 6 0 (d::r);rw[show 16 ^ 6*(0+1)=16777216 from rfl]at hlt;simp only[Lg hs hq,Aa,Ps];have hj:(bif spB (atS (hexes 6 0 (d::r)).2 0)then some (LX.out (((hexes 6 0 (d::r)).1:Int),(⟨s,w64 ((beh s (hexes 6 0 (d::r)).2:Int)+1)⟩:za),acc))else some (LX.out (((hexes 6 0 (d::r)).1:Int),sr s (hexes 6 0 (d::r)).2,acc)):Option (LX (Int×za×List UInt8) (za×List UInt8)))
      =some (LX.out (((hexes 6 0 (d::r)).1:Int),sr s (unsp (hexes 6 0 (d::r)).2),acc)):=by
     cases hh:(hexes 6 0 (d::r)).2 with
     |nil=>rfl
     |cons e t=>
      rw[hh]at hq;rw[show atS (e::t) 0=e from rfl,bg hs hq];show _=some (LX.out (_,sr s (if spB e then t else e::t),acc))
      grind
    rw[hj,zh];simp only;by_cases h0:(hexes 6 0 (d::r)).1=0
    ·rw[h0,show((((0:Nat):Int))==0)=true from rfl,Ca,zh];simp only[Sk (show 65533<2147483648 by omega),show w32 (65533:Int)=65533 from Sk (n:=65533) (by omega),aL ha,Aa];rfl
    ·rw[show(((hexes 6 0 (d::r)).1:Int)==0)=false by grind,Ba,zh];simp only[BR h0 hlt ha,Aa]
   ·simp only[Lg hs hq,Aa,vv,Xp];have hb6:decide ((i:Int)<6)=decide (i<6):=by rw[decide_eq_decide];omega
    rw[hb6];cases decide (i<6)with
    |false=>rfl
    |true=>
     rw[Ca,Eb];cases hx2:qA (atS q 0)with
     |false=>rfl
     |true=>
      cases q with
      |nil=>exact absurd hx2 (by decide)
      |cons e t=>
       have hI:hexI (atS (e::t) 0)=(hexN (atS (e::t) 0):Int):=by unfold hexI;rw[Ka hx2]
       rw[hI,jH hn (Bt hx2),bg hs hq,zK (by omega) (by omega)];rfl
theorem KT{s r:Str}{k:Nat}(b:s.length<=big)(c:r<:+s)(d:k<=4):zu ((k:Int),sr s r)=some (escS (r.drop k)&&decide (k<r.length)):=by
 unfold zu;simp only[ze,Il b c (show k<=8 by omega),Aa,IR];rw[show w64 ((k:Int)+1)=((k+1:Nat):Int) by rw[zK (by omega) (by omega)];omega,Il b c (by omega)];unfold escS;rw[Qk,Qk,Tc];cases h:(atS r k==92)with
 |false=>simp_all
 |true=> have a:k<r.length:=Dr (by grind);rw[Fa a];simp only[zt,Ca,Aa,Eb,Ib];unfold bne;rw[xA]
theorem NT{l:Str}(h:escS l=true):0<l.length:=by unfold escS at h;rw[Ea]at h;exact Dr (by grind)
theorem Yy{s r:Str}{k:Nat}(hs:s.length<=big)(hr:r<:+s)(hk:k<=4):zu ((k:Int),sr s r)=some (escS (r.drop k)):=by
 rw[KT hs hr hk];cases h:escS (r.drop k)with
 |false=>rfl
 |true=> have:=NT h;rw[ib]at this;rw[Fa (by omega)];rfl
theorem LF{s r:Str}(a:s.length<=big)(b:r<:+s):zu (0,sr s r)=some (escS r):=Yy (k:=0) a b (by omega)
theorem RB{s r:Str}{k:Nat}(a:s.length<=big)(b:r<:+s)(d:k<=2):zN ((k:Int),sr s r)=some (nmS (r.drop k)):=by
 unfold zN;have c:w64 ((k:Int)+1)=((k+1:Nat):Int):=by rw[zK (by omega) (by omega)];omega
 simp only[c,ze,Il a b (show k<=8 by omega),Il a b (show k+1<=8 by omega),Aa,aR,Yy a b (show k<=4 by omega),Yy a b (show k+1<=4 by omega)];unfold nmS;rw[Qk,Qk,Ae];unfold bne;rw[lq,Tc];cases atS r k==45 with
 |true=>
  simp only[Db,Ba,Jd];cases fstB (atS r (k+1))with
  |true=>rfl
  |false=>
   simp only[ma,zt,Ca,Ba,Aa,lq]
   grind
 |false=> simp only[ma,Ca];cases fstB (atS r k)<;>cases escS (r.drop k)<;>rfl
theorem bU(n:Nat):(rf n).length<=4:=by
 unfold rf Ji
 grind
theorem dm(l:Str):(zq l).1.length<=4:=by
 cases l with
 |nil=>show Ji.length<=4;decide
 |cons c r=>
  show(if qA c then(rf (hexes 6 0 (c::r)).1,unsp (hexes 6 0 (c::r)).2)else([c],r)).1.length<=4;split
  ·exact bU _
  grind
theorem zO(c:UInt8)(r:Str):zo (c::r)=if letB c then((c::(zo r).1),(zo r).2)
  else if escS (c::r)then((zq r).1++(zo (zq r).2).1,(zo (zq r).2).2)
  else([],c::r):=by rw[zo]
theorem qB:zo []=([],[]):=by rw[zo]
theorem zAM(l:Str):(pk l 0 != -1)= !l.isEmpty:=by unfold bne;rw[ll]
theorem jv{s r:Str}(i:s.length<=big)(k:r<:+s):zS (sr s r)=some ((zo r).1,sr s (zo r).2):=by
 have m:big=4194304:=rfl;unfold zS;refine pF (r:=((zo r).1,sr s (zo r).2)) ?_;refine Zw (fun z=> ∃(q a:Str),z=(sr s q,a)/\q<:+s/\a.length+4*q.length<=4*s.length/\a++(zo q).1=(zo r).1/\(zo q).2=(zo r).2) (fun z=>s.length - z.1.at_.toNat) _ ?_ ⟨r,[],rfl,k,by grind,rfl,rfl⟩;rintro _ ⟨q,a,rfl,f,j,d,b⟩;simp only[ze,Lg i f,Aa,iJ];cases q with
 |nil=>
  refine .inr (.inr ⟨_,rfl,?_⟩);rw[qB]at d b
  grind
 |cons c t=>
  have g:=f.length_le;rw[Ia]at g j;rw[show atS (c::t) 0=c from rfl];rw[zO]at d b;cases e:letB c with
  |true=>
   rw[e,Ka rfl]at d b;refine .inl ⟨(sr s t,a++[c]),?_,⟨t,a++[c],rfl,z8 f,by grind,by grind,b⟩,?_⟩
   ·rw[Ca,Im,Xt];simp only[Aa];rw[zm (Kg (by omega)),bg i f]
   ·show s.length - beh s t<s.length - beh s (c::t);unfold beh;grind
  |false=>
   rw[e,Ja (by decide)]at d b;rw[Ba,zAM,show(c::t).isEmpty=false from rfl,LF i f];cases h:escS (c::t)with
   |true=>
    rw[h,Ka rfl]at d b;have l:=dm t;have n:=Zf t;refine .inl ⟨(sr s (zq t).2,a++(zq t).1),?_,⟨_,_,rfl,(Zh t).trans (z8 f),by grind,by grind,b⟩,?_⟩
    ·simp only[ma,zt,Ca,Aa,eF i f (show a.length<=1000000000 by omega)]
    ·show s.length - beh s (zq t).2<s.length - beh s (c::t);unfold beh;grind
   |false=> simp_all
theorem Vi(l:Str):(zo l).2<:+l:=by
 match l with
 |[]=>rw[qB];grind
 |c::r=>
  rw[zO];split
  ·exact(Vi r).trans (lc c r)
  ·split
   ·have:=Zf r;exact(Vi (zq r).2).trans ((Zh r).trans (lc c r))
   grind
termination_by l.length
decreasing_by
 all_goals grind
end Go.Lv.VT
