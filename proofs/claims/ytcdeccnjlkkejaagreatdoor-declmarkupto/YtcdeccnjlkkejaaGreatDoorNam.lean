/- Tokens that can be written: the program's check. -/
import Derived.Test.YtcdeccnjlkkejaaGreatDoorLaw
set_option linter.unusedSimpArgs false
set_option linter.unusedVariables false
namespace Go.Lv.VT
theorem zE3(g d:Bool)(b c:UInt8):(bif g then namN (bif g then b else c).toNat else d)=bif g then namN b.toNat else d:=by cases g<;>rfl
theorem A7{x:ze}(h1:x.text.length<=big)(h2:x.unit.length<=big):Vr x=some (mf x):=by
 unfold Vr;rw[zC (si.2 (by grind))];simp only[zb,Gt,Aa];have hn:decide (Lib.indexByte (x.text++x.unit) (0:Int).toNat.toUInt8<0)=(Zi x.text&&Zi x.unit):=by rw[zDw,XE,K7,Bool.not_not]
 simp only[hn,rT,Qr,qa,Aa,ge_iff_le,bne];have hb:=zA2 x.text;unfold mf rngS;by_cases k9:x.kind=9
 ·simp only[k9,Int.reduceBEq,Da,Ba,zh,Ke,Xc];cases ht:x.text with
  |nil=>
   have:Zi ([]:Str)=true:=rfl;simp only[this,ma];cases Zi x.unit<;>rfl
  |cons b r=>
   cases r with
   |nil=>
    have hd:=zAk b;have e1:((([b]:Str).length:Int)==1)=true:=rfl;have e2:geti [b] 0=some b:=rfl;have e3:(([b]:Str)==[45])=(b==45):=by show((b==45)&&true)=_;rw[Rb]
    have e4:Zi [b]= !(b==0):=by show((!(b==0))&&true)=_;rw[Rb]
    have e5:delS [b]=Ih b.toNat:=rfl;simp only[e1,e2,e3,e4,e5,O9,uS,qa,Aa,zE3,<-hd];cases hu:x.unit with
    |nil=>
     have:Zi ([]:Str)=true:=rfl;simp only[this,Rb];generalize (Xu.any fun c=>c==b)=a1;cases namN b.toNat<;>cases (b==0)<;>cases (b==45)<;>cases a1<;>cases (x.num==0)<;>cases x.flag<;>rfl
    |cons c s=> simp_all
   |cons c r=>
    have e1:(((b::c::r:Str).length:Int)==1)=false:=Fa.2 (by grind);have e3:((b::c::r:Str)==[45])=false:=by show((b==45)&&false)=_;rw[Rc]
    have e5:delS (b::c::r)=false:=rfl;simp only[e1,e3,e5];simp_all
 have b9:=Fa.2 k9;have hu:(x.unit==[])=true->Zi x.unit=true:=fun h=>by rw[Ib]at h;rw[h];rfl
 have htx:(x.text==[])=true->Zi x.text=true:=fun h=>by rw[Ib]at h;rw[h];rfl
 rw[<-hb];generalize hl45:(x.text==[45])=a11 at*;generalize (List.isPrefixOf [45,45] x.text)=a12 at*;generalize numS x.text=a3 at*;generalize Zi x.text=a1 at*;generalize Zi x.unit=a2 at*;generalize (x.text==[])=a4 at*;generalize (x.unit==[])=a5 at*;generalize (x.num==0)=a6 at*;generalize x.flag=a7 at*;generalize decide (-1000000000000<=x.num)=a8 at*;generalize decide (x.num<=1000000000000)=a9 at*;generalize (Int.tmod x.num 1000==0)=a10 at*;clear hb hn hl45;have K: ∀k:Int,k∈[1,2,3,4,5,7,10,11,12]->x.kind=k->True:=fun _ _ _=>trivial;clear K;by_cases k1:x.kind=1
 ·simp only[k1,zh,Da,Ba,Int.reduceBEq]
  grind
 by_cases k2:x.kind=2
 ·simp only[k2,zh,Da,Ba,Int.reduceBEq]
  grind
 by_cases k3:x.kind=3
 ·simp only[k3,zh,Da,Ba,Int.reduceBEq]
  grind
 by_cases k4:x.kind=4
 ·simp only[k4,zh,Da,Ba,Int.reduceBEq]
  grind
 by_cases k5:x.kind=5
 ·simp only[k5,zh,Da,Ba,Int.reduceBEq]
  grind
 by_cases k7:x.kind=7
 ·simp only[k7,zh,Da,Ba,Int.reduceBEq]
  grind
 by_cases k10:x.kind=10
 ·simp only[k10,zh,Da,Ba,Int.reduceBEq]
  grind
 by_cases k11:x.kind=11
 ·simp only[k11,zh,Da,Ba,Int.reduceBEq]
  grind
 by_cases k12:x.kind=12
 ·simp only[k12,zh,Da,Ba,Int.reduceBEq]
  grind
 simp only[b9,Fa.2 k1,Fa.2 k2,Fa.2 k3,Fa.2 k4,Fa.2 k5,Fa.2 k7,Fa.2 k10,Fa.2 k11,Fa.2 k12,zh,Da,Ba,Bool.or_self];cases decide (13<=x.kind)<;>cases decide (x.kind<=24)<;>cases a4<;>cases a5<;>cases a6<;>cases a7<;>rfl
theorem iQ {R:Type} {step:Int->Option (LO Int Unit R)} {k:Unit->Option R} (n:Nat) (p:Nat->Bool) (r:R)
  (c: ∀(i:Nat),i<n->step (i:Int)=some (bif p i then .again ((i+1:Nat):Int)else .ret r)) (a:step (n:Int)=some (.out ())):
  Zf step 0 k=bif (List.range n).all p then k ()else some r:=by
 have e:=dw (k:=k) (List.range n) (fun i=>bif p i then none else some r) () (fun i b=> ?_) (by simpa using a)
 ·rw[e,JA]
  grind
 grind
def Vj:List ze->Bool
 |[]=>false
 |s::r=>bif s.kind==13 then(match r with|u::_=>u.kind==5|[]=>false)else s.kind==5
def Ii:List ze->Bool
 |[]=>false
 |s::_=>s.kind==13
def Fg(t:ze):Bool:=t.kind==2&&lowS t.text==[117,114,108]
def okAt:List ze->Bool
 |[]=>true
 |t::r=>(!(t.kind==9&&t.text==[92])||Ii r)&&(!(Fg t)||Vj r)
def Tm(l:List ze)(i:Nat):Bool:=mf (l.getD i default)&&okAt (l.drop i)
def gluS(l:List ze):Int:=bif decide (l.length<=1500)then(bif (List.range l.length).all (Tm l)then 0 else 8)else 4
theorem uq(l:List ze)(i:Nat)(k:Int):ZB (((i:Int),k),l)=some (match l[i]? with|some t=>t.kind==k|none=>false):=by
 unfold ZB;by_cases h:i<l.length
 ·simp only[ql h,zA,ZA h,zb,Aa,Da,Ua h]
 ·have e:decide ((i:Int)<(l.length:Int))=false:=Ya (by omega);simp only[e,Zb,zb,Aa,Ba,List.getElem?_eq_none (Nat.le_of_not_lt h)]
theorem Dv:lowS [117,114,108]=[117,114,108]:=by decide
theorem M8{t:ze}{r:List ze}(h:t.text.length<=big): ∃n:Int,Qj (t::r)=some n/\(n==0)= !okAt (t::r):=by
 have e0:geti (t::r) 0=some t:=rfl;have p1:=uq (t::r) 1 13;have p15:=uq (t::r) 1 5;have p25:=uq (t::r) 2 5;unfold Qj;simp only[e0,zb,Aa,OB h (show([117,114,108]:Str).length<=big by decide),Dv,qa];simp only[Int.natCast_one]at p1 p15;replace p25:ZB ((2,5),t::r)=_:=p25;rw[p1];unfold okAt Fg;cases hd:(t.kind==9&&t.text==[92])with
 |true=>
  have hk:t.kind=9:=by rw[Ea,Ib]at hd;exact hd.1
  have ht:(t.text==[92])=true:=by rw[Ea]at hd;exact hd.2
  simp only[hk,ht,Int.reduceBEq,Da,Ba,Aa];cases r with
  |nil=>exact⟨_,rfl,rfl⟩
  |cons s r=>
   show∃n:Int,(bif !(s.kind==13)then some 0 else some 2)=some n/\(n==0)= !((!true||s.kind==13)&&_);cases s.kind==13
   ·simp_all
   simp_all
 |false=>
  have hc:(bif t.kind==9 then t.text==[92]else false)=false:=by
   cases h9:t.kind==9
   ·rfl
   ·grind
  simp only[hc,hd,Ba,Va,Td,ma];cases hu:(t.kind==2&&lowS t.text==[117,114,108])with
  |false=>
   have:(bif t.kind==2 then bif t.kind==2 then lowS t.text==[117,114,108]else default else false)=false:=by
    cases h2:t.kind==2
    ·rfl
    ·grind
   rw[this]
   grind
  |true=>
   rw[Ea]at hu;rw[hu.1,hu.2];simp only[Da,Aa];cases r with
   |nil=>exact⟨0,by simp[p15],rfl⟩
   |cons s r=>
    cases hs:s.kind==13 with
    |false=>
     have e1:(match(t::s::r)[1]? with|some t=>t.kind==13|none=>false)=false:=hs;have e5:ZB ((1,5),t::s::r)=some (s.kind==5):=p15;simp only[e1,Ba,zh,e5,Aa,Vj,hs];cases s.kind==5
     ·grind
     ·exact⟨2,by rfl,rfl⟩
    |true=>
     have e1:(match(t::s::r)[1]? with|some t=>t.kind==13|none=>false)=true:=hs;simp only[e1,Da,zh,p25,Aa,Vj,hs];cases r with
     |nil=>grind
     |cons u r=>
      show∃n:Int,(bif !(u.kind==5)then some 0 else some (w64 (2+1)))=some n/\(n==0)= !(!true||u.kind==5);cases u.kind==5
      ·grind
      ·exact⟨3,rfl,rfl⟩
theorem CQ(l:List ze):decide ((l.length:Int)>1500)= !decide (l.length<=1500):=kD _ 1500
theorem wS{l:List ze}(h: ∀t∈l,t.text.length<=big/\t.unit.length<=big):Uj l=some (gluS l):=by
 unfold Uj gluS;rw[CQ];cases e:decide (l.length<=1500)with
 |false=>rfl
 |true=>
  have e:=Vb e;simp only[aa,Ba,Da];refine(iQ l.length (Tm l) 8 (fun i a=> ?_) ?_).trans ?_
  ·obtain⟨d,j⟩:=h _ (Ic a);have b:l.getD i default=l[i]:=by simp[a]
   have c:=Bb a;obtain⟨n,f,k⟩:=M8 (t:=l[i]) (r:=l.drop (i+1)) d;rw[<-c]at f k;have g:decide ((i:Int)<=(l.length:Int))=true:=Ia (by omega);unfold Tm;simp only[ql a,Da,ZA a,zb,Aa,A7 d j,YD,g,ma,Td,zV,Eb,f,qa,Zy a (show l.length<=big by unfold big;omega),b]
   grind
  ·grind
  grind
theorem nG{α:Type}{l:List α}{i:Nat}{s:α}{r:List α}(h:l.drop i=s::r):i<l.length/\geti l (i:Int)=some s/\l.drop (i+1)=r:=by
 have a:i<l.length:=by
  rcases Ld i l.length with b|b
  ·exact b
  ·rw[Pe b]at h;cases h
 rw[Bb a]at h;injection h with d c;exact⟨a,by rw[ZA a,d],c⟩
theorem mG{α:Type}{l:List α}{i:Nat}(h:l.drop i=[])(hi:i<=l.length):i=l.length:=by have:=Vd.1 h;omega
theorem zBI{l:List ze}{i:Nat}(hi:i<l.length)(v:l.length<=1500):
  zM (X:=Int) (R:=LX Unit (LO Int Unit Int)) (zb (zo (decide (((i+1:Nat):Int)<(l.length:Int))) (geti l ((i+1:Nat):Int)) (default:ze)) fun m=>bif bif decide (((i+1:Nat):Int)<(l.length:Int))then m.kind==13 else false then some (LX.out (w64 (((i+1:Nat):Int)+1)))else some (LX.out ((i+1:Nat):Int)))
   (fun a=>zb (zo (!(decide (a>=(l.length:Int)))) (geti l a) (default:ze)) fun h=>bif bif decide (a>=(l.length:Int))then true else h.kind != 5 then some (LX.ret (LO.ret 8))else some (LX.out ()))=bif Vj (l.drop (i+1))then some (LX.out ())else some (LX.ret (LO.ret 8)):=by
 cases f:l.drop (i+1)with
 |nil=> have k:=mG f (by omega);have o:decide (((i+1:Nat):Int)<(l.length:Int))=false:=Ya (by omega);have b:decide (((i+1:Nat):Int)>=(l.length:Int))=true:=Ia (by omega);simp only[o,b,Zb,zb,Aa,Ba,Da,zh,aa,Vj]
 |cons s r=>
  obtain⟨c,e,d⟩:=nG f;have b:decide (((i+1:Nat):Int)>=(l.length:Int))=false:=Ya (by omega);have n:w64 (((i+1:Nat):Int)+1)=((i+1+1:Nat):Int):=Zy c (by unfold big;omega);simp only[ql c,zA,e,zb,Aa,Da,n,Vj];cases p:s.kind==13 with
  |false=>
   simp only[Ba,zh,b,Va,zA,e,Aa,bne]
   grind
  |true=>
   simp only[Da,zh];cases r with
   |nil=> have k:=mG d (by omega);simp_all
   |cons u r=>
    obtain⟨t,j,q⟩:=nG d;have g:decide (((i+1+1:Nat):Int)>=(l.length:Int))=false:=Ya (by omega);simp only[g,Va,zA,j,Aa,Ba,bne]
    grind
theorem zAl{l:List ze}{i:Nat}(hi:i<l.length)(d:Bool)(A B:Option (LO Int Unit Int)):
  (zb (zo (!(((i+1:Nat):Int)==(l.length:Int))&&d) (geti l ((i+1:Nat):Int)) (default:ze)) fun a=>bif bif d then bif ((i+1:Nat):Int)==(l.length:Int)then true else a.kind != 13 else false then A else B)=bif !d||Ii (l.drop (i+1))then B else A:=by
 cases d with
 |false=>simp_all
 |true=>
  cases c:l.drop (i+1)with
  |nil=> have h:=mG c (by omega);have b:(((i+1:Nat):Int)==(l.length:Int))=true:=Ib.2 (by omega);simp only[b,aa,Lb,Zb,zb,Aa,Da,Ii,Bool.or_self,Ba]
  |cons s r=>
   obtain⟨f,e,g⟩:=nG c;have b:(((i+1:Nat):Int)==(l.length:Int))=false:=Fa.2 (by omega);simp only[b,Va,ma,zA,e,zb,Aa,Da,Ii,Ba,aa,Xc,bne]
   grind
theorem zCF(b:Bool)(t u:ze)(p:ze->Bool):(bif b then p (bif b then t else u)else false)=(b&&p t):=by cases b<;>rfl
theorem V9(k:Wz){l:List ze}(h: ∀t∈l,t.text.length<=big/\t.unit.length<=big):Bp l=some (gluS l):=by
 unfold Bp gluS;rw[CQ];cases e:decide (l.length<=1500)with
 |false=>rfl
 |true=>
  have e:=Vb e;simp only[aa,Ba,Da];refine(iQ l.length (Tm l) 8 (fun i a=> ?_) ?_).trans ?_
  ·obtain⟨g,p⟩:=h _ (Ic a);have d:l.getD i default=l[i]:=by simp[a]
   have f:=Bb a;have q:w64 ((i:Int)+1)=((i+1:Nat):Int):=Zy a (by unfold big;omega);have m:w64 (((i+1:Nat):Int)+1)=((i+2:Nat):Int):=Zy (n:=i+2) (by omega) (by unfold big;omega);unfold Tm;rw[f,d];simp only[ql a,Da,ZA a,zb,Aa,H8 k g p,q];cases s:mf l[i]with
   |false=>rfl
   |true=>
    simp only[aa,Ba,qa,Aa,ma];have j:=zBI a e;have o:=zAl a (l[i].kind==9&&l[i].text==[92]) (some (LO.ret 8)) (some (LO.again ((i+1:Nat):Int)));simp only[zb]at j o;have b:(bif l[i].kind==2 then bif l[i].kind==2 then lowS (bif l[i].kind==2 then l[i]else default).text==[117,114,108]else default else false)=Fg l[i]:=by unfold Fg;cases l[i].kind==2<;>rfl
    have r:(zo (l[i].kind==2) (qX ((bif l[i].kind==2 then l[i]else default).text,[117,114,108])) (default:Bool))=some (bif l[i].kind==2 then lowS (bif l[i].kind==2 then l[i]else default).text==[117,114,108]else default):=by
     cases u:l[i].kind==2 with
     |false=>rfl
     |true=> show qX (l[i].text,[117,114,108])=some (lowS l[i].text==[117,114,108]);rw[HY g (by decide),Dv]
    have c:(bif l[i].kind==9 then(bif l[i].kind==9 then l[i]else default).text==[92]else false)=(l[i].kind==9&&l[i].text==[92]):=zCF (l[i].kind==9) l[i] default fun t=>t.text==[92];simp only[r,Aa,b,c,j,okAt];cases Fg l[i]with
    |false=>
     simp only[Ba,zh,Va,Td,Rb]
     grind
    |true=>
     simp only[Da,aa,Xc];cases Vj (l.drop (i+1))with
     |false=>simp_all
     |true=>
      simp only[Da,zh,Rb]
      grind
  ·grind
  grind
theorem W9{l:List ze}(h: ∀t∈l,t.text.length<=big/\t.unit.length<=big):Bp l=some (gluS l):=V9 U9 h
set_option maxRecDepth 100000
def partT(r:Nat)(p:Bool):Str:=bif (jh r).isEmpty then(bif p then [48]else [])else jh r
theorem Jk{r:Nat}(h:r<1000)(p:Bool):(partT r p).all digB=true/\(partT r p).length<=3/\valG 0 (partT r p)*10 ^ (3 - (partT r p).length)=r/\ik r p=(bif (partT r p).isEmpty then []else 46::partT r p)/\((partT r p).isEmpty=((r==0)&& !p)):=by
 have f:=BG r h;simp only[Xy,Ea,Jb,Ib]at f;obtain⟨⟨⟨⟨a,b⟩,c⟩,d⟩,e⟩:=f;unfold partT ik;cases g:(jh r).isEmpty with
 |true=>
  have i:r=0:=by rw[g]at d;exact Ib.1 d.symm
  subst i;cases p<;>refine⟨by decide,by decide,by decide,rfl,rfl⟩
 |false=>
  grind
theorem jL{l:Str}(h:(l.all fun b=>digB b||b==46)=true):kg l=true:=by
 unfold kg;rw[Xb]at h ⊢;intro b hb;have:=h b hb;refine Ia ?_;rw[Kc]at this;rcases this with h1|h1
 ·have:=Xr h1;omega
 simp_all
theorem gL{m:Nat}(p:Bool):((rf m p).all fun b=>digB b||b==46)=true:=by
 obtain⟨d,_,_⟩:=xq (m / 1000);obtain⟨g,_,_,e,_⟩:=Jk (r:=m%1000) (by omega) p;have f: ∀l:Str,l.all digB=true->(l.all fun b=>digB b||b==46)=true:=by intro l a;rw[Xb]at a ⊢;intro b c;rw[a b c];rfl
 unfold rf
 grind
theorem bv(u:Nat): ∃c r,Lib.decDigits u=c::r/\digB c=true:=by
 obtain⟨b,_,a⟩:=xq u;cases h:Lib.decDigits u with
 |nil=>exact absurd h a
 |cons c r=>grind
theorem ug{c:UInt8}(h:digB c=true):c≠45/\c≠43/\c≠46/\c≠0/\List.contains [43,45] c=false:=by
 have: ∀n:Nat,n<256->digB (UInt8.ofNat n)=true->UInt8.ofNat n≠45/\UInt8.ofNat n≠43/\UInt8.ofNat n≠46/\UInt8.ofNat n≠0/\List.contains [43,45] (UInt8.ofNat n)=false:=by decide+kernel
 have:=this c.toNat (Ab c);simp_all
theorem zAc{m:Nat}(p:Bool): ∃f,Lib.cut (rf m p) [46]=(Lib.decDigits (m / 1000),partT (m%1000) p,f):=by
 obtain⟨a,_,_⟩:=xq (m / 1000);obtain⟨_,_,_,b,_⟩:=Jk (r:=m%1000) (by omega) p;unfold rf Lib.cut;rw[TB,b];cases c:(partT (m%1000) p).isEmpty with
 |true=> rw[Da,Ra,bE _ a,Ga (by decide)];simp_all
 |false=> rw[Ba,dE _ _ a,Ha (by omega)];simp_all
theorem zn2{n:Int}(S: -1000000000000<=n)(h2:n<=1000000000000)(p:Bool):ZH (numT n p)=some n:=by
 obtain⟨m,B⟩: ∃m:Nat,n.natAbs=m:=⟨_,rfl⟩;have k:m<=1000000000000:=by omega
 obtain⟨c,r,E,y⟩:=bv (m / 1000);obtain⟨h,C,_,_,t⟩:=ug y;have d:rf m p=c::(r++ik (m%1000) p):=by unfold rf;rw[E];rfl
 have A:=RA k p;obtain⟨f,j⟩:=zAc (m:=m) p;obtain⟨X,L,Y⟩:=xq (m / 1000);obtain⟨T,U,K,V,W⟩:=Jk (r:=m%1000) (by omega) p;have H:=pG (u:=m / 1000) (by omega);have o:short (rf m p)=true:=Ia (by omega);have w:Lib.trimLeftS (rf m p) [43,45]=rf m p:=by rw[d];unfold Lib.trimLeftS;rw[Oc,t];rfl
 have J:Lib.trimLeftS (numT n p) [43,45]=rf m p:=by
  unfold numT;rw[B];by_cases g:n<0
  ·rw[Ha g];show List.dropWhile _ (45::rf m p)=_;simp_all
  ·grind
 have Q: ∃b,geti (numT n p) 0=some b/\(((b.toNat:Int)==45)=decide (n<0)):=by
  unfold numT;rw[B];by_cases g:n<0
  ·rw[Ha g,Ia g];exact⟨45,rfl,rfl⟩
  ·rw[Ga g,Ya g];refine⟨c,by rw[d];rfl,Fa.2 (fun e=>h ?_)⟩;exact Me.1 (by grind)
 obtain⟨b,x,z⟩:=Q;unfold ZH;simp only[zb,x,Aa];have O:mh (numT n p,[43,45])=some (rf m p):=by unfold mh;rw[zC (show(short ([43,45]:Str)&&kg [43,45])=true by decide)];exact congrArg some J
 have M:Ti (rf m p,[101,69])=some (-1):=by unfold Ti;rw[zC (by simp only[o,jL (gL p),Rb,ma];decide)];exact congrArg some (WF _ (gL p))
 have P:cutF (rf m p,[46])=some (Lib.decDigits (m / 1000),partT (m%1000) p,f):=by unfold cutF;rw[zC (by exact o)];exact congrArg some j
 simp only[O,M,Aa,show decide ((-1:Int)>=0)=false from rfl,Ba,zh,P];rw[zC (si.2 (by omega))];have N:w64 (3 - ((partT (m%1000) p).length:Int))=((3 - (partT (m%1000) p).length:Nat):Int):=by rw[Zh (by omega) (by omega)];omega
 rw[N,Ya (by omega),Ba,zh];simp only;have D:maxLen=9223372036854775807:=rfl;rw[zC (Ia (by grind))];have q:valG 0 (Lib.decDigits (m / 1000)++partT (m%1000) p)*10 ^ (3 - (partT (m%1000) p).length)=m:=by rw[WA,L,nu,Re,K,Nat.mul_assoc,<-Nat.pow_add,show(partT (m%1000) p).length+(3 - (partT (m%1000) p).length)=3 by omega];omega
 have s:valG 0 (Lib.decDigits (m / 1000)++partT (m%1000) p)<=1000000000000:=by have:=Ee (valG 0 (Lib.decDigits (m / 1000)++partT (m%1000) p)) (yf (n:=3 - (partT (m%1000) p).length) (show 0<10 by omega));omega
 rw[qW (zBs (l:=Lib.decDigits (m / 1000)++partT (m%1000) p) (by grind) (by grind) s (fun v i R=> ?_) (fun v=> ?_))]
 ·rw[qW (KZ (by omega) (by grind) (fun a b=> ?_)),q]
  ·rw[z];by_cases g:n<0
   ·rw[Ia g,Da,zh,Zh (by omega) (by omega)];congr 1;omega
   ·rw[Ya g,Ba,zh];congr 1;omega
  ·simp only
 ·have F:decide ((i:Int)<((Lib.decDigits (m / 1000)++partT (m%1000) p).length:Int))=true:=Ia (by omega);have G:decide ((0:Int)<=(i:Int))=true:=Ia (by omega);simp only[F,G,Da,Rb,zV,Eb,Ua R,Aa]
 ·grind
theorem zCz(n:Int)(p:Bool):(n<0/\numT n p=45::rf n.natAbs p)\/(¬n<0/\numT n p=rf n.natAbs p):=by
 unfold numT
 grind
theorem jZ(m:Nat)(p:Bool): ∃c r,rf m p=c::r/\digB c=true:=by obtain⟨c,r,h,a⟩:=bv (m / 1000);exact⟨c,r++ik (m%1000) p,by unfold rf;rw[h];rfl,a⟩
theorem Fy{n:Int}(b: -1000000000000<=n)(h2:n<=1000000000000)(p:Bool):(numT n p).length<=25/\1<=(numT n p).length:=by
 have:=RA (m:=n.natAbs) (by omega) p;obtain⟨c,r,a,_⟩:=jZ n.natAbs p;rcases zCz n p with⟨_,h⟩|⟨_,h⟩
 ·grind
 grind
theorem ZW{n:Nat}(h:n<256):ZF ((n:Nat):Int)=some (UInt8.ofNat n):=by
 unfold ZF
 grind
theorem pE(n k:Nat)(a:k<=32):og .i32 (n:Int) (k:Int)=((n / 2 ^ k:Nat):Int):=by
 unfold og;rw[show(min ((k:Int).toNat) IntKind.i32.bits)=k by show min k 32=k;omega]
 grind
theorem shr6(n:Nat):og .i32 (n:Int) 6=((n / 64:Nat):Int):=pE n 6 (by omega)
theorem TV(n:Nat):og .i32 (n:Int) 12=((n / 4096:Nat):Int):=pE n 12 (by omega)
theorem SV(n:Nat):og .i32 (n:Int) 18=((n / 262144:Nat):Int):=pE n 18 (by omega)
theorem zFW(n:Int):IntKind.u8.wrap n=n%256:=by simp[IntKind.wrap,IntKind.bits,IntKind.signed]
theorem zEh(n:Int):IntKind.u32.wrap n=n%4294967296:=by simp[IntKind.wrap,IntKind.bits,IntKind.signed]
theorem ll{n:Nat}(h:n<2147483648):w32 (n:Int)=(n:Int):=by show IntKind.i32.wrap _=_;simp only[IntKind.wrap,IntKind.bits,IntKind.signed];simp;omega
theorem XM{n:Nat}(h:n<2147483648):wu32 (n:Int)=(n:Int):=by show IntKind.u32.wrap _=_;rw[zEh];omega
theorem lu(n:Nat):wu8 (n:Int)=((n%256:Nat):Int):=by show IntKind.u8.wrap (n:Int)=_;rw[zFW];omega
theorem PN(n:Nat):ibOr .u8 128 (Wh .u8 (wu8 (n:Int)) 63)=((128+n%64:Nat):Int):=by
 have: ∀m:Nat,m<256->ibOr .u8 128 (Wh .u8 ((m:Nat):Int) 63)=((128+m%64:Nat):Int):=by decide+kernel
 rw[lu,this _ (Nat.mod_lt _ (by omega)),show n%256%64=n%64 by omega]
theorem KV{n:Nat}(h:n<32):ibOr .u8 192 (wu8 (n:Int))=((192+n:Nat):Int):=by
 have: ∀m:Nat,m<32->ibOr .u8 192 (wu8 ((m:Nat):Int))=((192+m:Nat):Int):=by decide+kernel
 exact this n h
theorem GD{n:Nat}(h:n<16):ibOr .u8 224 (wu8 (n:Int))=((224+n:Nat):Int):=by
 have: ∀m:Nat,m<16->ibOr .u8 224 (wu8 ((m:Nat):Int))=((224+m:Nat):Int):=by decide+kernel
 exact this n h
theorem JV{n:Nat}(h:n<8):ibOr .u8 240 (wu8 (n:Int))=((240+n:Nat):Int):=by
 have: ∀m:Nat,m<8->ibOr .u8 240 (wu8 ((m:Nat):Int))=((240+m:Nat):Int):=by decide+kernel
 exact this n h
theorem Ng{n m:Nat}(h:n+m<=2000000000):zH n m 1=true:=by unfold zH;grind
theorem WV{n:Nat}(o:n≠0)(h:n<16777216){l:Str}(m:l.length<=1000000000):ZJ (w32 (n:Int),l)=some (l++Mg n):=by
 have j:zH l.length 1 1=true:=Ng (by omega);have f:zH l.length 2 1=true:=Ng (by omega);have d:zH l.length 3 1=true:=Ng (by omega);have g:zH l.length 4 1=true:=Ng (by omega);have c:(128+n%64)<256:=by omega
 have a:(128+n / 64%64)<256:=by omega
 have b:(128+n / 4096%64)<256:=by omega
 unfold ZJ qB Mg;simp only[ll (show n<2147483648 by omega),XM (show n<2147483648 by omega),zb,shr6,TV,SV,PN,ZW c,ZW a,ZW b,Aa];by_cases e:n<128
 ·rw[Ia (by omega),Da,lu,ZW (by omega),Aa,zC j,Ga (by omega),Ha e,Ef (by omega)]
 ·rw[Ya (by omega),Ba];by_cases i:n<2048
  ·rw[Ia (by omega),Da,KV (by omega),ZW (by omega)];simp only[Aa];rw[zC f,Ga (by omega),Ga (by omega),Ha i];rfl
  ·rw[Ya (by omega),Ba];by_cases p:n<55296
   ·rw[Ia (by omega),Da,zh];simp only[Da];rw[GD (by omega),ZW (by omega)];simp only[Aa];rw[zC d,Ga (by omega),Ga (by omega),Ga (by omega),Ha (by omega)];rfl
   ·rw[Ya (by omega),Ba,zh];simp only[kW];by_cases k:57343<n/\n<65536
    ·rw[Ia (by omega),Ia (by omega),Rb,Da,GD (by omega),ZW (by omega)];simp only[Aa];rw[zC d,Ga (by omega),Ga (by omega),Ga (by omega),Ha (by omega)];rfl
    ·rw[show(decide ((57343:Int)<(n:Int))&&decide ((n:Int)<=65535))=false by grind,Ba];by_cases q:65535<n/\n<=1114111
     ·rw[Ia (by omega),Ia (by omega),Rb,Da,JV (by omega),ZW (by omega)];simp only[Aa];rw[zC g,Ga (by omega),Ga (by omega),Ga (by omega),Ga (by omega)];rfl
     ·rw[show(decide ((n:Int)>65535)&&decide ((n:Int)<=1114111))=false by grind,Ba,zC d,Ha (by omega)];rfl
theorem FO{l:Str}(a:l.length<=1000000000):ZJ (65533,l)=some (l++Gl):=by have h:=WV (n:=65533) (by omega) (by omega) a;rw[ll (by omega)]at h;exact h
theorem Oi{s:Str}{c:UInt8}{l:Str}(h:c::l<:+s):l<:+s:=(Wd c l).trans h
theorem Dh{s:Str}{c:UInt8}{l:Str}(d:s.length<=big)(h:c::l<:+s):w64 ((beh s (c::l):Int)+1)=(beh s l:Int):=by
 have b:big=4194304:=rfl;have a:=h.length_le;rw[Ja]at a;have e:beh s (c::l)+1=beh s l:=by unfold beh;rw[Ja];omega
 have:=yj s l;rw[Zh (by omega) (by omega)];omega
theorem yn(c:UInt8)(l:Str):pk (c::l) 0=(c.toNat:Int):=rfl
theorem kv(c:UInt8):ZF (wu8 ((c.toNat:Nat):Int))=some c:=by rw[lu,Ef (Ab c),ZW (Ab c),xc]
theorem xy{b:UInt8}(h:QA b=true):hexN b<16:=Vb h
theorem yV{n d:Nat}(hn:n<16777216)(hd:d<16):ibOr .i64 (Xm .i64 (n:Int) 4) (d:Int)=((16*n+d:Nat):Int):=by
 have h1:Xm .i64 (n:Int) 4=((16*n:Nat):Int):=by unfold Xm;rw[show(2:Int) ^ (min (4:Int).toNat IntKind.i64.bits)=16 from rfl];rw[Z4 (by omega) (by omega)];omega
 rw[h1];unfold ibOr;have e:(BitVec.ofInt IntKind.i64.bits ((16*n:Nat):Int) ||| BitVec.ofInt IntKind.i64.bits (d:Int)).toNat=16*n+d:=by
  rw[BitVec.toNat_or,BitVec.toNat_ofInt,BitVec.toNat_ofInt];rw[show((((16*n:Nat):Int)%((2 ^ IntKind.i64.bits:Nat):Int)).toNat)=16*n by show(((16*n:Nat):Int)%18446744073709551616).toNat=_;omega,
   show(((d:Int)%((2 ^ IntKind.i64.bits:Nat):Int)).toNat)=d by show((d:Int)%18446744073709551616).toNat=_;omega]
  have:=Nat.two_pow_add_eq_or_of_lt (i:=4) (b:=d) hd n;rw[show 2 ^ 4*n=16*n from rfl]at this;exact this.symm
 rw[e,Z4 (by omega) (by omega)]
theorem GA(b:UInt8):decide (hexI b<0)= !QA b:=by
 unfold hexI
 grind
theorem iE: ∀(k n:Nat) (l:Str),QA (atS l 0)=false->hexes k n l=(n,l)
 |0,_,_,_=>rfl
 |_+1,_,[],_=>rfl
 |k+1,n,c::r,h=>by unfold hexes;rw[Ga (by rw[show QA c=false from h];decide)]
theorem gM {R:Type} {step:(Int×Int)×za->Option (LO ((Int×Int)×za) (Int×za) R)} {s l:Str} (j:l<:+s)
  (h: ∀(n i:Nat) (q:Str),q<:+s->n<16777216->i<=6->step (((n:Int),(i:Int)),sr s q)=some (bif decide (i<6)&&QA (atS q 0)then .again ((((16*n+hexN (atS q 0):Nat):Int),((i+1:Nat):Int)),sr s (q.drop 1))else .out ((n:Int),sr s q))):
  Jg step ((0,0),sr s l)=some (.out (((hexes 6 0 l).1:Int),sr s (hexes 6 0 l).2)):=by
 refine ZT (fun z=> ∃(n i:Nat) (q:Str),z=(((n:Int),(i:Int)),sr s q)/\q<:+s/\i<=6/\n<16 ^ i/\hexes (6 - i) n q=hexes 6 0 l) (fun z=>6 - z.1.2.toNat) _ ?_ ⟨0,0,l,rfl,j,by omega,by decide,rfl⟩;rintro _ ⟨n,i,q,rfl,g,f,k,d⟩;have e:n<16777216:=Cc k (Nat.pow_le_pow_right (by omega) f:16 ^ i<=16 ^ 6);rw[h n i q g e f];rcases Ld i 6 with b|m
 ·rw[Ia b,ma];cases a:QA (atS q 0)with
  |true=>
   cases q with
   |nil=>exact absurd a (by decide)
   |cons c r=>
    have o:=xy a;refine .inl ⟨_,rfl,⟨16*n+hexN (atS (c::r) 0),i+1,r,rfl,Oi g,by omega,?_,?_⟩,by grind⟩
    ·grind
    ·rw[<-d,show 6 - i=(6 - (i+1))+1 by omega];rw[hexes.eq_def ((6 - (i+1))+1) n (c::r)];simp only;rw[Ha (show QA c=true from a)];rfl
  |false=> refine .inr (.inl ⟨_,rfl,?_⟩);rw[<-d,iE _ _ _ a]
 ·rw[Ya (by omega),Lb];refine .inr (.inl ⟨_,rfl,?_⟩);rw[<-d,show 6 - i=0 by omega];rfl
theorem vF: ∀(k n:Nat) (l:Str),(hexes k n l).1<16 ^ k*(n+1)
 |0,n,l=>by unfold hexes;omega
 |k+1,n,[]=>by have:0<16 ^ (k+1):=yf (by omega);unfold hexes;exact Cc (Nat.lt_succ_self n) (Nat.le_mul_of_pos_left _ this)
 |k+1,n,c::r=>by
  unfold hexes;cases hx:QA c with
  |true=> rw[Ha rfl];have h1:=vF k (16*n+hexN c) r;have:=xy hx;refine Cc h1 ?_;rw[Nat.pow_succ,Nat.mul_assoc];exact Nat.mul_le_mul_left _ (by omega)
  |false=> rw[Ga (by decide)];have:0<16 ^ (k+1):=yf (by omega);exact Cc (Nat.lt_succ_self n) (Nat.le_mul_of_pos_left _ this)
theorem lG{s l acc:Str}{c:UInt8}(hs:s.length<=big)(hr:c::l<:+s)(ha:acc.length<=1000000000):
  zS (sr s (c::l),acc)=some (sr s (zt l).2,acc++(zt l).1):=by
 have hl:=Oi hr;unfold zS;simp only[Dh hs hr,zb,Xg hs hl,Aa,Un];cases l with
 |nil=> rw[show([]:Str).isEmpty=true from rfl,Da,FO ha];rfl
 |cons d r=>
  rw[show(d::r).isEmpty=false from rfl,Ba,jC];simp only[Aa,GA];cases hx:QA (atS (d::r) 0)with
  |false=>
   rw[Va,Da,yn,kv];simp only[Aa,Dh hs hl];rw[zC (Ng (by omega))];have:zt (d::r)=([d],r):=by show(if QA d then _ else _)=_;rw[Ga (by rw[show QA d=false from hx];decide)]
   rw[this]
  |true=>
   rw[aa,Ba];have he:zt (d::r)=(Mg (hexes 6 0 (d::r)).1,unsp (hexes 6 0 (d::r)).2):=by show(if QA d then _ else _)=_;rw[Ha (show QA d=true from hx)]
   rw[he];rw[qW (gM (l:=d::r) hl (fun n i q hq hn hi=> ?_))]
   ·have hq:(hexes 6 0 (d::r)).2<:+s:=(Dw 6 0 _).trans hl;have hlt:=vF 6 0 (d::r);rw[show 16 ^ 6*(0+1)=16777216 from rfl]at hlt;simp only[Xg hs hq,Aa,uu];have hj:(bif spB (atS (hexes 6 0 (d::r)).2 0)then some (LX.out (((hexes 6 0 (d::r)).1:Int),(⟨s,w64 ((beh s (hexes 6 0 (d::r)).2:Int)+1)⟩:za),acc))else some (LX.out (((hexes 6 0 (d::r)).1:Int),sr s (hexes 6 0 (d::r)).2,acc)):Option (LX (Int×za×List UInt8) (za×List UInt8)))
      =some (LX.out (((hexes 6 0 (d::r)).1:Int),sr s (unsp (hexes 6 0 (d::r)).2),acc)):=by
     cases hh:(hexes 6 0 (d::r)).2 with
     |nil=>rfl
     |cons e t=>
      rw[hh]at hq;rw[show atS (e::t) 0=e from rfl,Dh hs hq];show _=some (LX.out (_,sr s (if spB e then t else e::t),acc))
      grind
    rw[hj,zh];simp only;by_cases h0:(hexes 6 0 (d::r)).1=0
    ·rw[h0,show((((0:Nat):Int))==0)=true from rfl,Da,zh];simp only[ll (show 65533<2147483648 by omega),show w32 (65533:Int)=65533 from ll (n:=65533) (by omega),FO ha,Aa];rfl
    ·rw[show(((hexes 6 0 (d::r)).1:Int)==0)=false by grind,Ba,zh];simp only[WV h0 hlt ha,Aa]
   ·simp only[Xg hs hq,Aa,jC,GA];have hb6:decide ((i:Int)<6)=decide (i<6):=by rw[decide_eq_decide];omega
    rw[hb6];cases decide (i<6)with
    |false=>rfl
    |true=>
     rw[Da,ma];cases hx2:QA (atS q 0)with
     |false=>rfl
     |true=>
      cases q with
      |nil=>exact absurd hx2 (by decide)
      |cons e t=>
       have hI:hexI (atS (e::t) 0)=(hexN (atS (e::t) 0):Int):=by unfold hexI;rw[Ha hx2]
       rw[hI,yV hn (xy hx2),Dh hs hq,Zh (by omega) (by omega)];rfl
theorem zC7{s r:Str}{k:Nat}(b:s.length<=big)(c:r<:+s)(d:k<=4):zu ((k:Int),sr s r)=some (escS (r.drop k)&&decide (k<r.length)):=by
 unfold zu;simp only[zb,dm b c (show k<=8 by omega),Aa,CV];rw[show w64 ((k:Int)+1)=((k+1:Nat):Int) by rw[Zh (by omega) (by omega)];omega,dm b c (by omega)];unfold escS;rw[Q3,Q3,Ad];cases h:(atS r k==92)with
 |false=>simp_all
 |true=> have a:k<r.length:=Iu (by grind);rw[Ia a];simp only[zo,Da,Aa,ma,Rb];unfold bne;rw[lJ]
theorem zC6{l:Str}(h:escS l=true):0<l.length:=by unfold escS at h;rw[Ea]at h;exact Iu (by grind)
theorem KA{s r:Str}{k:Nat}(hs:s.length<=big)(hr:r<:+s)(hk:k<=4):zu ((k:Int),sr s r)=some (escS (r.drop k)):=by
 rw[zC7 hs hr hk];cases h:escS (r.drop k)with
 |false=>rfl
 |true=> have:=zC6 h;rw[Ub]at this;rw[Ia (by omega)];rfl
theorem EG{s r:Str}(a:s.length<=big)(b:r<:+s):zu (0,sr s r)=some (escS r):=KA (k:=0) a b (by omega)
theorem aJ{s r:Str}{k:Nat}(a:s.length<=big)(b:r<:+s)(d:k<=2):zB ((k:Int),sr s r)=some (nmS (r.drop k)):=by
 unfold zB;have c:w64 ((k:Int)+1)=((k+1:Nat):Int):=by rw[Zh (by omega) (by omega)];omega
 simp only[c,zb,dm a b (show k<=8 by omega),dm a b (show k+1<=8 by omega),Aa,zD7,KA a b (show k<=4 by omega),KA a b (show k+1<=4 by omega)];unfold nmS;rw[Q3,Q3,Ve];unfold bne;rw[Eu,Ad];cases atS r k==45 with
 |true=>
  simp only[aa,Ba,Be];cases fstB (atS r (k+1))with
  |true=>rfl
  |false=>
   simp only[Va,zo,Da,Ba,Aa,Eu]
   grind
 |false=> simp only[Va,Da];cases fstB (atS r k)<;>cases escS (r.drop k)<;>rfl
theorem zBJ(n:Nat):(Mg n).length<=4:=by
 unfold Mg Gl
 grind
theorem Hw(l:Str):(zt l).1.length<=4:=by
 cases l with
 |nil=>show Gl.length<=4;decide
 |cons c r=>
  show(if QA c then(Mg (hexes 6 0 (c::r)).1,unsp (hexes 6 0 (c::r)).2)else([c],r)).1.length<=4;split
  ·exact zBJ _
  grind
theorem zR(c:UInt8)(r:Str):zq (c::r)=if letB c then((c::(zq r).1),(zq r).2)
  else if escS (c::r)then((zt r).1++(zq (zt r).2).1,(zq (zt r).2).2)
  else([],c::r):=by rw[zq]
theorem qR:zq []=([],[]):=by rw[zq]
theorem zFw(l:Str):(pk l 0 != -1)= !l.isEmpty:=by unfold bne;rw[Un]
theorem rC{s r:Str}(i:s.length<=big)(k:r<:+s):zT (sr s r)=some ((zq r).1,sr s (zq r).2):=by
 have m:big=4194304:=rfl;unfold zT;refine wG (r:=((zq r).1,sr s (zq r).2)) ?_;refine ZT (fun z=> ∃(q a:Str),z=(sr s q,a)/\q<:+s/\a.length+4*q.length<=4*s.length/\a++(zq q).1=(zq r).1/\(zq q).2=(zq r).2) (fun z=>s.length - z.1.at_.toNat) _ ?_ ⟨r,[],rfl,k,by grind,rfl,rfl⟩;rintro _ ⟨q,a,rfl,f,j,d,b⟩;simp only[zb,Xg i f,Aa,EM];cases q with
 |nil=>
  refine .inr (.inr ⟨_,rfl,?_⟩);rw[qR]at d b
  grind
 |cons c t=>
  have g:=f.length_le;rw[Ja]at g j;rw[show atS (c::t) 0=c from rfl];rw[zR]at d b;cases e:letB c with
  |true=>
   rw[e,Ha rfl]at d b;refine .inl ⟨(sr s t,a++[c]),?_,⟨t,a++[c],rfl,Oi f,by grind,by grind,b⟩,?_⟩
   ·rw[Da,yn,kv];simp only[Aa];rw[zC (Ng (by omega)),Dh i f]
   ·show s.length - beh s t<s.length - beh s (c::t);unfold beh;grind
  |false=>
   rw[e,Ga (by decide)]at d b;rw[Ba,zFw,show(c::t).isEmpty=false from rfl,EG i f];cases h:escS (c::t)with
   |true=>
    rw[h,Ha rfl]at d b;have l:=Hw t;have n:=Zc t;refine .inl ⟨(sr s (zt t).2,a++(zt t).1),?_,⟨_,_,rfl,(qh t).trans (Oi f),by grind,by grind,b⟩,?_⟩
    ·simp only[Va,zo,Da,Aa,lG i f (show a.length<=1000000000 by omega)]
    ·show s.length - beh s (zt t).2<s.length - beh s (c::t);unfold beh;grind
   |false=> simp_all
theorem Rk(l:Str):(zq l).2<:+l:=by
 match l with
 |[]=>rw[qR];grind
 |c::r=>
  rw[zR];split
  ·exact(Rk r).trans (Wd c r)
  ·split
   ·have:=Zc r;exact(Rk (zt r).2).trans ((qh r).trans (Wd c r))
   grind
termination_by l.length
decreasing_by
 all_goals grind
end Go.Lv.VT
