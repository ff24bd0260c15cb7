/- Tokens that can be written: the program's check. -/
import Derived.Test.YtcdeccnjlkkejaaGreatDoorLaw
set_option linter.unusedSimpArgs false
set_option linter.unusedVariables false
namespace Go.Lv.VT
theorem zDj(g d:Bool)(b c:UInt8):(bif g then namN (bif g then b else c).toNat else d)=bif g then namN b.toNat else d:=by cases g<;>rfl
theorem F9{x:zb}(h1:x.text.length<=big)(h2:x.unit.length<=big):Fx x=some (Gg x):=by
 unfold Fx;rw[zy (yw.2 (by grind))];simp only[ze,aD,Aa];have hn:decide (Lib.indexByte (x.text++x.unit) (0:Int).toNat.toUInt8<0)=(Zm x.text&&Zm x.unit):=by rw[zBV,zBL,P9,Bool.not_not]
 simp only[hn,yT,Xt,Hl,Aa,ge_iff_le,bne];have hb:=GX x.text;unfold Gg rngS;by_cases k9:x.kind=9
 ·simp only[k9,Int.reduceBEq,Ea,Ha,zh,Gf,Ld];cases ht:x.text with
  |nil=>
   have:Zm ([]:Str)=true:=rfl;simp only[this,Sb];cases Zm x.unit<;>rfl
  |cons b r=>
   cases r with
   |nil=>
    have hd:=mX b;have e1:((([b]:Str).length:Int)==1)=true:=rfl;have e2:geti [b] 0=some b:=rfl;have e3:(([b]:Str)==[45])=(b==45):=by show((b==45)&&true)=_;rw[Jc]
    have e4:Zm [b]= !(b==0):=by show((!(b==0))&&true)=_;rw[Jc]
    have e5:delS [b]=Vh b.toNat:=rfl;simp only[e1,e2,e3,e4,e5,zmo,xS,Hl,Aa,zDj,<-hd];cases hu:x.unit with
    |nil=>
     have:Zm ([]:Str)=true:=rfl;simp only[this,Jc];generalize (gu.any fun c=>c==b)=a1;cases namN b.toNat<;>cases (b==0)<;>cases (b==45)<;>cases a1<;>cases (x.num==0)<;>cases x.flag<;>rfl
    |cons c s=> simp_all
   |cons c r=>
    have e1:(((b::c::r:Str).length:Int)==1)=false:=Fa.2 (by grind);have e3:((b::c::r:Str)==[45])=false:=by show((b==45)&&false)=_;rw[Df]
    have e5:delS (b::c::r)=false:=rfl;simp only[e1,e3,e5];simp_all
 have b9:=Fa.2 k9;have hu:(x.unit==[])=true->Zm x.unit=true:=fun h=>by rw[Rb]at h;rw[h];rfl
 have htx:(x.text==[])=true->Zm x.text=true:=fun h=>by rw[Rb]at h;rw[h];rfl
 rw[<-hb];generalize hl45:(x.text==[45])=a11 at*;generalize (List.isPrefixOf [45,45] x.text)=a12 at*;generalize numS x.text=a3 at*;generalize Zm x.text=a1 at*;generalize Zm x.unit=a2 at*;generalize (x.text==[])=a4 at*;generalize (x.unit==[])=a5 at*;generalize (x.num==0)=a6 at*;generalize x.flag=a7 at*;generalize decide (-1000000000000<=x.num)=a8 at*;generalize decide (x.num<=1000000000000)=a9 at*;generalize (Int.tmod x.num 1000==0)=a10 at*;clear hb hn hl45;have K: ∀k:Int,k∈[1,2,3,4,5,7,10,11,12]->x.kind=k->True:=fun _ _ _=>trivial;clear K;by_cases k1:x.kind=1
 ·simp only[k1,zh,Ea,Ha,Int.reduceBEq]
  grind
 by_cases k2:x.kind=2
 ·simp only[k2,zh,Ea,Ha,Int.reduceBEq]
  grind
 by_cases k3:x.kind=3
 ·simp only[k3,zh,Ea,Ha,Int.reduceBEq]
  grind
 by_cases k4:x.kind=4
 ·simp only[k4,zh,Ea,Ha,Int.reduceBEq]
  grind
 by_cases k5:x.kind=5
 ·simp only[k5,zh,Ea,Ha,Int.reduceBEq]
  grind
 by_cases k7:x.kind=7
 ·simp only[k7,zh,Ea,Ha,Int.reduceBEq]
  grind
 by_cases k10:x.kind=10
 ·simp only[k10,zh,Ea,Ha,Int.reduceBEq]
  grind
 by_cases k11:x.kind=11
 ·simp only[k11,zh,Ea,Ha,Int.reduceBEq]
  grind
 by_cases k12:x.kind=12
 ·simp only[k12,zh,Ea,Ha,Int.reduceBEq]
  grind
 simp only[b9,Fa.2 k1,Fa.2 k2,Fa.2 k3,Fa.2 k4,Fa.2 k5,Fa.2 k7,Fa.2 k10,Fa.2 k11,Fa.2 k12,zh,Ea,Ha,Bool.or_self];cases decide (13<=x.kind)<;>cases decide (x.kind<=24)<;>cases a4<;>cases a5<;>cases a6<;>cases a7<;>rfl
theorem lQ {R:Type} {step:Int->Option (LO Int Unit R)} {k:Unit->Option R} (n:Nat) (p:Nat->Bool) (r:R)
  (c: ∀(i:Nat),i<n->step (i:Int)=some (bif p i then .again ((i+1:Nat):Int)else .ret r)) (a:step (n:Int)=some (.out ())):
  Zy step 0 k=bif (List.range n).all p then k ()else some r:=by
 have e:=FQ (k:=k) (List.range n) (fun i=>bif p i then none else some r) () (fun i b=> ?_) (by simpa using a)
 ·rw[e,YG]
  grind
 grind
def Ik:List zb->Bool
 |[]=>false
 |s::r=>bif s.kind==13 then(match r with|u::_=>u.kind==5|[]=>false)else s.kind==5
def Xi:List zb->Bool
 |[]=>false
 |s::_=>s.kind==13
def Vg(t:zb):Bool:=t.kind==2&&lowS t.text==[117,114,108]
def okAt:List zb->Bool
 |[]=>true
 |t::r=>(!(t.kind==9&&t.text==[92])||Xi r)&&(!(Vg t)||Ik r)
def Ym(l:List zb)(i:Nat):Bool:=Gg (l.getD i default)&&okAt (l.drop i)
def gluS(l:List zb):Int:=bif decide (l.length<=1500)then(bif (List.range l.length).all (Ym l)then 0 else 8)else 4
theorem Er(l:List zb)(i:Nat)(k:Int):ZG (((i:Int),k),l)=some (match l[i]? with|some t=>t.kind==k|none=>false):=by
 unfold ZG;by_cases h:i<l.length
 ·simp only[Lj h,Zx,QV h,ze,Aa,Ea,Ja h]
 ·have e:decide ((i:Int)<(l.length:Int))=false:=Dc (by omega);simp only[e,Qx,ze,Aa,Ha,List.getElem?_eq_none (Nat.le_of_not_lt h)]
theorem Pv:lowS [117,114,108]=[117,114,108]:=by decide
theorem p9{t:zb}{r:List zb}(h:t.text.length<=big): ∃n:Int,QK (t::r)=some n/\(n==0)= !okAt (t::r):=by
 have e0:geti (t::r) 0=some t:=rfl;have p1:=Er (t::r) 1 13;have p15:=Er (t::r) 1 5;have p25:=Er (t::r) 2 5;unfold QK;simp only[e0,ze,Aa,FI h (show([117,114,108]:Str).length<=big by decide),Pv,Hl];simp only[Int.natCast_one]at p1 p15;replace p25:ZG ((2,5),t::r)=_:=p25;rw[p1];unfold okAt Vg;cases hd:(t.kind==9&&t.text==[92])with
 |true=>
  have hk:t.kind=9:=by rw[Ca,Rb]at hd;exact hd.1
  have ht:(t.text==[92])=true:=by rw[Ca]at hd;exact hd.2
  simp only[hk,ht,Int.reduceBEq,Ea,Ha,Aa];cases r with
  |nil=>exact⟨_,rfl,rfl⟩
  |cons s r=>
   show∃n:Int,(bif !(s.kind==13)then some 0 else some 2)=some n/\(n==0)= !((!true||s.kind==13)&&_);cases s.kind==13
   ·simp_all
   simp_all
 |false=>
  have hc:(bif t.kind==9 then t.text==[92]else false)=false:=by
   cases h9:t.kind==9
   ·rfl
   ·grind
  simp only[hc,hd,Ha,Cc,Oe,Sb];cases hu:(t.kind==2&&lowS t.text==[117,114,108])with
  |false=>
   have:(bif t.kind==2 then bif t.kind==2 then lowS t.text==[117,114,108]else default else false)=false:=by
    cases h2:t.kind==2
    ·rfl
    ·grind
   rw[this]
   grind
  |true=>
   rw[Ca]at hu;rw[hu.1,hu.2];simp only[Ea,Aa];cases r with
   |nil=>exact⟨0,by simp[p15],rfl⟩
   |cons s r=>
    cases hs:s.kind==13 with
    |false=>
     have e1:(match(t::s::r)[1]? with|some t=>t.kind==13|none=>false)=false:=hs;have e5:ZG ((1,5),t::s::r)=some (s.kind==5):=p15;simp only[e1,Ha,zh,e5,Aa,Ik,hs];cases s.kind==5
     ·grind
     ·exact⟨2,by rfl,rfl⟩
    |true=>
     have e1:(match(t::s::r)[1]? with|some t=>t.kind==13|none=>false)=true:=hs;simp only[e1,Ea,zh,p25,Aa,Ik,hs];cases r with
     |nil=>grind
     |cons u r=>
      show∃n:Int,(bif !(u.kind==5)then some 0 else some (w64 (2+1)))=some n/\(n==0)= !(!true||u.kind==5);cases u.kind==5
      ·grind
      ·exact⟨3,rfl,rfl⟩
theorem IQ(l:List zb):decide ((l.length:Int)>1500)= !decide (l.length<=1500):=zDd _ 1500
theorem r9{l:List zb}(h: ∀t∈l,t.text.length<=big/\t.unit.length<=big):Ux l=some (gluS l):=by
 unfold Ux gluS;rw[IQ];cases e:decide (l.length<=1500)with
 |false=>rfl
 |true=>
  have e:=Gc e;simp only[Ec,Ha,Ea];refine(lQ l.length (Ym l) 8 (fun i a=> ?_) ?_).trans ?_
  ·obtain⟨d,j⟩:=h _ (Sd a);have b:l.getD i default=l[i]:=by simp[a]
   have c:=Jb a;obtain⟨n,f,k⟩:=p9 (t:=l[i]) (r:=l.drop (i+1)) d;rw[<-c]at f k;have g:decide ((i:Int)<=(l.length:Int))=true:=Ma (by omega);unfold Ym;simp only[Lj a,Ea,QV a,ze,Aa,F9 d j,EF,g,Sb,Oe,qA,Ic,f,Hl,qZ a (show l.length<=big by unfold big;omega),b]
   grind
  ·grind
  grind
theorem aH{α:Type}{l:List α}{i:Nat}{s:α}{r:List α}(h:l.drop i=s::r):i<l.length/\geti l (i:Int)=some s/\l.drop (i+1)=r:=by
 have a:i<l.length:=by
  rcases Lc i l.length with b|b
  ·exact b
  ·rw[Ue b]at h;cases h
 rw[Jb a]at h;injection h with d c;exact⟨a,by rw[QV a,d],c⟩
theorem YH{α:Type}{l:List α}{i:Nat}(h:l.drop i=[])(hi:i<=l.length):i=l.length:=by have:=Pe.1 h;omega
theorem zAn{l:List zb}{i:Nat}(hi:i<l.length)(v:l.length<=1500):
  zS (X:=Int) (R:=LX Unit (LO Int Unit Int)) (ze (zu (decide (((i+1:Nat):Int)<(l.length:Int))) (geti l ((i+1:Nat):Int)) (default:zb)) fun m=>bif bif decide (((i+1:Nat):Int)<(l.length:Int))then m.kind==13 else false then some (LX.out (w64 (((i+1:Nat):Int)+1)))else some (LX.out ((i+1:Nat):Int)))
   (fun a=>ze (zu (!(decide (a>=(l.length:Int)))) (geti l a) (default:zb)) fun h=>bif bif decide (a>=(l.length:Int))then true else h.kind != 5 then some (LX.ret (LO.ret 8))else some (LX.out ()))=bif Ik (l.drop (i+1))then some (LX.out ())else some (LX.ret (LO.ret 8)):=by
 cases f:l.drop (i+1)with
 |nil=> have k:=YH f (by omega);have o:decide (((i+1:Nat):Int)<(l.length:Int))=false:=Dc (by omega);have b:decide (((i+1:Nat):Int)>=(l.length:Int))=true:=Ma (by omega);simp only[o,b,Qx,ze,Aa,Ha,Ea,zh,Ec,Ik]
 |cons s r=>
  obtain⟨c,e,d⟩:=aH f;have b:decide (((i+1:Nat):Int)>=(l.length:Int))=false:=Dc (by omega);have n:w64 (((i+1:Nat):Int)+1)=((i+1+1:Nat):Int):=qZ c (by unfold big;omega);simp only[Lj c,Zx,e,ze,Aa,Ea,n,Ik];cases p:s.kind==13 with
  |false=>
   simp only[Ha,zh,b,Cc,Zx,e,Aa,bne]
   grind
  |true=>
   simp only[Ea,zh];cases r with
   |nil=> have k:=YH d (by omega);simp_all
   |cons u r=>
    obtain⟨t,j,q⟩:=aH d;have g:decide (((i+1+1:Nat):Int)>=(l.length:Int))=false:=Dc (by omega);simp only[g,Cc,Zx,j,Aa,Ha,bne]
    grind
theorem bY{l:List zb}{i:Nat}(hi:i<l.length)(d:Bool)(A B:Option (LO Int Unit Int)):
  (ze (zu (!(((i+1:Nat):Int)==(l.length:Int))&&d) (geti l ((i+1:Nat):Int)) (default:zb)) fun a=>bif bif d then bif ((i+1:Nat):Int)==(l.length:Int)then true else a.kind != 13 else false then A else B)=bif !d||Xi (l.drop (i+1))then B else A:=by
 cases d with
 |false=>simp_all
 |true=>
  cases c:l.drop (i+1)with
  |nil=> have h:=YH c (by omega);have b:(((i+1:Nat):Int)==(l.length:Int))=true:=Rb.2 (by omega);simp only[b,Ec,Rc,Qx,ze,Aa,Ea,Xi,Bool.or_self,Ha]
  |cons s r=>
   obtain⟨f,e,g⟩:=aH c;have b:(((i+1:Nat):Int)==(l.length:Int))=false:=Fa.2 (by omega);simp only[b,Cc,Sb,Zx,e,ze,Aa,Ea,Xi,Ha,Ec,Ld,bne]
   grind
theorem zBa(b:Bool)(t u:zb)(p:zb->Bool):(bif b then p (bif b then t else u)else false)=(b&&p t):=by cases b<;>rfl
theorem zmN(k:jA){l:List zb}(h: ∀t∈l,t.text.length<=big/\t.unit.length<=big):Ot l=some (gluS l):=by
 unfold Ot gluS;rw[IQ];cases e:decide (l.length<=1500)with
 |false=>rfl
 |true=>
  have e:=Gc e;simp only[Ec,Ha,Ea];refine(lQ l.length (Ym l) 8 (fun i a=> ?_) ?_).trans ?_
  ·obtain⟨g,p⟩:=h _ (Sd a);have d:l.getD i default=l[i]:=by simp[a]
   have f:=Jb a;have q:w64 ((i:Int)+1)=((i+1:Nat):Int):=qZ a (by unfold big;omega);have m:w64 (((i+1:Nat):Int)+1)=((i+2:Nat):Int):=qZ (n:=i+2) (by omega) (by unfold big;omega);unfold Ym;rw[f,d];simp only[Lj a,Ea,QV a,ze,Aa,zoZ k g p,q];cases s:Gg l[i]with
   |false=>rfl
   |true=>
    simp only[Ec,Ha,Hl,Aa,Sb];have j:=zAn a e;have o:=bY a (l[i].kind==9&&l[i].text==[92]) (some (LO.ret 8)) (some (LO.again ((i+1:Nat):Int)));simp only[ze]at j o;have b:(bif l[i].kind==2 then bif l[i].kind==2 then lowS (bif l[i].kind==2 then l[i]else default).text==[117,114,108]else default else false)=Vg l[i]:=by unfold Vg;cases l[i].kind==2<;>rfl
    have r:(zu (l[i].kind==2) (qB ((bif l[i].kind==2 then l[i]else default).text,[117,114,108])) (default:Bool))=some (bif l[i].kind==2 then lowS (bif l[i].kind==2 then l[i]else default).text==[117,114,108]else default):=by
     cases u:l[i].kind==2 with
     |false=>rfl
     |true=> show qB (l[i].text,[117,114,108])=some (lowS l[i].text==[117,114,108]);rw[wY g (by decide),Pv]
    have c:(bif l[i].kind==9 then(bif l[i].kind==9 then l[i]else default).text==[92]else false)=(l[i].kind==9&&l[i].text==[92]):=zBa (l[i].kind==9) l[i] default fun t=>t.text==[92];simp only[r,Aa,b,c,j,okAt];cases Vg l[i]with
    |false=>
     simp only[Ha,zh,Cc,Oe,Jc]
     grind
    |true=>
     simp only[Ea,Ec,Ld];cases Ik (l.drop (i+1))with
     |false=>simp_all
     |true=>
      simp only[Ea,zh,Jc]
      grind
  ·grind
  grind
theorem zmM{l:List zb}(h: ∀t∈l,t.text.length<=big/\t.unit.length<=big):Ot l=some (gluS l):=zmN zmO h
set_option maxRecDepth 100000
def partT(r:Nat)(p:Bool):Str:=bif (Ci r).isEmpty then(bif p then [48]else [])else Ci r
theorem Yn{r:Nat}(h:r<1000)(p:Bool):(partT r p).all digB=true/\(partT r p).length<=3/\valG 0 (partT r p)*10 ^ (3 - (partT r p).length)=r/\Jl r p=(bif (partT r p).isEmpty then []else 46::partT r p)/\((partT r p).isEmpty=((r==0)&& !p)):=by
 have f:=XG r h;simp only[Vz,Ca,jb,Rb]at f;obtain⟨⟨⟨⟨a,b⟩,c⟩,d⟩,e⟩:=f;unfold partT Jl;cases g:(Ci r).isEmpty with
 |true=>
  have i:r=0:=by rw[g]at d;exact Rb.1 d.symm
  subst i;cases p<;>refine⟨by decide,by decide,by decide,rfl,rfl⟩
 |false=>
  grind
theorem EM{l:Str}(h:(l.all fun b=>digB b||b==46)=true):mg l=true:=by
 unfold mg;rw[Ta]at h ⊢;intro b hb;have:=h b hb;refine Ma ?_;rw[Tc]at this;rcases this with h1|h1
 ·have:=Ns h1;omega
 simp_all
theorem yL{m:Nat}(p:Bool):((Ig m p).all fun b=>digB b||b==46)=true:=by
 obtain⟨d,_,_⟩:=oq (m / 1000);obtain⟨g,_,_,e,_⟩:=Yn (r:=m%1000) (by omega) p;have f: ∀l:Str,l.all digB=true->(l.all fun b=>digB b||b==46)=true:=by intro l a;rw[Ta]at a ⊢;intro b c;rw[a b c];rfl
 unfold Ig
 grind
theorem Ow(u:Nat): ∃c r,Lib.decDigits u=c::r/\digB c=true:=by
 obtain⟨b,_,a⟩:=oq u;cases h:Lib.decDigits u with
 |nil=>exact absurd h a
 |cons c r=>grind
theorem QT{c:UInt8}(h:digB c=true):c≠45/\c≠43/\c≠46/\c≠0/\List.contains [43,45] c=false:=by
 have: ∀n:Nat,n<256->digB (UInt8.ofNat n)=true->UInt8.ofNat n≠45/\UInt8.ofNat n≠43/\UInt8.ofNat n≠46/\UInt8.ofNat n≠0/\List.contains [43,45] (UInt8.ofNat n)=false:=by decide+kernel
 have:=this c.toNat (Fb c);simp_all
theorem xX{m:Nat}(p:Bool): ∃f,Lib.cut (Ig m p) [46]=(Lib.decDigits (m / 1000),partT (m%1000) p,f):=by
 obtain⟨a,_,_⟩:=oq (m / 1000);obtain⟨_,_,_,b,_⟩:=Yn (r:=m%1000) (by omega) p;unfold Ig Lib.cut;rw[rC,b];cases c:(partT (m%1000) p).isEmpty with
 |true=> rw[Ea,Bb,aF _ a,Ga (by decide)];simp_all
 |false=> rw[Ha,bF _ _ a,La (by omega)];simp_all
theorem zmQ{n:Int}(S: -1000000000000<=n)(h2:n<=1000000000000)(p:Bool):ZP (numT n p)=some n:=by
 obtain⟨m,B⟩: ∃m:Nat,n.natAbs=m:=⟨_,rfl⟩;have k:m<=1000000000000:=by omega
 obtain⟨c,r,E,y⟩:=Ow (m / 1000);obtain⟨h,C,_,_,t⟩:=QT y;have d:Ig m p=c::(r++Jl (m%1000) p):=by unfold Ig;rw[E];rfl
 have A:=cB k p;obtain⟨f,j⟩:=xX (m:=m) p;obtain⟨X,L,Y⟩:=oq (m / 1000);obtain⟨T,U,K,V,W⟩:=Yn (r:=m%1000) (by omega) p;have H:=dH (u:=m / 1000) (by omega);have o:short (Ig m p)=true:=Ma (by omega);have w:Lib.trimLeftS (Ig m p) [43,45]=Ig m p:=by rw[d];unfold Lib.trimLeftS;rw[List.dropWhile_cons,t];rfl
 have J:Lib.trimLeftS (numT n p) [43,45]=Ig m p:=by
  unfold numT;rw[B];by_cases g:n<0
  ·rw[La g];show List.dropWhile _ (45::Ig m p)=_;simp_all
  ·grind
 have Q: ∃b,geti (numT n p) 0=some b/\(((b.toNat:Int)==45)=decide (n<0)):=by
  unfold numT;rw[B];by_cases g:n<0
  ·rw[La g,Ma g];exact⟨45,rfl,rfl⟩
  ·rw[Ga g,Dc g];refine⟨c,by rw[d];rfl,Fa.2 (fun e=>h ?_)⟩;exact Re.1 (by grind)
 obtain⟨b,x,z⟩:=Q;unfold ZP;simp only[ze,x,Aa];have O:Gj (numT n p,[43,45])=some (Ig m p):=by unfold Gj;rw[zy (show(short ([43,45]:Str)&&mg [43,45])=true by decide)];exact congrArg some J
 have M:QX (Ig m p,[101,69])=some (-1):=by unfold QX;rw[zy (by simp only[o,EM (yL p),Jc,Sb];decide)];exact congrArg some (vF _ (yL p))
 have P:cutF (Ig m p,[46])=some (Lib.decDigits (m / 1000),partT (m%1000) p,f):=by unfold cutF;rw[zy (by exact o)];exact congrArg some j
 simp only[O,M,Aa,show decide ((-1:Int)>=0)=false from rfl,Ha,zh,P];rw[zy (yw.2 (by omega))];have N:w64 (3 - ((partT (m%1000) p).length:Int))=((3 - (partT (m%1000) p).length:Nat):Int):=by rw[zW (by omega) (by omega)];omega
 rw[N,Dc (by omega),Ha,zh];simp only;have D:maxLen=9223372036854775807:=rfl;rw[zy (Ma (by grind))];have q:valG 0 (Lib.decDigits (m / 1000)++partT (m%1000) p)*10 ^ (3 - (partT (m%1000) p).length)=m:=by rw[AB,L,Gv,Ve,K,Nat.mul_assoc,<-Nat.pow_add,show(partT (m%1000) p).length+(3 - (partT (m%1000) p).length)=3 by omega];omega
 have s:valG 0 (Lib.decDigits (m / 1000)++partT (m%1000) p)<=1000000000000:=by have:=De (valG 0 (Lib.decDigits (m / 1000)++partT (m%1000) p)) (Jg (n:=3 - (partT (m%1000) p).length) (show 0<10 by omega));omega
 rw[Qg (RX (l:=Lib.decDigits (m / 1000)++partT (m%1000) p) (by grind) (by grind) s (fun v i R=> ?_) (fun v=> ?_))]
 ·rw[Qg (nZ (by omega) (by grind) (fun a b=> ?_)),q]
  ·rw[z];by_cases g:n<0
   ·rw[Ma g,Ea,zh,zW (by omega) (by omega)];congr 1;omega
   ·rw[Dc g,Ha,zh];congr 1;omega
  ·simp only
 ·have F:decide ((i:Int)<((Lib.decDigits (m / 1000)++partT (m%1000) p).length:Int))=true:=Ma (by omega);have G:decide ((0:Int)<=(i:Int))=true:=Ma (by omega);simp only[F,G,Ea,Jc,qA,Ic,Ja R,Aa]
 ·grind
theorem zA4(n:Int)(p:Bool):(n<0/\numT n p=45::Ig n.natAbs p)\/(¬n<0/\numT n p=Ig n.natAbs p):=by
 unfold numT
 grind
theorem Y2(m:Nat)(p:Bool): ∃c r,Ig m p=c::r/\digB c=true:=by obtain⟨c,r,h,a⟩:=Ow (m / 1000);exact⟨c,r++Jl (m%1000) p,by unfold Ig;rw[h];rfl,a⟩
theorem Jz{n:Int}(b: -1000000000000<=n)(h2:n<=1000000000000)(p:Bool):(numT n p).length<=25/\1<=(numT n p).length:=by
 have:=cB (m:=n.natAbs) (by omega) p;obtain⟨c,r,a,_⟩:=Y2 n.natAbs p;rcases zA4 n p with⟨_,h⟩|⟨_,h⟩
 ·grind
 grind
theorem Zw{n:Nat}(h:n<256):Zq ((n:Nat):Int)=some (UInt8.ofNat n):=by
 unfold Zq
 grind
theorem kF(n k:Nat)(a:k<=32):Ah .i32 (n:Int) (k:Int)=((n / 2 ^ k:Nat):Int):=by
 unfold Ah;rw[show(min ((k:Int).toNat) IntKind.i32.bits)=k by show min k 32=k;omega]
 grind
theorem shr6(n:Nat):Ah .i32 (n:Int) 6=((n / 64:Nat):Int):=kF n 6 (by omega)
theorem BV(n:Nat):Ah .i32 (n:Int) 12=((n / 4096:Nat):Int):=kF n 12 (by omega)
theorem AV(n:Nat):Ah .i32 (n:Int) 18=((n / 262144:Nat):Int):=kF n 18 (by omega)
theorem zDZ(n:Int):IntKind.u8.wrap n=n%256:=by simp[IntKind.wrap,IntKind.bits,IntKind.signed]
theorem zCJ(n:Int):IntKind.u32.wrap n=n%4294967296:=by simp[IntKind.wrap,IntKind.bits,IntKind.signed]
theorem Dm{n:Nat}(h:n<2147483648):w32 (n:Int)=(n:Int):=by show IntKind.i32.wrap _=_;simp only[IntKind.wrap,IntKind.bits,IntKind.signed];simp;omega
theorem IM{n:Nat}(h:n<2147483648):wu32 (n:Int)=(n:Int):=by show IntKind.u32.wrap _=_;rw[zCJ];omega
theorem Ev(n:Nat):wu8 (n:Int)=((n%256:Nat):Int):=by show IntKind.u8.wrap (n:Int)=_;rw[zDZ];omega
theorem OM(n:Nat):ibOr .u8 128 (oh .u8 (wu8 (n:Int)) 63)=((128+n%64:Nat):Int):=by
 have: ∀m:Nat,m<256->ibOr .u8 128 (oh .u8 ((m:Nat):Int) 63)=((128+m%64:Nat):Int):=by decide+kernel
 rw[Ev,this _ (Nat.mod_lt _ (by omega)),show n%256%64=n%64 by omega]
theorem pU{n:Nat}(h:n<32):ibOr .u8 192 (wu8 (n:Int))=((192+n:Nat):Int):=by
 have: ∀m:Nat,m<32->ibOr .u8 192 (wu8 ((m:Nat):Int))=((192+m:Nat):Int):=by decide+kernel
 exact this n h
theorem Az{n:Nat}(h:n<16):ibOr .u8 224 (wu8 (n:Int))=((224+n:Nat):Int):=by
 have: ∀m:Nat,m<16->ibOr .u8 224 (wu8 ((m:Nat):Int))=((224+m:Nat):Int):=by decide+kernel
 exact this n h
theorem oU{n:Nat}(h:n<8):ibOr .u8 240 (wu8 (n:Int))=((240+n:Nat):Int):=by
 have: ∀m:Nat,m<8->ibOr .u8 240 (wu8 ((m:Nat):Int))=((240+m:Nat):Int):=by decide+kernel
 exact this n h
theorem kg{n m:Nat}(h:n+m<=2000000000):zX n m 1=true:=by unfold zX;grind
theorem FV{n:Nat}(o:n≠0)(h:n<16777216){l:Str}(m:l.length<=1000000000):ZR (w32 (n:Int),l)=some (l++ag n):=by
 have j:zX l.length 1 1=true:=kg (by omega);have f:zX l.length 2 1=true:=kg (by omega);have d:zX l.length 3 1=true:=kg (by omega);have g:zX l.length 4 1=true:=kg (by omega);have c:(128+n%64)<256:=by omega
 have a:(128+n / 64%64)<256:=by omega
 have b:(128+n / 4096%64)<256:=by omega
 unfold ZR ZX ag;simp only[Dm (show n<2147483648 by omega),IM (show n<2147483648 by omega),ze,shr6,BV,AV,OM,Zw c,Zw a,Zw b,Aa];by_cases e:n<128
 ·rw[Ma (by omega),Ea,Ev,Zw (by omega),Aa,zy j,Ga (by omega),La e,jf (by omega)]
 ·rw[Dc (by omega),Ha];by_cases i:n<2048
  ·rw[Ma (by omega),Ea,pU (by omega),Zw (by omega)];simp only[Aa];rw[zy f,Ga (by omega),Ga (by omega),La i];rfl
  ·rw[Dc (by omega),Ha];by_cases p:n<55296
   ·rw[Ma (by omega),Ea,zh];simp only[Ea];rw[Az (by omega),Zw (by omega)];simp only[Aa];rw[zy d,Ga (by omega),Ga (by omega),Ga (by omega),La (by omega)];rfl
   ·rw[Dc (by omega),Ha,zh];simp only[XV];by_cases k:57343<n/\n<65536
    ·rw[Ma (by omega),Ma (by omega),Jc,Ea,Az (by omega),Zw (by omega)];simp only[Aa];rw[zy d,Ga (by omega),Ga (by omega),Ga (by omega),La (by omega)];rfl
    ·rw[show(decide ((57343:Int)<(n:Int))&&decide ((n:Int)<=65535))=false by grind,Ha];by_cases q:65535<n/\n<=1114111
     ·rw[Ma (by omega),Ma (by omega),Jc,Ea,oU (by omega),Zw (by omega)];simp only[Aa];rw[zy g,Ga (by omega),Ga (by omega),Ga (by omega),Ga (by omega)];rfl
     ·rw[show(decide ((n:Int)>65535)&&decide ((n:Int)<=1114111))=false by grind,Ha,zy d,La (by omega)];rfl
theorem BO{l:Str}(a:l.length<=1000000000):ZR (65533,l)=some (l++Ml):=by have h:=FV (n:=65533) (by omega) (by omega) a;rw[Dm (by omega)]at h;exact h
theorem di{s:Str}{c:UInt8}{l:Str}(h:c::l<:+s):l<:+s:=(Be c l).trans h
theorem Ph{s:Str}{c:UInt8}{l:Str}(d:s.length<=big)(h:c::l<:+s):w64 ((beh s (c::l):Int)+1)=(beh s l:Int):=by
 have b:big=4194304:=rfl;have a:=h.length_le;rw[Sa]at a;have e:beh s (c::l)+1=beh s l:=by unfold beh;rw[Sa];omega
 have:=Uk s l;rw[zW (by omega) (by omega)];omega
theorem Xn(c:UInt8)(l:Str):pk (c::l) 0=(c.toNat:Int):=rfl
theorem Sw(c:UInt8):Zq (wu8 ((c.toNat:Nat):Int))=some c:=by rw[Ev,jf (Fb c),Zw (Fb c),Ud]
theorem NA{b:UInt8}(h:Qd b=true):hexN b<16:=Gc h
theorem iV{n d:Nat}(hn:n<16777216)(hd:d<16):ibOr .i64 (Ku .i64 (n:Int) 4) (d:Int)=((16*n+d:Nat):Int):=by
 have h1:Ku .i64 (n:Int) 4=((16*n:Nat):Int):=by unfold Ku;rw[show(2:Int) ^ (min (4:Int).toNat IntKind.i64.bits)=16 from rfl];rw[xk (by omega) (by omega)];omega
 rw[h1];unfold ibOr;have e:(BitVec.ofInt IntKind.i64.bits ((16*n:Nat):Int) ||| BitVec.ofInt IntKind.i64.bits (d:Int)).toNat=16*n+d:=by
  rw[BitVec.toNat_or,BitVec.toNat_ofInt,BitVec.toNat_ofInt];rw[show((((16*n:Nat):Int)%((2 ^ IntKind.i64.bits:Nat):Int)).toNat)=16*n by show(((16*n:Nat):Int)%18446744073709551616).toNat=_;omega,
   show(((d:Int)%((2 ^ IntKind.i64.bits:Nat):Int)).toNat)=d by show((d:Int)%18446744073709551616).toNat=_;omega]
  have:=Nat.two_pow_add_eq_or_of_lt (i:=4) (b:=d) hd n;rw[show 2 ^ 4*n=16*n from rfl]at this;exact this.symm
 rw[e,xk (by omega) (by omega)]
theorem VB(b:UInt8):decide (hexI b<0)= !Qd b:=by
 unfold hexI
 grind
theorem dF: ∀(k n:Nat) (l:Str),Qd (atS l 0)=false->hexes k n l=(n,l)
 |0,_,_,_=>rfl
 |_+1,_,[],_=>rfl
 |k+1,n,c::r,h=>by unfold hexes;rw[Ga (by rw[show Qd c=false from h];decide)]
theorem iM {R:Type} {step:(Int×Int)×za->Option (LO ((Int×Int)×za) (Int×za) R)} {s l:Str} (j:l<:+s)
  (h: ∀(n i:Nat) (q:Str),q<:+s->n<16777216->i<=6->step (((n:Int),(i:Int)),sr s q)=some (bif decide (i<6)&&Qd (atS q 0)then .again ((((16*n+hexN (atS q 0):Nat):Int),((i+1:Nat):Int)),sr s (q.drop 1))else .out ((n:Int),sr s q))):
  Tg step ((0,0),sr s l)=some (.out (((hexes 6 0 l).1:Int),sr s (hexes 6 0 l).2)):=by
 refine Qf (fun z=> ∃(n i:Nat) (q:Str),z=(((n:Int),(i:Int)),sr s q)/\q<:+s/\i<=6/\n<16 ^ i/\hexes (6 - i) n q=hexes 6 0 l) (fun z=>6 - z.1.2.toNat) _ ?_ ⟨0,0,l,rfl,j,by omega,by decide,rfl⟩;rintro _ ⟨n,i,q,rfl,g,f,k,d⟩;have e:n<16777216:=Xb k (Nat.pow_le_pow_right (by omega) f:16 ^ i<=16 ^ 6);rw[h n i q g e f];rcases Lc i 6 with b|m
 ·rw[Ma b,Sb];cases a:Qd (atS q 0)with
  |true=>
   cases q with
   |nil=>exact absurd a (by decide)
   |cons c r=>
    have o:=NA a;refine .inl ⟨_,rfl,⟨16*n+hexN (atS (c::r) 0),i+1,r,rfl,di g,by omega,?_,?_⟩,by grind⟩
    ·grind
    ·rw[<-d,show 6 - i=(6 - (i+1))+1 by omega];rw[hexes.eq_def ((6 - (i+1))+1) n (c::r)];simp only;rw[La (show Qd c=true from a)];rfl
  |false=> refine .inr (.inl ⟨_,rfl,?_⟩);rw[<-d,dF _ _ _ a]
 ·rw[Dc (by omega),Rc];refine .inr (.inl ⟨_,rfl,?_⟩);rw[<-d,show 6 - i=0 by omega];rfl
theorem UG: ∀(k n:Nat) (l:Str),(hexes k n l).1<16 ^ k*(n+1)
 |0,n,l=>by unfold hexes;omega
 |k+1,n,[]=>by have:0<16 ^ (k+1):=Jg (by omega);unfold hexes;exact Xb (Ub n) (Nat.le_mul_of_pos_left _ this)
 |k+1,n,c::r=>by
  unfold hexes;cases hx:Qd c with
  |true=> rw[La rfl];have h1:=UG k (16*n+hexN c) r;have:=NA hx;refine Xb h1 ?_;rw[Nat.pow_succ,Nat.mul_assoc];exact Nat.mul_le_mul_left _ (by omega)
  |false=> rw[Ga (by decide)];have:0<16 ^ (k+1):=Jg (by omega);exact Xb (Ub n) (Nat.le_mul_of_pos_left _ this)
theorem rH{s l acc:Str}{c:UInt8}(hs:s.length<=big)(hr:c::l<:+s)(ha:acc.length<=1000000000):
  zM (sr s (c::l),acc)=some (sr s (zq l).2,acc++(zq l).1):=by
 have hl:=di hr;unfold zM;simp only[Ph hs hr,ze,bg hs hl,Aa,Nn];cases l with
 |nil=> rw[show([]:Str).isEmpty=true from rfl,Ea,BO ha];rfl
 |cons d r=>
  rw[show(d::r).isEmpty=false from rfl,Ha,JE];simp only[Aa,VB];cases hx:Qd (atS (d::r) 0)with
  |false=>
   rw[Cc,Ea,Xn,Sw];simp only[Aa,Ph hs hl];rw[zy (kg (by omega))];have:zq (d::r)=([d],r):=by show(if Qd d then _ else _)=_;rw[Ga (by rw[show Qd d=false from hx];decide)]
   rw[this]
  |true=>
   rw[Ec,Ha];have he:zq (d::r)=(ag (hexes 6 0 (d::r)).1,unsp (hexes 6 0 (d::r)).2):=by show(if Qd d then _ else _)=_;rw[La (show Qd d=true from hx)]
   rw[he];rw[Qg (iM (l:=d::r) hl (fun n i q hq hn hi=> ?_))]
   ·have hq:(hexes 6 0 (d::r)).2<:+s:=(SC 6 0 _).trans hl;have hlt:=UG 6 0 (d::r);rw[show 16 ^ 6*(0+1)=16777216 from rfl]at hlt;simp only[bg hs hq,Aa,bv];have hj:(bif spB (atS (hexes 6 0 (d::r)).2 0)then some (LX.out (((hexes 6 0 (d::r)).1:Int),(⟨s,w64 ((beh s (hexes 6 0 (d::r)).2:Int)+1)⟩:za),acc))else some (LX.out (((hexes 6 0 (d::r)).1:Int),sr s (hexes 6 0 (d::r)).2,acc)):Option (LX (Int×za×List UInt8) (za×List UInt8)))
      =some (LX.out (((hexes 6 0 (d::r)).1:Int),sr s (unsp (hexes 6 0 (d::r)).2),acc)):=by
     cases hh:(hexes 6 0 (d::r)).2 with
     |nil=>rfl
     |cons e t=>
      rw[hh]at hq;rw[show atS (e::t) 0=e from rfl,Ph hs hq];show _=some (LX.out (_,sr s (if spB e then t else e::t),acc))
      grind
    rw[hj,zh];simp only;by_cases h0:(hexes 6 0 (d::r)).1=0
    ·rw[h0,show((((0:Nat):Int))==0)=true from rfl,Ea,zh];simp only[Dm (show 65533<2147483648 by omega),show w32 (65533:Int)=65533 from Dm (n:=65533) (by omega),BO ha,Aa];rfl
    ·rw[show(((hexes 6 0 (d::r)).1:Int)==0)=false by grind,Ha,zh];simp only[FV h0 hlt ha,Aa]
   ·simp only[bg hs hq,Aa,JE,VB];have hb6:decide ((i:Int)<6)=decide (i<6):=by rw[Af];omega
    rw[hb6];cases decide (i<6)with
    |false=>rfl
    |true=>
     rw[Ea,Sb];cases hx2:Qd (atS q 0)with
     |false=>rfl
     |true=>
      cases q with
      |nil=>exact absurd hx2 (by decide)
      |cons e t=>
       have hI:hexI (atS (e::t) 0)=(hexN (atS (e::t) 0):Int):=by unfold hexI;rw[La hx2]
       rw[hI,iV hn (NA hx2),Ph hs hq,zW (by omega) (by omega)];rfl
theorem zBw{s r:Str}{k:Nat}(b:s.length<=big)(c:r<:+s)(d:k<=4):zt ((k:Int),sr s r)=some (escS (r.drop k)&&decide (k<r.length)):=by
 unfold zt;simp only[ze,lm b c (show k<=8 by omega),Aa,IV];rw[show w64 ((k:Int)+1)=((k+1:Nat):Int) by rw[zW (by omega) (by omega)];omega,lm b c (by omega)];unfold escS;rw[Qu,Qu,Ae];cases h:(atS r k==92)with
 |false=>simp_all
 |true=> have a:k<r.length:=Vu (by grind);rw[Ma a];simp only[zu,Ea,Aa,Sb,Jc];unfold bne;rw[wJ]
theorem zBv{l:Str}(h:escS l=true):0<l.length:=by unfold escS at h;rw[Ca]at h;exact Vu (by grind)
theorem YB{s r:Str}{k:Nat}(hs:s.length<=big)(hr:r<:+s)(hk:k<=4):zt ((k:Int),sr s r)=some (escS (r.drop k)):=by
 rw[zBw hs hr hk];cases h:escS (r.drop k)with
 |false=>rfl
 |true=> have:=zBv h;rw[Xc]at this;rw[Ma (by omega)];rfl
theorem aG{s r:Str}(a:s.length<=big)(b:r<:+s):zt (0,sr s r)=some (escS r):=YB (k:=0) a b (by omega)
theorem MK{s r:Str}{k:Nat}(a:s.length<=big)(b:r<:+s)(d:k<=2):zC ((k:Int),sr s r)=some (nmS (r.drop k)):=by
 unfold zC;have c:w64 ((k:Int)+1)=((k+1:Nat):Int):=by rw[zW (by omega) (by omega)];omega
 simp only[c,ze,lm a b (show k<=8 by omega),lm a b (show k+1<=8 by omega),Aa,zCt,YB a b (show k<=4 by omega),YB a b (show k+1<=4 by omega)];unfold nmS;rw[Qu,Qu,We];unfold bne;rw[Fu,Ae];cases atS r k==45 with
 |true=>
  simp only[Ec,Ha,yc];cases fstB (atS r (k+1))with
  |true=>rfl
  |false=>
   simp only[Cc,zu,Ea,Ha,Aa,Fu]
   grind
 |false=> simp only[Cc,Ea];cases fstB (atS r k)<;>cases escS (r.drop k)<;>rfl
theorem zAp(n:Nat):(ag n).length<=4:=by
 unfold ag Ml
 grind
theorem Ls(l:Str):(zq l).1.length<=4:=by
 cases l with
 |nil=>show Ml.length<=4;decide
 |cons c r=>
  show(if Qd c then(ag (hexes 6 0 (c::r)).1,unsp (hexes 6 0 (c::r)).2)else([c],r)).1.length<=4;split
  ·exact zAp _
  grind
theorem zF(c:UInt8)(r:Str):zm (c::r)=if letB c then((c::(zm r).1),(zm r).2)
  else if escS (c::r)then((zq r).1++(zm (zq r).2).1,(zm (zq r).2).2)
  else([],c::r):=by rw[zm]
theorem qJ:zm []=([],[]):=by rw[zm]
theorem zDB(l:Str):(pk l 0 != -1)= !l.isEmpty:=by unfold bne;rw[Nn]
theorem IE{s r:Str}(i:s.length<=big)(k:r<:+s):zK (sr s r)=some ((zm r).1,sr s (zm r).2):=by
 have m:big=4194304:=rfl;unfold zK;refine NH (r:=((zm r).1,sr s (zm r).2)) ?_;refine Qf (fun z=> ∃(q a:Str),z=(sr s q,a)/\q<:+s/\a.length+4*q.length<=4*s.length/\a++(zm q).1=(zm r).1/\(zm q).2=(zm r).2) (fun z=>s.length - z.1.at_.toNat) _ ?_ ⟨r,[],rfl,k,by grind,rfl,rfl⟩;rintro _ ⟨q,a,rfl,f,j,d,b⟩;simp only[ze,bg i f,Aa,pM];cases q with
 |nil=>
  refine .inr (.inr ⟨_,rfl,?_⟩);rw[qJ]at d b
  grind
 |cons c t=>
  have g:=f.length_le;rw[Sa]at g j;rw[show atS (c::t) 0=c from rfl];rw[zF]at d b;cases e:letB c with
  |true=>
   rw[e,La rfl]at d b;refine .inl ⟨(sr s t,a++[c]),?_,⟨t,a++[c],rfl,di f,by grind,by grind,b⟩,?_⟩
   ·rw[Ea,Xn,Sw];simp only[Aa];rw[zy (kg (by omega)),Ph i f]
   ·show s.length - beh s t<s.length - beh s (c::t);unfold beh;grind
  |false=>
   rw[e,Ga (by decide)]at d b;rw[Ha,zDB,show(c::t).isEmpty=false from rfl,aG i f];cases h:escS (c::t)with
   |true=>
    rw[h,La rfl]at d b;have l:=Ls t;have n:=Za t;refine .inl ⟨(sr s (zq t).2,a++(zq t).1),?_,⟨_,_,rfl,(ZM t).trans (di f),by grind,by grind,b⟩,?_⟩
    ·simp only[Cc,zu,Ea,Aa,rH i f (show a.length<=1000000000 by omega)]
    ·show s.length - beh s (zq t).2<s.length - beh s (c::t);unfold beh;grind
   |false=> simp_all
theorem Dk(l:Str):(zm l).2<:+l:=by
 match l with
 |[]=>rw[qJ];grind
 |c::r=>
  rw[zF];split
  ·exact(Dk r).trans (Be c r)
  ·split
   ·have:=Za r;exact(Dk (zq r).2).trans ((ZM r).trans (Be c r))
   grind
termination_by l.length
decreasing_by
 all_goals grind
end Go.Lv.VT
