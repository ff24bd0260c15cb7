/- Tokens that can be written: the program's check. -/
import Derived.Test.YtcdeccnjlkkejaaGreatDoorLaw
set_option linter.unusedSimpArgs false
set_option linter.unusedVariables false
namespace Go.Lv.VT
theorem bO(g d:Bool)(b c:UInt8):(bif g then namN (bif g then b else c).toNat else d)=bif g then namN b.toNat else d:=by cases g<;>rfl
theorem iX{x:zg}(h1:x.text.length<=big)(h2:x.unit.length<=big):bn x=some (uy x):=by
 unfold bn;rw[Ev (kH.2 (by grind))];simp only[ze,XK,Ca];have hn:decide (Lib.indexByte (x.text++x.unit) (0:Int).toNat.toUInt8<0)=(Af x.text&&Af x.unit):=by rw[LP,BG,AX,Bool.not_not]
 simp only[hn,KZ,Bu,QX,Ca,ge_iff_le,bne];have hb:=IQ x.text;unfold uy rngS;by_cases k9:x.kind=9
 ·simp only[k9,Int.reduceBEq,Oa,Sa,zQ,Bool.or_false,Bool.false_or];cases ht:x.text with
  |nil=>
   have:Af ([]:Str)=true:=rfl;simp only[this,Ac];cases Af x.unit<;>rfl
  |cons b r=>
   cases r with
   |nil=>
    have hd:=MR b;have e1:((([b]:Str).length:Int)==1)=true:=rfl;have e2:geti [b] 0=some b:=rfl;have e3:(([b]:Str)==[45])=(b==45):=by show((b==45)&&true)=_;rw[Vd]
    have e4:Af [b]= !(b==0):=by show((!(b==0))&&true)=_;rw[Vd]
    have e5:delS [b]=Hq b.toNat:=rfl;simp only[e1,e2,e3,e4,e5,iY,XY,QX,Ca,bO,<-hd];cases hu:x.unit with
    |nil=>
     have:Af ([]:Str)=true:=rfl;simp only[this,Vd];generalize (Pq.any fun c=>c==b)=a1;cases namN b.toNat<;>cases (b==0)<;>cases (b==45)<;>cases a1<;>cases (x.num==0)<;>cases x.flag<;>rfl
    |cons c s=> simp_all
   |cons c r=>
    have e1:(((b::c::r:Str).length:Int)==1)=false:=Ua.2 (by grind);have e3:((b::c::r:Str)==[45])=false:=by show((b==45)&&false)=_;rw[Ff]
    have e5:delS (b::c::r)=false:=rfl;simp only[e1,e3,e5];simp_all
 have b9:=Ua.2 k9;have hu:(x.unit==[])=true->Af x.unit=true:=fun h=>by rw[Sd]at h;rw[h];rfl
 have htx:(x.text==[])=true->Af x.text=true:=fun h=>by rw[Sd]at h;rw[h];rfl
 rw[<-hb];generalize hl45:(x.text==[45])=a11 at*;generalize (List.isPrefixOf [45,45] x.text)=a12 at*;generalize numS x.text=a3 at*;generalize Af x.text=a1 at*;generalize Af x.unit=a2 at*;generalize (x.text==[])=a4 at*;generalize (x.unit==[])=a5 at*;generalize (x.num==0)=a6 at*;generalize x.flag=a7 at*;generalize decide (-1000000000000<=x.num)=a8 at*;generalize decide (x.num<=1000000000000)=a9 at*;generalize (Int.tmod x.num 1000==0)=a10 at*;clear hb hn hl45;have K: ∀k:Int,k∈[1,2,3,4,5,7,10,11,12]->x.kind=k->True:=fun _ _ _=>trivial;clear K;by_cases k1:x.kind=1
 ·simp only[k1,zQ,Oa,Sa,Int.reduceBEq]
  grind
 by_cases k2:x.kind=2
 ·simp only[k2,zQ,Oa,Sa,Int.reduceBEq]
  grind
 by_cases k3:x.kind=3
 ·simp only[k3,zQ,Oa,Sa,Int.reduceBEq]
  grind
 by_cases k4:x.kind=4
 ·simp only[k4,zQ,Oa,Sa,Int.reduceBEq]
  grind
 by_cases k5:x.kind=5
 ·simp only[k5,zQ,Oa,Sa,Int.reduceBEq]
  grind
 by_cases k7:x.kind=7
 ·simp only[k7,zQ,Oa,Sa,Int.reduceBEq]
  grind
 by_cases k10:x.kind=10
 ·simp only[k10,zQ,Oa,Sa,Int.reduceBEq]
  grind
 by_cases k11:x.kind=11
 ·simp only[k11,zQ,Oa,Sa,Int.reduceBEq]
  grind
 by_cases k12:x.kind=12
 ·simp only[k12,zQ,Oa,Sa,Int.reduceBEq]
  grind
 simp only[b9,Ua.2 k1,Ua.2 k2,Ua.2 k3,Ua.2 k4,Ua.2 k5,Ua.2 k7,Ua.2 k10,Ua.2 k11,Ua.2 k12,zQ,Oa,Sa,Bool.or_self];cases decide (13<=x.kind)<;>cases decide (x.kind<=24)<;>cases a4<;>cases a5<;>cases a6<;>cases a7<;>rfl
theorem OW {R:Type} {step:Int->Option (LO Int Unit R)} {k:Unit->Option R} (n:Nat) (p:Nat->Bool) (r:R)
  (c: ∀(i:Nat),i<n->step (i:Int)=some (bif p i then .again ((i+1:Nat):Int)else .ret r)) (a:step (n:Int)=some (.out ())):
  ZG step 0 k=bif (List.range n).all p then k ()else some r:=by
 have e:=XV (k:=k) (List.range n) (fun i=>bif p i then none else some r) () (fun i b=> ?_) (by simpa using a)
 ·rw[e,dG]
  grind
 grind
def ry:List zg->Bool
 |[]=>false
 |s::r=>bif s.kind==13 then(match r with|u::_=>u.kind==5|[]=>false)else s.kind==5
def YO:List zg->Bool
 |[]=>false
 |s::_=>s.kind==13
def Hz(t:zg):Bool:=t.kind==2&&lowS t.text==[117,114,108]
def okAt:List zg->Bool
 |[]=>true
 |t::r=>(!(t.kind==9&&t.text==[92])||YO r)&&(!(Hz t)||ry r)
def Cz(l:List zg)(i:Nat):Bool:=uy (l.getD i default)&&okAt (l.drop i)
def gluS(l:List zg):Int:=bif decide (l.length<=1500)then(bif (List.range l.length).all (Cz l)then 0 else 8)else 4
theorem AA(l:List zg)(i:Nat)(k:Int):ZC (((i:Int),k),l)=some (match l[i]? with|some t=>t.kind==k|none=>false):=by
 unfold ZC;by_cases h:i<l.length
 ·simp only[Qc h,zJ,qZ h,ze,Ca,Oa,Fa h]
 ·have e:decide ((i:Int)<(l.length:Int))=false:=Wd (by omega);simp only[e,ZI,ze,Ca,Sa,List.getElem?_eq_none (Nat.le_of_not_lt h)]
theorem RP:lowS [117,114,108]=[117,114,108]:=by decide
theorem WY{t:zg}{r:List zg}(h:t.text.length<=big): ∃n:Int,Q0 (t::r)=some n/\(n==0)= !okAt (t::r):=by
 have e0:geti (t::r) 0=some t:=rfl;have p1:=AA (t::r) 1 13;have p15:=AA (t::r) 1 5;have p25:=AA (t::r) 2 5;unfold Q0;simp only[e0,ze,Ca,sI h (show([117,114,108]:Str).length<=big by decide),RP,QX];simp only[Int.natCast_one]at p1 p15;replace p25:ZC ((2,5),t::r)=_:=p25;rw[p1];unfold okAt Hz;cases hd:(t.kind==9&&t.text==[92])with
 |true=>
  have hk:t.kind=9:=by rw[Da,Sd]at hd;exact hd.1
  have ht:(t.text==[92])=true:=by rw[Da]at hd;exact hd.2
  simp only[hk,ht,Int.reduceBEq,Oa,Sa,Ca];cases r with
  |nil=>exact⟨_,rfl,rfl⟩
  |cons s r=>
   show∃n:Int,(bif !(s.kind==13)then some 0 else some 2)=some n/\(n==0)= !((!true||s.kind==13)&&_);cases s.kind==13
   ·simp_all
   simp_all
 |false=>
  have hc:(bif t.kind==9 then t.text==[92]else false)=false:=by
   cases h9:t.kind==9
   ·rfl
   ·grind
  simp only[hc,hd,Sa,ib,Bool.true_or,Ac];cases hu:(t.kind==2&&lowS t.text==[117,114,108])with
  |false=>
   have:(bif t.kind==2 then bif t.kind==2 then lowS t.text==[117,114,108]else default else false)=false:=by
    cases h2:t.kind==2
    ·rfl
    ·grind
   rw[this]
   grind
  |true=>
   rw[Da]at hu;rw[hu.1,hu.2];simp only[Oa,Ca];cases r with
   |nil=>exact⟨0,by simp[p15],rfl⟩
   |cons s r=>
    cases hs:s.kind==13 with
    |false=>
     have e1:(match(t::s::r)[1]? with|some t=>t.kind==13|none=>false)=false:=hs;have e5:ZC ((1,5),t::s::r)=some (s.kind==5):=p15;simp only[e1,Sa,zQ,e5,Ca,ry,hs];cases s.kind==5
     ·grind
     ·exact⟨2,by rfl,rfl⟩
    |true=>
     have e1:(match(t::s::r)[1]? with|some t=>t.kind==13|none=>false)=true:=hs;simp only[e1,Oa,zQ,p25,Ca,ry,hs];cases r with
     |nil=>grind
     |cons u r=>
      show∃n:Int,(bif !(u.kind==5)then some 0 else some (w64 (2+1)))=some n/\(n==0)= !(!true||u.kind==5);cases u.kind==5
      ·grind
      ·exact⟨3,rfl,rfl⟩
theorem gU(l:List zg):decide ((l.length:Int)>1500)= !decide (l.length<=1500):=UF _ 1500
theorem aY{l:List zg}(h: ∀t∈l,t.text.length<=big/\t.unit.length<=big):QB l=some (gluS l):=by
 unfold QB gluS;rw[gU];cases e:decide (l.length<=1500)with
 |false=>rfl
 |true=>
  have e:=Vb e;simp only[Mc,Sa,Oa];refine(OW l.length (Cz l) 8 (fun i a=> ?_) ?_).trans ?_
  ·obtain⟨d,j⟩:=h _ (Nc a);have b:l.getD i default=l[i]:=by simp[a]
   have c:=Rb a;obtain⟨n,f,k⟩:=WY (t:=l[i]) (r:=l.drop (i+1)) d;rw[<-c]at f k;have g:decide ((i:Int)<=(l.length:Int))=true:=Rc (by omega);unfold Cz;simp only[Qc a,Oa,qZ a,ze,Ca,iX d j,SF,g,Ac,Bool.true_or,Z4,Ec,f,QX,ZF a (show l.length<=big by unfold big;omega),b]
   grind
  ·grind
  grind
set_option maxRecDepth 100000
theorem sJ(c:UInt8)(r:Str):ZQ (c::r)=if letB c then((c::(ZQ r).1),(ZQ r).2)
  else if escS (c::r)then((Zl r).1++(ZQ (Zl r).2).1,(ZQ (Zl r).2).2)
  else([],c::r):=by rw[ZQ]
theorem VV:ZQ []=([],[]):=by rw[ZQ]
theorem Ml(l:Str):(ZQ l).2<:+l:=by
 match l with
 |[]=>rw[VV];grind
 |c::r=>
  rw[sJ];split
  ·exact(Ml r).trans (Ae c r)
  ·split
   ·have:=QM r;exact(Ml (Zl r).2).trans ((Jo r).trans (Ae c r))
   grind
termination_by l.length
decreasing_by
 all_goals grind
end Go.Lv.VT
