/- Tokens that can be written: the program's check. -/
import Derived.Test.YtcdeccnjlkkejaaGreatDoorLaw
set_option linter.unusedSimpArgs false
set_option linter.unusedVariables false
namespace Go.Lv.VT
theorem zCc(g d:Bool)(b c:UInt8):(bif g then namN (bif g then b else c).toNat else d)=bif g then namN b.toNat else d:=by cases g<;>rfl
theorem zrh{x:zf}(h1:x.text.length≤big)(h2:x.unit.length≤big):zfD x=some (zs1 x):=by
 unfold zfD
 rw[zD (QU.2 (by unfold big at h1 h2;omega))]
 simp only[ze,zfH,Option.bind_some]
 have hn:decide (Lib.indexByte (x.text++x.unit) (0:Int).toNat.toUInt8<0)=(zat x.text&&zat x.unit):=by
  rw[zBi,zw1,zrI,Bool.not_not]
 simp only[hn,zlI,zac,ZW,Option.bind_some,ge_iff_le,bne]
 have hb:=zzp x.text
 unfold zs1 rngS
 by_cases k9:x.kind=9
 ·simp only[k9,Int.reduceBEq,cond_true,cond_false,zh,Bool.or_false,Bool.false_or]
  cases ht:x.text with
  |nil=>
   have:zat ([]:Str)=true:=rfl
   simp only[this,Bool.true_and]
   cases zat x.unit<;>rfl
  |cons b r=>
   cases r with
   |nil=>
    have hd:=zyS b
    have e1:((([b]:Str).length:Int)==1)=true:=rfl
    have e2:geti [b] 0=some b:=rfl
    have e3:(([b]:Str)==[45])=(b==45):=by
     show((b==45)&&true)=_
     rw[Bool.and_true]
    have e4:zat [b]= !(b==0):=by show((!(b==0))&&true)=_;rw[Bool.and_true]
    have e5:delS [b]=zlw b.toNat:=rfl
    simp only[e1,e2,e3,e4,e5,zno,zph,ZW,Option.bind_some,zCc,←hd]
    cases hu:x.unit with
    |nil=>
     have:zat ([]:Str)=true:=rfl
     simp only[this,Bool.and_true]
     generalize (zor.any fun c=>c==b)=a1
     cases namN b.toNat<;>cases (b==0)<;>cases (b==45)<;>cases a1<;>cases (x.num==0)<;>cases x.flag<;>rfl
    |cons c s=>
     have:((c::s:Str)==[])=false:=rfl
     simp only[this]
     generalize zat (c::s)=a2
     generalize (zor.any fun c=>c==b)=a1
     cases a2<;>cases namN b.toNat<;>cases (b==0)<;>cases (b==45)<;>cases a1<;>cases (x.num==0)<;>cases x.flag<;>rfl
   |cons c r=>
    have e1:(((b::c::r:Str).length:Int)==1)=false:=beq_eq_false_iff_ne.2 (by simp only[List.length_cons];omega)
    have e3:((b::c::r:Str)==[45])=false:=by
     show((b==45)&&false)=_
     rw[Bool.and_false]
    have e5:delS (b::c::r)=false:=rfl
    simp only[e1,e3,e5]
    cases (zat (b::c::r)&&zat x.unit)<;>rfl
 have b9:=beq_eq_false_iff_ne.2 k9
 have hu:(x.unit==[])=true→zat x.unit=true:=fun h=>by rw[beq_iff_eq]at h;rw[h];rfl
 have htx:(x.text==[])=true→zat x.text=true:=fun h=>by rw[beq_iff_eq]at h;rw[h];rfl
 rw[←hb]
 generalize hl45:(x.text==[45])=a11 at*
 generalize (List.isPrefixOf [45,45] x.text)=a12 at*
 generalize numS x.text=a3 at*
 generalize zat x.text=a1 at*
 generalize zat x.unit=a2 at*
 generalize (x.text==[])=a4 at*
 generalize (x.unit==[])=a5 at*
 generalize (x.num==0)=a6 at*
 generalize x.flag=a7 at*
 generalize decide (-1000000000000≤x.num)=a8 at*
 generalize decide (x.num≤1000000000000)=a9 at*
 generalize (Int.tmod x.num 1000==0)=a10 at*
 clear hb hn hl45
 have K: ∀k:Int,k∈[1,2,3,4,5,7,10,11,12]→x.kind=k→True:=fun _ _ _=>trivial
 clear K
 by_cases k1:x.kind=1
 ·simp only[k1,zh,cond_true,cond_false,Int.reduceBEq]
  cases a1<;>cases a2<;>cases a4<;>cases a5<;>cases a6<;>cases a7<;>first|rfl|(simp at hu htx;done)|simp_all
 by_cases k2:x.kind=2
 ·simp only[k2,zh,cond_true,cond_false,Int.reduceBEq]
  cases a1<;>cases a2<;>cases a4<;>cases a5<;>cases a6<;>cases a7<;>first|rfl|(simp at hu htx;done)|simp_all
 by_cases k3:x.kind=3
 ·simp only[k3,zh,cond_true,cond_false,Int.reduceBEq]
  cases a1<;>cases a2<;>cases a4<;>cases a5<;>cases a6<;>cases a7<;>first|rfl|(simp at hu htx;done)|simp_all
 by_cases k4:x.kind=4
 ·simp only[k4,zh,cond_true,cond_false,Int.reduceBEq]
  cases a1<;>cases a2<;>cases a3<;>cases a4<;>cases a5<;>cases a6<;>cases a7<;>cases a11<;>cases a12<;>first|rfl|(simp at hu htx;done)|simp_all
 by_cases k5:x.kind=5
 ·simp only[k5,zh,cond_true,cond_false,Int.reduceBEq]
  cases a1<;>cases a2<;>cases a5<;>cases a6<;>cases a7<;>first|rfl|(simp at hu htx;done)|simp_all
 by_cases k7:x.kind=7
 ·simp only[k7,zh,cond_true,cond_false,Int.reduceBEq]
  cases a1<;>cases a2<;>cases a5<;>cases a6<;>cases a7<;>first|rfl|(simp at hu htx;done)|simp_all
 by_cases k10:x.kind=10
 ·simp only[k10,zh,cond_true,cond_false,Int.reduceBEq]
  cases a1<;>cases a2<;>cases a4<;>cases a5<;>cases a7<;>cases a8<;>cases a9<;>cases a10<;>first|rfl|(simp at hu htx;done)|simp_all
 by_cases k11:x.kind=11
 ·simp only[k11,zh,cond_true,cond_false,Int.reduceBEq]
  cases a1<;>cases a2<;>cases a4<;>cases a5<;>cases a7<;>cases a8<;>cases a9<;>cases a10<;>first|rfl|(simp at hu htx;done)|simp_all
 by_cases k12:x.kind=12
 ·simp only[k12,zh,cond_true,cond_false,Int.reduceBEq]
  cases a1<;>cases a2<;>cases a4<;>cases a5<;>cases a7<;>cases a8<;>cases a9<;>cases a10<;>first|rfl|(simp at hu htx;done)|simp_all
 simp only[b9,beq_eq_false_iff_ne.2 k1,beq_eq_false_iff_ne.2 k2,beq_eq_false_iff_ne.2 k3,beq_eq_false_iff_ne.2 k4,beq_eq_false_iff_ne.2 k5,beq_eq_false_iff_ne.2 k7,beq_eq_false_iff_ne.2 k10,beq_eq_false_iff_ne.2 k11,beq_eq_false_iff_ne.2 k12,zh,cond_true,cond_false,Bool.or_self]
 cases decide (13≤x.kind)<;>cases decide (x.kind≤24)<;>cases a4<;>cases a5<;>cases a6<;>cases a7<;>rfl
end Go.Lv.VT

namespace Go.Lv.VT
theorem zl3 {R:Type} {step:Int→Option (LO Int Unit R)} {k:Unit→Option R} (n:Nat) (p:Nat→Bool) (r:R)
  (hg: ∀(i:Nat),i<n→step (i:Int)=some (bif p i then .again ((i+1:Nat):Int)else .ret r)) (hf:step (n:Int)=some (.out ())):
  zX step 0 k=bif (List.range n).all p then k ()else some r:=by
 have e:=zeC (k:=k) (List.range n) (fun i=>bif p i then none else some r) () (fun i hi=> ?_) (by simpa using hf)
 ·rw[e,zkq]
  cases (List.range n).all p<;>rfl
 ·have hi':i<n:=by simpa using hi
  rw[hg i hi']
  simp only[List.getElem_range]
  cases p i<;>rfl
def ztI:List zf→Bool
 |[]=>false
 |s::r=>bif s.kind==13 then(match r with|u::_=>u.kind==5|[]=>false)else s.kind==5
def zou:List zf→Bool
 |[]=>false
 |s::_=>s.kind==13
def zw3(t:zf):Bool:=t.kind==2&&lowS t.text==[117,114,108]
def okAt:List zf→Bool
 |[]=>true
 |t::r=>(!(t.kind==9&&t.text==[92])||zou r)&&(!(zw3 t)||ztI r)
def zti(l:List zf)(i:Nat):Bool:=zs1 (l.getD i default)&&okAt (l.drop i)
def gluS(l:List zf):Int:=bif decide (l.length≤1500)then(bif (List.range l.length).all (zti l)then 0 else 8)else 4
theorem ztq(l:List zf)(i:Nat)(k:Int):Qf (((i:Int),k),l)=some (match l[i]? with|some t=>t.kind==k|none=>false):=by
 unfold Qf
 by_cases h:i<l.length
 ·simp only[ZJ h,zn,Zw h,ze,Option.bind_some,cond_true,List.getElem?_eq_getElem h]
 ·have e:decide ((i:Int)<(l.length:Int))=false:=decide_eq_false (by omega)
  simp only[e,zC,ze,Option.bind_some,cond_false,List.getElem?_eq_none (Nat.le_of_not_lt h)]
theorem zpt:lowS [117,114,108]=[117,114,108]:=by decide
theorem zpi{t:zf}{r:List zf}(h:t.text.length≤big): ∃n:Int,zew (t::r)=some n∧(n==0)= !okAt (t::r):=by
 have e0:geti (t::r) 0=some t:=rfl
 have p1:=ztq (t::r) 1 13
 have p15:=ztq (t::r) 1 5
 have p25:=ztq (t::r) 2 5
 unfold zew
 simp only[e0,ze,Option.bind_some,zjt h (show([117,114,108]:Str).length≤big by decide),zpt,ZW]
 simp only[Int.natCast_one]at p1 p15
 replace p25:Qf ((2,5),t::r)=_:=p25
 rw[p1]
 unfold okAt zw3
 cases hd:(t.kind==9&&t.text==[92])with
 |true=>
  have hk:t.kind=9:=by rw[Bool.and_eq_true,beq_iff_eq]at hd;exact hd.1
  have ht:(t.text==[92])=true:=by rw[Bool.and_eq_true]at hd;exact hd.2
  simp only[hk,ht,Int.reduceBEq,cond_true,cond_false,Option.bind_some]
  cases r with
  |nil=>exact⟨_,rfl,rfl⟩
  |cons s r=>
   show∃n:Int,(bif !(s.kind==13)then some 0 else some 2)=some n∧(n==0)= !((!true||s.kind==13)&&_)
   cases s.kind==13
   ·exact⟨0,rfl,rfl⟩
   ·exact⟨2,rfl,rfl⟩
 |false=>
  have hc:(bif t.kind==9 then t.text==[92]else false)=false:=by
   cases h9:t.kind==9
   ·rfl
   ·rw[h9]at hd;exact hd
  simp only[hc,hd,cond_false,Bool.not_false,Bool.true_or,Bool.true_and]
  cases hu:(t.kind==2&&lowS t.text==[117,114,108])with
  |false=>
   have:(bif t.kind==2 then bif t.kind==2 then lowS t.text==[117,114,108]else default else false)=false:=by
    cases h2:t.kind==2
    ·rfl
    ·rw[h2]at hu;exact hu
   rw[this]
   exact⟨1,rfl,rfl⟩
  |true=>
   rw[Bool.and_eq_true]at hu
   rw[hu.1,hu.2]
   simp only[cond_true,Option.bind_some]
   cases r with
   |nil=>exact⟨0,by simp[p15],rfl⟩
   |cons s r=>
    cases hs:s.kind==13 with
    |false=>
     have e1:(match(t::s::r)[1]? with|some t=>t.kind==13|none=>false)=false:=hs
     have e5:Qf ((1,5),t::s::r)=some (s.kind==5):=p15
     simp only[e1,cond_false,zh,e5,Option.bind_some,ztI,hs]
     cases s.kind==5
     ·exact⟨0,rfl,rfl⟩
     ·exact⟨2,by rfl,rfl⟩
    |true=>
     have e1:(match(t::s::r)[1]? with|some t=>t.kind==13|none=>false)=true:=hs
     simp only[e1,cond_true,zh,p25,Option.bind_some,ztI,hs]
     cases r with
     |nil=>exact⟨0,rfl,rfl⟩
     |cons u r=>
      show∃n:Int,(bif !(u.kind==5)then some 0 else some (w64 (2+1)))=some n∧(n==0)= !(!true||u.kind==5)
      cases u.kind==5
      ·exact⟨0,rfl,rfl⟩
      ·exact⟨3,rfl,rfl⟩
theorem zol(l:List zf):decide ((l.length:Int)>1500)= !decide (l.length≤1500):=zwQ _ 1500
theorem zpf{l:List zf}(h: ∀t∈l,t.text.length≤big∧t.unit.length≤big):zda l=some (gluS l):=by
 unfold zda gluS
 rw[zol]
 cases hl:decide (l.length≤1500)with
 |false=>rfl
 |true=>
  have hl:=of_decide_eq_true hl
  simp only[Bool.not_true,cond_false,cond_true]
  refine(zl3 l.length (zti l) 8 (fun i hi=> ?_) ?_).trans ?_
  ·obtain⟨g1,g2⟩:=h _ (List.getElem_mem hi)
   have hgd:l.getD i default=l[i]:=by simp[hi]
   have hdr:=List.drop_eq_getElem_cons hi
   obtain⟨n,e1,e2⟩:=zpi (t:=l[i]) (r:=l.drop (i+1)) g1
   rw[←hdr]at e1 e2
   have e3:decide ((i:Int)≤(l.length:Int))=true:=decide_eq_true (by omega)
   unfold zti
   simp only[ZJ hi,cond_true,Zw hi,ze,Option.bind_some,zrh g1 g2,zrH,e3,Bool.true_and,Bool.true_or,Ze,Int.toNat_natCast,e1,ZW,Zb hi (show l.length≤big by unfold big;omega),hgd]
   cases zs1 l[i]with
   |false=>rfl
   |true=>
    simp only[Bool.not_true,Bool.not_false,cond_true,cond_false,e2,Bool.true_and]
    cases okAt (l.drop i)<;>rfl
  ·simp only[Z6,cond_false]
  ·cases (List.range l.length).all (zti l)<;>rfl
end Go.Lv.VT

namespace Go.Lv.VT
theorem zly{α:Type}{l:List α}{i:Nat}{s:α}{r:List α}(h:l.drop i=s::r):i<l.length∧geti l (i:Int)=some s∧l.drop (i+1)=r:=by
 have hi:i<l.length:=by
  rcases Nat.lt_or_ge i l.length with h'|h'
  ·exact h'
  ·rw[List.drop_eq_nil_of_le h']at h;cases h
 rw[List.drop_eq_getElem_cons hi]at h
 injection h with h1 h2
 exact⟨hi,by rw[Zw hi,h1],h2⟩
theorem zlz{α:Type}{l:List α}{i:Nat}(h:l.drop i=[])(hi:i≤l.length):i=l.length:=by
 have:=List.drop_eq_nil_iff.1 h;omega
theorem zz2{l:List zf}{i:Nat}(hi:i<l.length)(hl:l.length≤1500):
  zS (X:=Int) (R:=LX Unit (LO Int Unit Int)) (ze (zo (decide (((i+1:Nat):Int)<(l.length:Int))) (geti l ((i+1:Nat):Int)) (default:zf)) fun y7=>bif bif decide (((i+1:Nat):Int)<(l.length:Int))then y7.kind==13 else false then some (LX.out (w64 (((i+1:Nat):Int)+1)))else some (LX.out ((i+1:Nat):Int)))
   (fun j8=>ze (zo (!(decide (j8≥(l.length:Int)))) (geti l j8) (default:zf)) fun y9=>bif bif decide (j8≥(l.length:Int))then true else y9.kind != 5 then some (LX.ret (LO.ret 8))else some (LX.out ()))=bif ztI (l.drop (i+1))then some (LX.out ())else some (LX.ret (LO.ret 8)):=by
 cases hr:l.drop (i+1)with
 |nil=>
  have he:=zlz hr (by omega)
  have e1:decide (((i+1:Nat):Int)<(l.length:Int))=false:=decide_eq_false (by omega)
  have e2:decide (((i+1:Nat):Int)≥(l.length:Int))=true:=decide_eq_true (by omega)
  simp only[e1,e2,zC,ze,Option.bind_some,cond_false,cond_true,zh,Bool.not_true,ztI]
 |cons s r=>
  obtain⟨h1,h2,h3⟩:=zly hr
  have e2:decide (((i+1:Nat):Int)≥(l.length:Int))=false:=decide_eq_false (by omega)
  have hw:w64 (((i+1:Nat):Int)+1)=((i+1+1:Nat):Int):=Zb h1 (by unfold big;omega)
  simp only[ZJ h1,zn,h2,ze,Option.bind_some,cond_true,hw,ztI]
  cases hs:s.kind==13 with
  |false=>
   simp only[cond_false,zh,e2,Bool.not_false,zn,h2,Option.bind_some,bne]
   cases s.kind==5<;>rfl
  |true=>
   simp only[cond_true,zh]
   cases r with
   |nil=>
    have he:=zlz h3 (by omega)
    have e3:decide (((i+1+1:Nat):Int)≥(l.length:Int))=true:=decide_eq_true (by omega)
    simp only[e3,Bool.not_true,zC,Option.bind_some,cond_true,cond_false]
   |cons u r=>
    obtain⟨g1,g2,g3⟩:=zly h3
    have e3:decide (((i+1+1:Nat):Int)≥(l.length:Int))=false:=decide_eq_false (by omega)
    simp only[e3,Bool.not_false,zn,g2,Option.bind_some,cond_false,bne]
    cases u.kind==5<;>rfl
theorem zyT{l:List zf}{i:Nat}(hi:i<l.length)(d:Bool)(A B:Option (LO Int Unit Int)):
  (ze (zo (!(((i+1:Nat):Int)==(l.length:Int))&&d) (geti l ((i+1:Nat):Int)) (default:zf)) fun y13=>bif bif d then bif ((i+1:Nat):Int)==(l.length:Int)then true else y13.kind != 13 else false then A else B)=bif !d||zou (l.drop (i+1))then B else A:=by
 cases d with
 |false=>simp only[Bool.and_false,zC,ze,Option.bind_some,cond_false,Bool.not_false,Bool.true_or,cond_true]
 |true=>
  cases hr:l.drop (i+1)with
  |nil=>
   have he:=zlz hr (by omega)
   have e1:(((i+1:Nat):Int)==(l.length:Int))=true:=beq_iff_eq.2 (by omega)
   simp only[e1,Bool.not_true,Bool.false_and,zC,ze,Option.bind_some,cond_true,zou,Bool.or_self,cond_false]
  |cons s r=>
   obtain⟨h1,h2,h3⟩:=zly hr
   have e1:(((i+1:Nat):Int)==(l.length:Int))=false:=beq_eq_false_iff_ne.2 (by omega)
   simp only[e1,Bool.not_false,Bool.true_and,zn,h2,ze,Option.bind_some,cond_true,zou,cond_false,Bool.not_true,Bool.false_or,bne]
   cases s.kind==13<;>rfl
theorem zAI(b:Bool)(t u:zf)(p:zf→Bool):(bif b then p (bif b then t else u)else false)=(b&&p t):=by cases b<;>rfl
theorem znP(hD:zoQ){l:List zf}(h: ∀t∈l,t.text.length≤big∧t.unit.length≤big):za1 l=some (gluS l):=by
 unfold za1 gluS
 rw[zol]
 cases hl:decide (l.length≤1500)with
 |false=>rfl
 |true=>
  have hl:=of_decide_eq_true hl
  simp only[Bool.not_true,cond_false,cond_true]
  refine(zl3 l.length (zti l) 8 (fun i hi=> ?_) ?_).trans ?_
  ·obtain⟨g1,g2⟩:=h _ (List.getElem_mem hi)
   have hgd:l.getD i default=l[i]:=by simp[hi]
   have hdr:=List.drop_eq_getElem_cons hi
   have hw:w64 ((i:Int)+1)=((i+1:Nat):Int):=Zb hi (by unfold big;omega)
   have hw2:w64 (((i+1:Nat):Int)+1)=((i+2:Nat):Int):=Zb (n:=i+2) (by omega) (by unfold big;omega)
   unfold zti
   rw[hdr,hgd]
   simp only[ZJ hi,cond_true,Zw hi,ze,Option.bind_some,zp4 hD g1 g2,hw]
   cases hf:zs1 l[i]with
   |false=>rfl
   |true=>
    simp only[Bool.not_true,cond_false,ZW,Option.bind_some,Bool.true_and]
    have hu:=zz2 hi hl
    have hd:=zyT hi (l[i].kind==9&&l[i].text==[92]) (some (LO.ret 8)) (some (LO.again ((i+1:Nat):Int)))
    simp only[ze]at hu hd
    have hlow:(bif l[i].kind==2 then bif l[i].kind==2 then lowS (bif l[i].kind==2 then l[i]else default).text==[117,114,108]else default else false)=zw3 l[i]:=by
     unfold zw3
     cases l[i].kind==2<;>rfl
    have ha:(zo (l[i].kind==2) (Z7 ((bif l[i].kind==2 then l[i]else default).text,[117,114,108])) (default:Bool))=some (bif l[i].kind==2 then lowS (bif l[i].kind==2 then l[i]else default).text==[117,114,108]else default):=by
     cases h2:l[i].kind==2 with
     |false=>rfl
     |true=>
      show Z7 (l[i].text,[117,114,108])=some (lowS l[i].text==[117,114,108])
      rw[zmH g1 (by decide),zpt]
    have hdl:(bif l[i].kind==9 then(bif l[i].kind==9 then l[i]else default).text==[92]else false)=(l[i].kind==9&&l[i].text==[92]):=zAI (l[i].kind==9) l[i] default fun t=>t.text==[92]
    simp only[ha,Option.bind_some,hlow,hdl,hu,okAt]
    cases zw3 l[i]with
    |false=>
     simp only[cond_false,zh,Bool.not_false,Bool.true_or,Bool.and_true]
     refine hd.trans ?_
     cases (!(l[i].kind==9&&l[i].text==[92])||zou (l.drop (i+1)))<;>rfl
    |true=>
     simp only[cond_true,Bool.not_true,Bool.false_or]
     cases ztI (l.drop (i+1))with
     |false=>simp only[cond_false,zrr,Bool.and_false]
     |true=>
      simp only[cond_true,zh,Bool.and_true]
      refine hd.trans ?_
      cases (!(l[i].kind==9&&l[i].text==[92])||zou (l.drop (i+1)))<;>rfl
  ·simp only[Z6,cond_false]
  ·cases (List.range l.length).all (zti l)<;>rfl
theorem znO{l:List zf}(h: ∀t∈l,t.text.length≤big∧t.unit.length≤big):za1 l=some (gluS l):=znP znQ h
end Go.Lv.VT

namespace Go.Lv.VT
set_option maxRecDepth 100000
theorem zAF{l:Str}(h:(l.all fun b=>digB b||b==46)=true):zck l=true:=by
 unfold zck
 rw[List.all_eq_true]at h ⊢
 intro b hb
 have:=h b hb
 refine decide_eq_true ?_
 rw[Bool.or_eq_true]at this
 rcases this with h1|h1
 ·have:=zet h1;omega
 ·rw[beq_iff_eq.1 h1];decide
theorem zlx{c:UInt8}(h:digB c=true):c≠45∧c≠43∧c≠46∧c≠0∧List.contains [43,45] c=false:=by
 have: ∀n:Nat,n<256→digB (UInt8.ofNat n)=true→UInt8.ofNat n≠45∧UInt8.ofNat n≠43∧UInt8.ofNat n≠46∧UInt8.ofNat n≠0∧List.contains [43,45] (UInt8.ofNat n)=false:=by decide+kernel
 have:=this c.toNat (UInt8.toNat_lt c)
 rw[UInt8.ofNat_toNat]at this
 exact this h
end Go.Lv.VT

namespace Go.Lv.VT
set_option maxRecDepth 100000
end Go.Lv.VT

namespace Go.Lv.VT
set_option maxRecDepth 100000
theorem ZC{n:Nat}(h:n<256):Z4 ((n:Nat):Int)=some (UInt8.ofNat n):=by
 unfold Z4
 rw[decide_eq_true (by omega:(0:Int)≤(n:Int)),decide_eq_true (by omega:(n:Int)≤255)]
 rfl
theorem ztF(n k:Nat)(hk:k≤32):zfF .i32 (n:Int) (k:Int)=((n / 2 ^ k:Nat):Int):=by
 unfold zfF
 rw[show(min ((k:Int).toNat) IntKind.i32.bits)=k by show min k 32=k;omega]
 rw[Int.fdiv_eq_ediv_of_nonneg _ (Int.le_of_lt (Int.pow_pos (by decide)))]
 rw[Int.natCast_ediv,Int.natCast_pow]
 rfl
theorem shr6(n:Nat):zfF .i32 (n:Int) 6=((n / 64:Nat):Int):=ztF n 6 (by omega)
theorem zCD(n:Nat):zfF .i32 (n:Int) 12=((n / 4096:Nat):Int):=ztF n 12 (by omega)
theorem zCE(n:Nat):zfF .i32 (n:Int) 18=((n / 262144:Nat):Int):=ztF n 18 (by omega)
theorem zCP(n:Int):IntKind.u8.wrap n=n%256:=by simp[IntKind.wrap,IntKind.bits,IntKind.signed]
theorem zBM(n:Int):IntKind.u32.wrap n=n%4294967296:=by simp[IntKind.wrap,IntKind.bits,IntKind.signed]
theorem zga{n:Nat}(h:n<2147483648):w32 (n:Int)=(n:Int):=by
 show IntKind.i32.wrap _=_
 simp only[IntKind.wrap,IntKind.bits,IntKind.signed]
 simp
 omega
theorem zuR{n:Nat}(h:n<2147483648):wu32 (n:Int)=(n:Int):=by
 show IntKind.u32.wrap _=_
 rw[zBM];omega
theorem zjA(n:Nat):wu8 (n:Int)=((n%256:Nat):Int):=by
 show IntKind.u8.wrap (n:Int)=_
 rw[zCP]
 omega
theorem zun(n:Nat):ibOr .u8 128 (zh8 .u8 (wu8 (n:Int)) 63)=((128+n%64:Nat):Int):=by
 have: ∀m:Nat,m<256→ibOr .u8 128 (zh8 .u8 ((m:Nat):Int) 63)=((128+m%64:Nat):Int):=by decide+kernel
 rw[zjA,this _ (Nat.mod_lt _ (by omega)),show n%256%64=n%64 by omega]
theorem zCf{n:Nat}(h:n<32):ibOr .u8 192 (wu8 (n:Int))=((192+n:Nat):Int):=by
 have: ∀m:Nat,m<32→ibOr .u8 192 (wu8 ((m:Nat):Int))=((192+m:Nat):Int):=by decide+kernel
 exact this n h
theorem zzr{n:Nat}(h:n<16):ibOr .u8 224 (wu8 (n:Int))=((224+n:Nat):Int):=by
 have: ∀m:Nat,m<16→ibOr .u8 224 (wu8 ((m:Nat):Int))=((224+m:Nat):Int):=by decide+kernel
 exact this n h
theorem zCg{n:Nat}(h:n<8):ibOr .u8 240 (wu8 (n:Int))=((240+n:Nat):Int):=by
 have: ∀m:Nat,m<8→ibOr .u8 240 (wu8 ((m:Nat):Int))=((240+m:Nat):Int):=by decide+kernel
 exact this n h
theorem zen{n m:Nat}(h:n+m≤2000000000):Zv n m 1=true:=by unfold Zv;exact decide_eq_true (by omega)
theorem zCA{n:Nat}(h0:n≠0)(h:n<16777216){l:Str}(hl:l.length≤1000000000):qb (w32 (n:Int),l)=some (l++ziJ n):=by
 have a1:Zv l.length 1 1=true:=zen (by omega)
 have a2:Zv l.length 2 1=true:=zen (by omega)
 have a3:Zv l.length 3 1=true:=zen (by omega)
 have a4:Zv l.length 4 1=true:=zen (by omega)
 have a80:(128+n%64)<256:=by omega
 have m80:(128+n / 64%64)<256:=by omega
 have k80:(128+n / 4096%64)<256:=by omega
 unfold qb qh ziJ
 simp only[zga (show n<2147483648 by omega),zuR (show n<2147483648 by omega),ze,shr6,zCD,zCE,zun,ZC a80,ZC m80,ZC k80,Option.bind_some]
 by_cases h1:n<128
 ·rw[decide_eq_true (by omega),cond_true,zjA,ZC (by omega),Option.bind_some,zD a1,if_neg (by omega),if_pos h1,Nat.mod_eq_of_lt (by omega)]
 ·rw[decide_eq_false (by omega),cond_false]
  by_cases h2:n<2048
  ·rw[decide_eq_true (by omega),cond_true,zCf (by omega),ZC (by omega)]
   simp only[Option.bind_some]
   rw[zD a2,if_neg (by omega),if_neg (by omega),if_pos h2]
   rfl
  ·rw[decide_eq_false (by omega),cond_false]
   by_cases h3:n<55296
   ·rw[decide_eq_true (by omega),cond_true,zh]
    simp only[cond_true]
    rw[zzr (by omega),ZC (by omega)]
    simp only[Option.bind_some]
    rw[zD a3,if_neg (by omega),if_neg (by omega),if_neg (by omega),if_pos (by omega)]
    rfl
   ·rw[decide_eq_false (by omega),cond_false,zh]
    simp only[zAc]
    by_cases h4:57343<n∧n<65536
    ·rw[decide_eq_true (by omega),decide_eq_true (by omega),Bool.and_true,cond_true,zzr (by omega),ZC (by omega)]
     simp only[Option.bind_some]
     rw[zD a3,if_neg (by omega),if_neg (by omega),if_neg (by omega),if_pos (by omega)]
     rfl
    ·rw[show(decide ((57343:Int)<(n:Int))&&decide ((n:Int)≤65535))=false by rw[Bool.and_eq_false_iff];simp only[decide_eq_false_iff_not];omega,cond_false]
     by_cases h5:65535<n∧n≤1114111
     ·rw[decide_eq_true (by omega),decide_eq_true (by omega),Bool.and_true,cond_true,zCg (by omega),ZC (by omega)]
      simp only[Option.bind_some]
      rw[zD a4,if_neg (by omega),if_neg (by omega),if_neg (by omega),if_neg (by omega)]
      rfl
     ·rw[show(decide ((n:Int)>65535)&&decide ((n:Int)≤1114111))=false by rw[Bool.and_eq_false_iff];simp only[decide_eq_false_iff_not];omega,cond_false,zD a3,if_pos (by omega)]
      rfl
theorem zsf{l:Str}(hl:l.length≤1000000000):qb (65533,l)=some (l++zrz):=by
 have h:=zCA (n:=65533) (by omega) (by omega) hl
 rw[zga (by omega)]at h
 exact h
end Go.Lv.VT

namespace Go.Lv.VT
set_option maxRecDepth 100000
theorem zW{s:Str}{c:UInt8}{l:Str}(h:c::l<:+s):l<:+s:=(List.suffix_cons c l).trans h
theorem zgH{s:Str}{c:UInt8}{l:Str}(hs:s.length≤big)(h:c::l<:+s):w64 ((beh s (c::l):Int)+1)=(beh s l:Int):=by
 have hb:big=4194304:=rfl
 have h1:=h.length_le
 rw[List.length_cons]at h1
 have e:beh s (c::l)+1=beh s l:=by unfold beh;rw[List.length_cons];omega
 have:=zcl s l
 rw[Zg (by omega) (by omega)];omega
theorem zhw(c:UInt8)(l:Str):pk (c::l) 0=(c.toNat:Int):=rfl
theorem zhL(c:UInt8):Z4 (wu8 ((c.toNat:Nat):Int))=some c:=by
 rw[zjA,Nat.mod_eq_of_lt (UInt8.toNat_lt c),ZC (UInt8.toNat_lt c),UInt8.ofNat_toNat]
theorem zlL{b:UInt8}(h:zas b=true):hexN b<16:=of_decide_eq_true h
theorem zAx{n d:Nat}(hn:n<16777216)(hd:d<16):ibOr .i64 (zwX .i64 (n:Int) 4) (d:Int)=((16*n+d:Nat):Int):=by
 have h1:zwX .i64 (n:Int) 4=((16*n:Nat):Int):=by
  unfold zwX
  rw[show(2:Int) ^ (min (4:Int).toNat IntKind.i64.bits)=16 from rfl]
  rw[ZV (by omega) (by omega)];omega
 rw[h1]
 unfold ibOr
 have e:(BitVec.ofInt IntKind.i64.bits ((16*n:Nat):Int) ||| BitVec.ofInt IntKind.i64.bits (d:Int)).toNat=16*n+d:=by
  rw[BitVec.toNat_or,BitVec.toNat_ofInt,BitVec.toNat_ofInt]
  rw[show((((16*n:Nat):Int)%((2 ^ IntKind.i64.bits:Nat):Int)).toNat)=16*n by show(((16*n:Nat):Int)%18446744073709551616).toNat=_;omega,
   show(((d:Int)%((2 ^ IntKind.i64.bits:Nat):Int)).toNat)=d by show((d:Int)%18446744073709551616).toNat=_;omega]
  have:=Nat.two_pow_add_eq_or_of_lt (i:=4) (b:=d) hd n
  rw[show 2 ^ 4*n=16*n from rfl]at this
  exact this.symm
 rw[e,ZV (by omega) (by omega)]
theorem zgh(b:UInt8):decide (hexI b<0)= !zas b:=by
 unfold hexI
 cases zas b with
 |true=>simp only[if_true];exact decide_eq_false (by omega)
 |false=>rfl
theorem zs3: ∀(k n:Nat) (l:Str),zas (atS l 0)=false→hexes k n l=(n,l)
 |0,_,_,_=>rfl
 |_+1,_,[],_=>rfl
 |k+1,n,c::r,h=>by unfold hexes;rw[if_neg (by rw[show zas c=false from h];decide)]
theorem zt5 {R:Type} {step:(Int×Int)×za→Option (LO ((Int×Int)×za) (Int×za) R)} {s l:Str} (hl:l<:+s)
  (h: ∀(n i:Nat) (q:Str),q<:+s→n<16777216→i≤6→step (((n:Int),(i:Int)),sr s q)=some (bif decide (i<6)&&zas (atS q 0)then .again ((((16*n+hexN (atS q 0):Nat):Int),((i+1:Nat):Int)),sr s (q.drop 1))else .out ((n:Int),sr s q))):
  zeB step ((0,0),sr s l)=some (.out (((hexes 6 0 l).1:Int),sr s (hexes 6 0 l).2)):=by
 refine ZM (fun z=> ∃(n i:Nat) (q:Str),z=(((n:Int),(i:Int)),sr s q)∧q<:+s∧i≤6∧n<16 ^ i∧hexes (6 - i) n q=hexes 6 0 l) (fun z=>6 - z.1.2.toNat) _ ?_ ⟨0,0,l,rfl,hl,by omega,by decide,rfl⟩
 rintro _ ⟨n,i,q,rfl,hq,hi,hn,he⟩
 have hn':n<16777216:=Nat.lt_of_lt_of_le hn (Nat.pow_le_pow_right (by omega) hi:16 ^ i≤16 ^ 6)
 rw[h n i q hq hn' hi]
 rcases Nat.lt_or_ge i 6 with hlt|hge
 ·rw[decide_eq_true hlt,Bool.true_and]
  cases hx:zas (atS q 0)with
  |true=>
   cases q with
   |nil=>exact absurd hx (by decide)
   |cons c r=>
    have hd:=zlL hx
    refine .inl ⟨_,rfl,⟨16*n+hexN (atS (c::r) 0),i+1,r,rfl,zW hq,by omega,?_,?_⟩,by simp only[Int.toNat_natCast];omega⟩
    ·rw[Nat.pow_succ];omega
    ·rw[←he,show 6 - i=(6 - (i+1))+1 by omega]
     rw[hexes.eq_def ((6 - (i+1))+1) n (c::r)]
     simp only
     rw[if_pos (show zas c=true from hx)]
     rfl
  |false=>
   refine .inr (.inl ⟨_,rfl,?_⟩)
   rw[←he,zs3 _ _ _ hx]
 ·rw[decide_eq_false (by omega),Bool.false_and]
  refine .inr (.inl ⟨_,rfl,?_⟩)
  rw[←he,show 6 - i=0 by omega]
  rfl
theorem zkt: ∀(k n:Nat) (l:Str),(hexes k n l).1<16 ^ k*(n+1)
 |0,n,l=>by unfold hexes;omega
 |k+1,n,[]=>by
  have:0<16 ^ (k+1):=Nat.pow_pos (by omega)
  unfold hexes
  exact Nat.lt_of_lt_of_le (Nat.lt_succ_self n) (Nat.le_mul_of_pos_left _ this)
 |k+1,n,c::r=>by
  unfold hexes
  cases hx:zas c with
  |true=>
   rw[if_pos rfl]
   have h1:=zkt k (16*n+hexN c) r
   have:=zlL hx
   refine Nat.lt_of_lt_of_le h1 ?_
   rw[Nat.pow_succ,Nat.mul_assoc]
   exact Nat.mul_le_mul_left _ (by omega)
  |false=>
   rw[if_neg (by decide)]
   have:0<16 ^ (k+1):=Nat.pow_pos (by omega)
   exact Nat.lt_of_lt_of_le (Nat.lt_succ_self n) (Nat.le_mul_of_pos_left _ this)
theorem zlB{s l acc:Str}{c:UInt8}(hs:s.length≤big)(hr:c::l<:+s)(ha:acc.length≤1000000000):
  zP (sr s (c::l),acc)=some (sr s (zu l).2,acc++(zu l).1):=by
 have hl:=zW hr
 unfold zP
 simp only[zgH hs hr,ze,zbC hs hl,Option.bind_some,zmD]
 cases l with
 |nil=>
  rw[show([]:Str).isEmpty=true from rfl,cond_true,zsf ha]
  rfl
 |cons d r=>
  rw[show(d::r).isEmpty=false from rfl,cond_false,zzR]
  simp only[Option.bind_some,zgh]
  cases hx:zas (atS (d::r) 0)with
  |false=>
   rw[Bool.not_false,cond_true,zhw,zhL]
   simp only[Option.bind_some,zgH hs hl]
   rw[zD (zen (by omega))]
   have:zu (d::r)=([d],r):=by show(if zas d then _ else _)=_;rw[if_neg (by rw[show zas d=false from hx];decide)]
   rw[this]
  |true=>
   rw[Bool.not_true,cond_false]
   have he:zu (d::r)=(ziJ (hexes 6 0 (d::r)).1,unsp (hexes 6 0 (d::r)).2):=by show(if zas d then _ else _)=_;rw[if_pos (show zas d=true from hx)]
   rw[he]
   rw[qB (zt5 (l:=d::r) hl (fun n i q hq hn hi=> ?_))]
   ·have hq:(hexes 6 0 (d::r)).2<:+s:=(zfE 6 0 _).trans hl
    have hlt:=zkt 6 0 (d::r)
    rw[show 16 ^ 6*(0+1)=16777216 from rfl]at hlt
    simp only[zbC hs hq,Option.bind_some,zm0]
    have hj:(bif spB (atS (hexes 6 0 (d::r)).2 0)then some (LX.out (((hexes 6 0 (d::r)).1:Int),(⟨s,w64 ((beh s (hexes 6 0 (d::r)).2:Int)+1)⟩:za),acc))else some (LX.out (((hexes 6 0 (d::r)).1:Int),sr s (hexes 6 0 (d::r)).2,acc)):Option (LX (Int×za×List UInt8) (za×List UInt8)))
      =some (LX.out (((hexes 6 0 (d::r)).1:Int),sr s (unsp (hexes 6 0 (d::r)).2),acc)):=by
     cases hh:(hexes 6 0 (d::r)).2 with
     |nil=>rfl
     |cons e t=>
      rw[hh]at hq
      rw[show atS (e::t) 0=e from rfl,zgH hs hq]
      show _=some (LX.out (_,sr s (if spB e then t else e::t),acc))
      cases spB e<;>rfl
    rw[hj,zh]
    simp only
    by_cases h0:(hexes 6 0 (d::r)).1=0
    ·rw[h0,show((((0:Nat):Int))==0)=true from rfl,cond_true,zh]
     simp only[zga (show 65533<2147483648 by omega),show w32 (65533:Int)=65533 from zga (n:=65533) (by omega),zsf ha,Option.bind_some]
     rfl
    ·rw[show(((hexes 6 0 (d::r)).1:Int)==0)=false by rw[beq_eq_false_iff_ne];omega,cond_false,zh]
     simp only[zCA h0 hlt ha,Option.bind_some]
   ·simp only[zbC hs hq,Option.bind_some,zzR,zgh]
    have hb6:decide ((i:Int)<6)=decide (i<6):=by rw[decide_eq_decide];omega
    rw[hb6]
    cases decide (i<6)with
    |false=>rfl
    |true=>
     rw[cond_true,Bool.true_and]
     cases hx2:zas (atS q 0)with
     |false=>rfl
     |true=>
      cases q with
      |nil=>exact absurd hx2 (by decide)
      |cons e t=>
       have hI:hexI (atS (e::t) 0)=(hexN (atS (e::t) 0):Int):=by unfold hexI;rw[if_pos hx2]
       rw[hI,zAx hn (zlL hx2),zgH hs hq,Zg (by omega) (by omega)]
       rfl
end Go.Lv.VT

namespace Go.Lv.VT
set_option maxRecDepth 100000
theorem zAT{s r:Str}{k:Nat}(hs:s.length≤big)(hr:r<:+s)(hk:k≤4):zw ((k:Int),sr s r)=some (escS (r.drop k)&&decide (k<r.length)):=by
 unfold zw
 simp only[ze,zto hs hr (show k≤8 by omega),Option.bind_some,zCm]
 rw[show w64 ((k:Int)+1)=((k+1:Nat):Int) by rw[Zg (by omega) (by omega)];omega,zto hs hr (by omega)]
 unfold escS
 rw[zaX,zaX,Nat.add_zero]
 cases h:(atS r k==92)with
 |false=>simp only[zo,cond_false,Option.bind_some,Bool.false_and]
 |true=>
  have hlt:k<r.length:=zuU (by rw[beq_iff_eq.1 h];decide)
  rw[decide_eq_true hlt]
  simp only[zo,cond_true,Option.bind_some,Bool.true_and,Bool.and_true]
  unfold bne
  rw[zBp]
theorem zAS{l:Str}(h:escS l=true):0<l.length:=by
 unfold escS at h
 rw[Bool.and_eq_true]at h
 exact zuU (by rw[beq_iff_eq.1 h.1];decide)
theorem zkp{s r:Str}{k:Nat}(hs:s.length≤big)(hr:r<:+s)(hk:k≤4):zw ((k:Int),sr s r)=some (escS (r.drop k)):=by
 rw[zAT hs hr hk]
 cases h:escS (r.drop k)with
 |false=>rfl
 |true=>
  have:=zAS h
  rw[List.length_drop]at this
  rw[decide_eq_true (by omega)];rfl
theorem zo9{s r:Str}(hs:s.length≤big)(hr:r<:+s):zw (0,sr s r)=some (escS r):=zkp (k:=0) hs hr (by omega)
theorem zBh{s r:Str}{k:Nat}(hs:s.length≤big)(hr:r<:+s)(hk:k≤2):zI ((k:Int),sr s r)=some (nmS (r.drop k)):=by
 unfold zI
 have hk1:w64 ((k:Int)+1)=((k+1:Nat):Int):=by rw[Zg (by omega) (by omega)];omega
 simp only[hk1,ze,zto hs hr (show k≤8 by omega),zto hs hr (show k+1≤8 by omega),Option.bind_some,zBC,zkp hs hr (show k≤4 by omega),zkp hs hr (show k+1≤4 by omega)]
 unfold nmS
 rw[zaX,zaX,List.drop_drop]
 unfold bne
 rw[zxM,Nat.add_zero]
 cases atS r k==45 with
 |true=>
  simp only[Bool.not_true,cond_false,if_true]
  cases fstB (atS r (k+1))with
  |true=>rfl
  |false=>
   simp only[Bool.not_false,zo,cond_true,cond_false,Option.bind_some,zxM]
   cases atS r (k+1)==45<;>cases escS (r.drop (k+1))<;>rfl
 |false=>
  simp only[Bool.not_false,cond_true]
  cases fstB (atS r k)<;>cases escS (r.drop k)<;>rfl
theorem zz4(n:Nat):(ziJ n).length≤4:=by
 unfold ziJ zrz
 repeat' split
 all_goals simp
theorem zaK(l:Str):(zu l).1.length≤4:=by
 cases l with
 |nil=>show zrz.length≤4;decide
 |cons c r=>
  show(if zas c then(ziJ (hexes 6 0 (c::r)).1,unsp (hexes 6 0 (c::r)).2)else([c],r)).1.length≤4
  split
  ·exact zz4 _
  ·show 1≤4;omega
theorem zbX(c:UInt8)(r:Str):zH (c::r)=if letB c then((c::(zH r).1),(zH r).2)
  else if escS (c::r)then((zu r).1++(zH (zu r).2).1,(zH (zu r).2).2)
  else([],c::r):=by rw[zH]
theorem zeE:zH []=([],[]):=by rw[zH]
theorem zCn(l:Str):(pk l 0 != -1)= !l.isEmpty:=by unfold bne;rw[zmD]
theorem zz6{s r:Str}(hs:s.length≤big)(hr:r<:+s):zO (sr s r)=some ((zH r).1,sr s (zH r).2):=by
 have hb:big=4194304:=rfl
 unfold zO
 refine zl2 (r:=((zH r).1,sr s (zH r).2)) ?_
 refine ZM (fun z=> ∃(q acc:Str),z=(sr s q,acc)∧q<:+s∧acc.length+4*q.length≤4*s.length∧acc++(zH q).1=(zH r).1∧(zH q).2=(zH r).2) (fun z=>s.length - z.1.at_.toNat) _ ?_ ⟨r,[],rfl,hr,by have:=hr.length_le;rw[List.length_nil];omega,rfl,rfl⟩
 rintro _ ⟨q,acc,rfl,hq,hl,he1,he2⟩
 simp only[ze,zbC hs hq,Option.bind_some,zuE]
 cases q with
 |nil=>
  refine .inr (.inr ⟨_,rfl,?_⟩)
  rw[zeE]at he1 he2
  rw[←he1,←he2,List.append_nil]
 |cons c t=>
  have hlen:=hq.length_le
  rw[List.length_cons]at hlen hl
  rw[show atS (c::t) 0=c from rfl]
  rw[zbX]at he1 he2
  cases hlet:letB c with
  |true=>
   rw[hlet,if_pos rfl]at he1 he2
   refine .inl ⟨(sr s t,acc++[c]),?_,⟨t,acc++[c],rfl,zW hq,by rw[List.length_append,List.length_singleton];omega,by rw[←he1,List.append_assoc];rfl,he2⟩,?_⟩
   ·rw[cond_true,zhw,zhL]
    simp only[Option.bind_some]
    rw[zD (zen (by omega)),zgH hs hq]
   ·show s.length - beh s t<s.length - beh s (c::t)
    unfold beh;rw[List.length_cons];omega
  |false=>
   rw[hlet,if_neg (by decide)]at he1 he2
   rw[cond_false,zCn,show(c::t).isEmpty=false from rfl,zo9 hs hq]
   cases hesc:escS (c::t)with
   |true=>
    rw[hesc,if_pos rfl]at he1 he2
    have h4:=zaK t
    have h5:=zJ t
    refine .inl ⟨(sr s (zu t).2,acc++(zu t).1),?_,⟨_,_,rfl,(Zc t).trans (zW hq),by rw[List.length_append];omega,by rw[←he1,List.append_assoc],he2⟩,?_⟩
    ·simp only[Bool.not_false,zo,cond_true,Option.bind_some,zlB hs hq (show acc.length≤1000000000 by omega)]
    ·show s.length - beh s (zu t).2<s.length - beh s (c::t)
     unfold beh;rw[List.length_cons];omega
   |false=>
    rw[hesc,if_neg (by decide)]at he1 he2
    refine .inr (.inr ⟨_,rfl,?_⟩)
    rw[←he1,←he2,List.append_nil]
theorem zbw(l:Str):(zH l).2<:+l:=by
 match l with
 |[]=>rw[zeE];exact List.suffix_refl _
 |c::r=>
  rw[zbX]
  split
  ·exact(zbw r).trans (List.suffix_cons c r)
  ·split
   ·have:=zJ r
    exact(zbw (zu r).2).trans ((Zc r).trans (List.suffix_cons c r))
   ·exact List.suffix_refl _
termination_by l.length
decreasing_by
 all_goals first|(have:=zJ r;simp only[List.length_cons];omega)|(simp only[List.length_cons];omega)
end Go.Lv.VT
