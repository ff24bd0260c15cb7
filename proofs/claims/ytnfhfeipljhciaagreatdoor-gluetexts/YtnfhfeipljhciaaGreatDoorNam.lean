/- Tokens that can be written: the program's check. -/
import Derived.Test.YtnfhfeipljhciaaGreatDoorLaw
set_option linter.unusedSimpArgs false
set_option linter.unusedVariables false
namespace Go.Lv.VT
theorem zA9(g d:Bool)(b c:UInt8):(bif g then namN (bif g then b else c).toNat else d)=bif g then namN b.toNat else d:=by cases g<;>rfl
theorem zoW{x:zb}(h1:x.text.length≤big)(h2:x.unit.length≤big):zeC x=some (zbc x):=by
 unfold zeC
 rw[zw (zfb.2 (by unfold big at h1 h2;omega))]
 simp only[ze,zcH,Option.bind_some]
 have hn:decide (Lib.indexByte (x.text++x.unit) (0:Int).toNat.toUInt8<0)=(Zh x.text&&Zh x.unit):=by
  rw[zzR,zzF,zpu,Bool.not_not]
 simp only[hn,zeE,zaA,QT,Option.bind_some,ge_iff_le,bne]
 have hb:=zxP x.text
 unfold zbc rngS
 by_cases k9:x.kind=9
 ·simp only[k9,Int.reduceBEq,cond_true,cond_false,zg,Bool.or_false,Bool.false_or]
  cases ht:x.text with
  |nil=>
   have:Zh ([]:Str)=true:=rfl
   simp only[this,Bool.true_and]
   cases Zh x.unit<;>rfl
  |cons b r=>
   cases r with
   |nil=>
    have hd:=zxa b
    have e1:((([b]:Str).length:Int)==1)=true:=rfl
    have e2:geti [b] 0=some b:=rfl
    have e3:(([b]:Str)==[45])=(b==45):=by
     show((b==45)&&true)=_
     rw[Bool.and_true]
    have e4:Zh [b]= !(b==0):=by show((!(b==0))&&true)=_;rw[Bool.and_true]
    have e5:delS [b]=zcj b.toNat:=rfl
    simp only[e1,e2,e3,e4,e5,zlj,zg4,QT,Option.bind_some,zA9,←hd]
    cases hu:x.unit with
    |nil=>
     have:Zh ([]:Str)=true:=rfl
     simp only[this,Bool.and_true]
     generalize (zmi.any fun c=>c==b)=a1
     cases namN b.toNat<;>cases (b==0)<;>cases (b==45)<;>cases a1<;>cases (x.num==0)<;>cases x.flag<;>rfl
    |cons c s=>
     have:((c::s:Str)==[])=false:=rfl
     simp only[this]
     generalize Zh (c::s)=a2
     generalize (zmi.any fun c=>c==b)=a1
     cases a2<;>cases namN b.toNat<;>cases (b==0)<;>cases (b==45)<;>cases a1<;>cases (x.num==0)<;>cases x.flag<;>rfl
   |cons c r=>
    have e1:(((b::c::r:Str).length:Int)==1)=false:=beq_eq_false_iff_ne.2 (by simp only[List.length_cons];omega)
    have e3:((b::c::r:Str)==[45])=false:=by
     show((b==45)&&false)=_
     rw[Bool.and_false]
    have e5:delS (b::c::r)=false:=rfl
    simp only[e1,e3,e5]
    cases (Zh (b::c::r)&&Zh x.unit)<;>rfl
 have b9:=beq_eq_false_iff_ne.2 k9
 have hu:(x.unit==[])=true→Zh x.unit=true:=fun h=>by rw[beq_iff_eq]at h;rw[h];rfl
 have htx:(x.text==[])=true→Zh x.text=true:=fun h=>by rw[beq_iff_eq]at h;rw[h];rfl
 rw[←hb]
 generalize hl45:(x.text==[45])=a11 at*
 generalize (List.isPrefixOf [45,45] x.text)=a12 at*
 generalize numS x.text=a3 at*
 generalize Zh x.text=a1 at*
 generalize Zh x.unit=a2 at*
 generalize (x.text==[])=a4 at*
 generalize (x.unit==[])=a5 at*
 generalize (x.num==0)=a6 at*
 generalize x.flag=a7 at*
 generalize decide (-1000000000000≤x.num)=a8 at*
 generalize decide (x.num≤1000000000000)=a9 at*
 generalize (Int.tmod x.num 1000==0)=a10 at*
 clear hb hn hl45
 have K: ∀k:Int,k∈[1,2,3,4,5,7,10,11,12]→x.kind=k→True:=fun _ _ _=>trivial
 clear K
 by_cases k1:x.kind=1
 ·simp only[k1,zg,cond_true,cond_false,Int.reduceBEq]
  cases a1<;>cases a2<;>cases a4<;>cases a5<;>cases a6<;>cases a7<;>first|rfl|(simp at hu htx;done)|simp_all
 by_cases k2:x.kind=2
 ·simp only[k2,zg,cond_true,cond_false,Int.reduceBEq]
  cases a1<;>cases a2<;>cases a4<;>cases a5<;>cases a6<;>cases a7<;>first|rfl|(simp at hu htx;done)|simp_all
 by_cases k3:x.kind=3
 ·simp only[k3,zg,cond_true,cond_false,Int.reduceBEq]
  cases a1<;>cases a2<;>cases a4<;>cases a5<;>cases a6<;>cases a7<;>first|rfl|(simp at hu htx;done)|simp_all
 by_cases k4:x.kind=4
 ·simp only[k4,zg,cond_true,cond_false,Int.reduceBEq]
  cases a1<;>cases a2<;>cases a3<;>cases a4<;>cases a5<;>cases a6<;>cases a7<;>cases a11<;>cases a12<;>first|rfl|(simp at hu htx;done)|simp_all
 by_cases k5:x.kind=5
 ·simp only[k5,zg,cond_true,cond_false,Int.reduceBEq]
  cases a1<;>cases a2<;>cases a5<;>cases a6<;>cases a7<;>first|rfl|(simp at hu htx;done)|simp_all
 by_cases k7:x.kind=7
 ·simp only[k7,zg,cond_true,cond_false,Int.reduceBEq]
  cases a1<;>cases a2<;>cases a5<;>cases a6<;>cases a7<;>first|rfl|(simp at hu htx;done)|simp_all
 by_cases k10:x.kind=10
 ·simp only[k10,zg,cond_true,cond_false,Int.reduceBEq]
  cases a1<;>cases a2<;>cases a4<;>cases a5<;>cases a7<;>cases a8<;>cases a9<;>cases a10<;>first|rfl|(simp at hu htx;done)|simp_all
 by_cases k11:x.kind=11
 ·simp only[k11,zg,cond_true,cond_false,Int.reduceBEq]
  cases a1<;>cases a2<;>cases a4<;>cases a5<;>cases a7<;>cases a8<;>cases a9<;>cases a10<;>first|rfl|(simp at hu htx;done)|simp_all
 by_cases k12:x.kind=12
 ·simp only[k12,zg,cond_true,cond_false,Int.reduceBEq]
  cases a1<;>cases a2<;>cases a4<;>cases a5<;>cases a7<;>cases a8<;>cases a9<;>cases a10<;>first|rfl|(simp at hu htx;done)|simp_all
 simp only[b9,beq_eq_false_iff_ne.2 k1,beq_eq_false_iff_ne.2 k2,beq_eq_false_iff_ne.2 k3,beq_eq_false_iff_ne.2 k4,beq_eq_false_iff_ne.2 k5,beq_eq_false_iff_ne.2 k7,beq_eq_false_iff_ne.2 k10,beq_eq_false_iff_ne.2 k11,beq_eq_false_iff_ne.2 k12,zg,cond_true,cond_false,Bool.or_self]
 cases decide (13≤x.kind)<;>cases decide (x.kind≤24)<;>cases a4<;>cases a5<;>cases a6<;>cases a7<;>rfl
end Go.Lv.VT

namespace Go.Lv.VT
theorem zks {R:Type} {step:Int→Option (LO Int Unit R)} {k:Unit→Option R} (n:Nat) (p:Nat→Bool) (r:R)
  (hg: ∀(i:Nat),i<n→step (i:Int)=some (bif p i then .again ((i+1:Nat):Int)else .ret r)) (hf:step (n:Int)=some (.out ())):
  ZC step 0 k=bif (List.range n).all p then k ()else some r:=by
 have e:=zmg (k:=k) (List.range n) (fun i=>bif p i then none else some r) () (fun i hi=> ?_) (by simpa using hf)
 ·rw[e,zm4]
  cases (List.range n).all p<;>rfl
 ·have hi':i<n:=by simpa using hi
  rw[hg i hi']
  simp only[List.getElem_range]
  cases p i<;>rfl
def zoa:List zb→Bool
 |[]=>false
 |s::r=>bif s.kind==13 then(match r with|u::_=>u.kind==5|[]=>false)else s.kind==5
def zcI:List zb→Bool
 |[]=>false
 |s::_=>s.kind==13
def zdh(t:zb):Bool:=t.kind==2&&lowS t.text==[117,114,108]
def okAt:List zb→Bool
 |[]=>true
 |t::r=>(!(t.kind==9&&t.text==[92])||zcI r)&&(!(zdh t)||zoa r)
def zkF(l:List zb)(i:Nat):Bool:=zbc (l.getD i default)&&okAt (l.drop i)
def gluS(l:List zb):Int:=bif decide (l.length≤1500)then(bif (List.range l.length).all (zkF l)then 0 else 8)else 4
theorem zie(l:List zb)(i:Nat)(k:Int):ZB (((i:Int),k),l)=some (match l[i]? with|some t=>t.kind==k|none=>false):=by
 unfold ZB
 by_cases h:i<l.length
 ·simp only[zgn h,zR,zbe h,ze,Option.bind_some,cond_true,List.getElem?_eq_getElem h]
 ·have e:decide ((i:Int)<(l.length:Int))=false:=decide_eq_false (by omega)
  simp only[e,Zq,ze,Option.bind_some,cond_false,List.getElem?_eq_none (Nat.le_of_not_lt h)]
theorem zkt:lowS [117,114,108]=[117,114,108]:=by decide
theorem zna{t:zb}{r:List zb}(h:t.text.length≤big): ∃n:Int,Qv (t::r)=some n∧(n==0)= !okAt (t::r):=by
 have e0:geti (t::r) 0=some t:=rfl
 have p1:=zie (t::r) 1 13
 have p15:=zie (t::r) 1 5
 have p25:=zie (t::r) 2 5
 unfold Qv
 simp only[e0,ze,Option.bind_some,zih h (show([117,114,108]:Str).length≤big by decide),zkt,QT]
 simp only[Int.natCast_one]at p1 p15
 replace p25:ZB ((2,5),t::r)=_:=p25
 rw[p1]
 unfold okAt zdh
 cases hd:(t.kind==9&&t.text==[92])with
 |true=>
  have hk:t.kind=9:=by rw[Bool.and_eq_true,beq_iff_eq]at hd;exact hd.1
  have ht:(t.text==[92])=true:=by rw[Bool.and_eq_true]at hd;exact hd.2
  simp only[hk,ht,Int.reduceBEq,cond_true,cond_false,Option.bind_some]
  cases r with
  |nil=>exact⟨_,rfl,rfl⟩
  |cons s r=>
   show∃n:Int,(bif !(s.kind==13)then some 0 else some 2)=some n∧(n==0)= !((!true||s.kind==13)&&_)
   cases s.kind==13
   ·exact⟨0,rfl,rfl⟩
   ·exact⟨2,rfl,rfl⟩
 |false=>
  have hc:(bif t.kind==9 then t.text==[92]else false)=false:=by
   cases h9:t.kind==9
   ·rfl
   ·rw[h9]at hd;exact hd
  simp only[hc,hd,cond_false,Bool.not_false,Bool.true_or,Bool.true_and]
  cases hu:(t.kind==2&&lowS t.text==[117,114,108])with
  |false=>
   have:(bif t.kind==2 then bif t.kind==2 then lowS t.text==[117,114,108]else default else false)=false:=by
    cases h2:t.kind==2
    ·rfl
    ·rw[h2]at hu;exact hu
   rw[this]
   exact⟨1,rfl,rfl⟩
  |true=>
   rw[Bool.and_eq_true]at hu
   rw[hu.1,hu.2]
   simp only[cond_true,Option.bind_some]
   cases r with
   |nil=>exact⟨0,by simp[p15],rfl⟩
   |cons s r=>
    cases hs:s.kind==13 with
    |false=>
     have e1:(match(t::s::r)[1]? with|some t=>t.kind==13|none=>false)=false:=hs
     have e5:ZB ((1,5),t::s::r)=some (s.kind==5):=p15
     simp only[e1,cond_false,zg,e5,Option.bind_some,zoa,hs]
     cases s.kind==5
     ·exact⟨0,rfl,rfl⟩
     ·exact⟨2,by rfl,rfl⟩
    |true=>
     have e1:(match(t::s::r)[1]? with|some t=>t.kind==13|none=>false)=true:=hs
     simp only[e1,cond_true,zg,p25,Option.bind_some,zoa,hs]
     cases r with
     |nil=>exact⟨0,rfl,rfl⟩
     |cons u r=>
      show∃n:Int,(bif !(u.kind==5)then some 0 else some (w64 (2+1)))=some n∧(n==0)= !(!true||u.kind==5)
      cases u.kind==5
      ·exact⟨0,rfl,rfl⟩
      ·exact⟨3,rfl,rfl⟩
theorem zma(l:List zb):decide ((l.length:Int)>1500)= !decide (l.length≤1500):=zA3 _ 1500
theorem zg2{l:List zb}(h: ∀t∈l,t.text.length≤big∧t.unit.length≤big):QU l=some (gluS l):=by
 unfold QU gluS
 rw[zma]
 cases hl:decide (l.length≤1500)with
 |false=>rfl
 |true=>
  have hl:=of_decide_eq_true hl
  simp only[Bool.not_true,cond_false,cond_true]
  refine(zks l.length (zkF l) 8 (fun i hi=> ?_) ?_).trans ?_
  ·obtain⟨g1,g2⟩:=h _ (List.getElem_mem hi)
   have hgd:l.getD i default=l[i]:=by simp[hi]
   have hdr:=List.drop_eq_getElem_cons hi
   obtain⟨n,e1,e2⟩:=zna (t:=l[i]) (r:=l.drop (i+1)) g1
   rw[←hdr]at e1 e2
   have e3:decide ((i:Int)≤(l.length:Int))=true:=decide_eq_true (by omega)
   unfold zkF
   simp only[zgn hi,cond_true,zbe hi,ze,Option.bind_some,zoW g1 g2,zpt,e3,Bool.true_and,Bool.true_or,ZR,Int.toNat_natCast,e1,QT,zcP hi (show l.length≤big by unfold big;omega),hgd]
   cases zbc l[i]with
   |false=>rfl
   |true=>
    simp only[Bool.not_true,Bool.not_false,cond_true,cond_false,e2,Bool.true_and]
    cases okAt (l.drop i)<;>rfl
  ·simp only[zku,cond_false]
  ·cases (List.range l.length).all (zkF l)<;>rfl
end Go.Lv.VT

namespace Go.Lv.VT
theorem zj2{α:Type}{l:List α}{i:Nat}{s:α}{r:List α}(h:l.drop i=s::r):i<l.length∧geti l (i:Int)=some s∧l.drop (i+1)=r:=by
 have hi:i<l.length:=by
  rcases Nat.lt_or_ge i l.length with h'|h'
  ·exact h'
  ·rw[List.drop_eq_nil_of_le h']at h;cases h
 rw[List.drop_eq_getElem_cons hi]at h
 injection h with h1 h2
 exact⟨hi,by rw[zbe hi,h1],h2⟩
theorem zj3{α:Type}{l:List α}{i:Nat}(h:l.drop i=[])(hi:i≤l.length):i=l.length:=by
 have:=List.drop_eq_nil_iff.1 h;omega
theorem zyp{l:List zb}{i:Nat}(hi:i<l.length)(hl:l.length≤1500):
  zW (X:=Int) (R:=LX Unit (LO Int Unit Int)) (ze (zn (decide (((i+1:Nat):Int)<(l.length:Int))) (geti l ((i+1:Nat):Int)) (default:zb)) fun y7=>bif bif decide (((i+1:Nat):Int)<(l.length:Int))then y7.kind==13 else false then some (LX.out (w64 (((i+1:Nat):Int)+1)))else some (LX.out ((i+1:Nat):Int)))
   (fun j8=>ze (zn (!(decide (j8≥(l.length:Int)))) (geti l j8) (default:zb)) fun y9=>bif bif decide (j8≥(l.length:Int))then true else y9.kind != 5 then some (LX.ret (LO.ret 8))else some (LX.out ()))=bif zoa (l.drop (i+1))then some (LX.out ())else some (LX.ret (LO.ret 8)):=by
 cases hr:l.drop (i+1)with
 |nil=>
  have he:=zj3 hr (by omega)
  have e1:decide (((i+1:Nat):Int)<(l.length:Int))=false:=decide_eq_false (by omega)
  have e2:decide (((i+1:Nat):Int)≥(l.length:Int))=true:=decide_eq_true (by omega)
  simp only[e1,e2,Zq,ze,Option.bind_some,cond_false,cond_true,zg,Bool.not_true,zoa]
 |cons s r=>
  obtain⟨h1,h2,h3⟩:=zj2 hr
  have e2:decide (((i+1:Nat):Int)≥(l.length:Int))=false:=decide_eq_false (by omega)
  have hw:w64 (((i+1:Nat):Int)+1)=((i+1+1:Nat):Int):=zcP h1 (by unfold big;omega)
  simp only[zgn h1,zR,h2,ze,Option.bind_some,cond_true,hw,zoa]
  cases hs:s.kind==13 with
  |false=>
   simp only[cond_false,zg,e2,Bool.not_false,zR,h2,Option.bind_some,bne]
   cases s.kind==5<;>rfl
  |true=>
   simp only[cond_true,zg]
   cases r with
   |nil=>
    have he:=zj3 h3 (by omega)
    have e3:decide (((i+1+1:Nat):Int)≥(l.length:Int))=true:=decide_eq_true (by omega)
    simp only[e3,Bool.not_true,Zq,Option.bind_some,cond_true,cond_false]
   |cons u r=>
    obtain⟨g1,g2,g3⟩:=zj2 h3
    have e3:decide (((i+1+1:Nat):Int)≥(l.length:Int))=false:=decide_eq_false (by omega)
    simp only[e3,Bool.not_false,zR,g2,Option.bind_some,cond_false,bne]
    cases u.kind==5<;>rfl
theorem zxb{l:List zb}{i:Nat}(hi:i<l.length)(d:Bool)(A B:Option (LO Int Unit Int)):
  (ze (zn (!(((i+1:Nat):Int)==(l.length:Int))&&d) (geti l ((i+1:Nat):Int)) (default:zb)) fun y13=>bif bif d then bif ((i+1:Nat):Int)==(l.length:Int)then true else y13.kind != 13 else false then A else B)=bif !d||zcI (l.drop (i+1))then B else A:=by
 cases d with
 |false=>simp only[Bool.and_false,Zq,ze,Option.bind_some,cond_false,Bool.not_false,Bool.true_or,cond_true]
 |true=>
  cases hr:l.drop (i+1)with
  |nil=>
   have he:=zj3 hr (by omega)
   have e1:(((i+1:Nat):Int)==(l.length:Int))=true:=beq_iff_eq.2 (by omega)
   simp only[e1,Bool.not_true,Bool.false_and,Zq,ze,Option.bind_some,cond_true,zcI,Bool.or_self,cond_false]
  |cons s r=>
   obtain⟨h1,h2,h3⟩:=zj2 hr
   have e1:(((i+1:Nat):Int)==(l.length:Int))=false:=beq_eq_false_iff_ne.2 (by omega)
   simp only[e1,Bool.not_false,Bool.true_and,zR,h2,ze,Option.bind_some,cond_true,zcI,cond_false,Bool.not_true,Bool.false_or,bne]
   cases s.kind==13<;>rfl
theorem zy9(b:Bool)(t u:zb)(p:zb→Bool):(bif b then p (bif b then t else u)else false)=(b&&p t):=by cases b<;>rfl
theorem zlG{l:List zb}(h: ∀t∈l,t.text.length≤big∧t.unit.length≤big):zcu l=some (gluS l):=by
 unfold zcu gluS
 rw[zma]
 cases hl:decide (l.length≤1500)with
 |false=>rfl
 |true=>
  have hl:=of_decide_eq_true hl
  simp only[Bool.not_true,cond_false,cond_true]
  refine(zks l.length (zkF l) 8 (fun i hi=> ?_) ?_).trans ?_
  ·obtain⟨g1,g2⟩:=h _ (List.getElem_mem hi)
   have hgd:l.getD i default=l[i]:=by simp[hi]
   have hdr:=List.drop_eq_getElem_cons hi
   have hw:w64 ((i:Int)+1)=((i+1:Nat):Int):=zcP hi (by unfold big;omega)
   have hw2:w64 (((i+1:Nat):Int)+1)=((i+2:Nat):Int):=zcP (n:=i+2) (by omega) (by unfold big;omega)
   unfold zkF
   rw[hdr,hgd]
   simp only[zgn hi,cond_true,zbe hi,ze,Option.bind_some,znN g1 g2,hw]
   cases hf:zbc l[i]with
   |false=>rfl
   |true=>
    simp only[Bool.not_true,cond_false,QT,Option.bind_some,Bool.true_and]
    have hu:=zyp hi hl
    have hd:=zxb hi (l[i].kind==9&&l[i].text==[92]) (some (LO.ret 8)) (some (LO.again ((i+1:Nat):Int)))
    simp only[ze]at hu hd
    have hlow:(bif l[i].kind==2 then bif l[i].kind==2 then lowS (bif l[i].kind==2 then l[i]else default).text==[117,114,108]else default else false)=zdh l[i]:=by
     unfold zdh
     cases l[i].kind==2<;>rfl
    have ha:(zn (l[i].kind==2) (qm ((bif l[i].kind==2 then l[i]else default).text,[117,114,108])) (default:Bool))=some (bif l[i].kind==2 then lowS (bif l[i].kind==2 then l[i]else default).text==[117,114,108]else default):=by
     cases h2:l[i].kind==2 with
     |false=>rfl
     |true=>
      show qm (l[i].text,[117,114,108])=some (lowS l[i].text==[117,114,108])
      rw[zv5 g1 (by decide),zkt]
    have hdl:(bif l[i].kind==9 then(bif l[i].kind==9 then l[i]else default).text==[92]else false)=(l[i].kind==9&&l[i].text==[92]):=zy9 (l[i].kind==9) l[i] default fun t=>t.text==[92]
    simp only[ha,Option.bind_some,hlow,hdl,hu,okAt]
    cases zdh l[i]with
    |false=>
     simp only[cond_false,zg,Bool.not_false,Bool.true_or,Bool.and_true]
     refine hd.trans ?_
     cases (!(l[i].kind==9&&l[i].text==[92])||zcI (l.drop (i+1)))<;>rfl
    |true=>
     simp only[cond_true,Bool.not_true,Bool.false_or]
     cases zoa (l.drop (i+1))with
     |false=>simp only[cond_false,zo7,Bool.and_false]
     |true=>
      simp only[cond_true,zg,Bool.and_true]
      refine hd.trans ?_
      cases (!(l[i].kind==9&&l[i].text==[92])||zcI (l.drop (i+1)))<;>rfl
  ·simp only[zku,cond_false]
  ·cases (List.range l.length).all (zkF l)<;>rfl
end Go.Lv.VT

namespace Go.Lv.VT
set_option maxRecDepth 100000
def partT(r:Nat)(p:Bool):Str:=bif (zg0 r).isEmpty then(bif p then [48]else [])else zg0 r
theorem zgq{r:Nat}(h:r<1000)(p:Bool):(partT r p).all digB=true∧(partT r p).length≤3∧valG 0 (partT r p)*10 ^ (3 - (partT r p).length)=r∧zqa r p=(bif (partT r p).isEmpty then []else 46::partT r p)∧((partT r p).isEmpty=((r==0)&& !p)):=by
 have hf:=zm5 r h
 simp only[zrY,Bool.and_eq_true,decide_eq_true_eq,beq_iff_eq]at hf
 obtain⟨⟨⟨⟨a,b⟩,c⟩,d⟩,e⟩:=hf
 unfold partT zqa
 cases hE:(zg0 r).isEmpty with
 |true=>
  have hr:r=0:=by rw[hE]at d;exact beq_iff_eq.1 d.symm
  subst hr
  cases p<;>refine⟨by decide,by decide,by decide,rfl,rfl⟩
 |false=>
  rw[hE]at d
  simp only[cond_false]
  exact⟨a,b,c,by rw[hE,cond_false],by rw[hE,←d];rfl⟩
theorem zt6{l:Str}(h:(l.all fun b=>digB b||b==46)=true):za7 l=true:=by
 unfold za7
 rw[List.all_eq_true]at h ⊢
 intro b hb
 have:=h b hb
 refine decide_eq_true ?_
 rw[Bool.or_eq_true]at this
 rcases this with h1|h1
 ·have:=zdb h1;omega
 ·rw[beq_iff_eq.1 h1];decide
theorem zue{m:Nat}(p:Bool):((zbM m p).all fun b=>digB b||b==46)=true:=by
 obtain⟨h1,_,_⟩:=zhS (m / 1000)
 obtain⟨h2,_,_,h5,_⟩:=zgq (r:=m%1000) (by omega) p
 have hw: ∀l:Str,l.all digB=true→(l.all fun b=>digB b||b==46)=true:=by
  intro l hl
  rw[List.all_eq_true]at hl ⊢
  intro b hb
  rw[hl b hb];rfl
 unfold zbM
 rw[List.all_append,hw _ h1,h5,Bool.true_and]
 cases (partT (m%1000) p).isEmpty with
 |true=>rfl
 |false=>rw[cond_false,List.all_cons,hw _ h2];rfl
theorem zgR(u:Nat): ∃c r,Lib.decDigits u=c::r∧digB c=true:=by
 obtain⟨h1,_,h3⟩:=zhS u
 cases h:Lib.decDigits u with
 |nil=>exact absurd h h3
 |cons c r=>rw[h,List.all_cons,Bool.and_eq_true]at h1;exact⟨c,r,rfl,h1.1⟩
theorem QE{c:UInt8}(h:digB c=true):c≠45∧c≠43∧c≠46∧c≠0∧List.contains [43,45] c=false:=by
 have: ∀n:Nat,n<256→digB (UInt8.ofNat n)=true→UInt8.ofNat n≠45∧UInt8.ofNat n≠43∧UInt8.ofNat n≠46∧UInt8.ofNat n≠0∧List.contains [43,45] (UInt8.ofNat n)=false:=by decide+kernel
 have:=this c.toNat (UInt8.toNat_lt c)
 rw[UInt8.ofNat_toNat]at this
 exact this h
theorem zw3{m:Nat}(p:Bool): ∃f,Lib.cut (zbM m p) [46]=(Lib.decDigits (m / 1000),partT (m%1000) p,f):=by
 obtain⟨h1,_,_⟩:=zhS (m / 1000)
 obtain⟨_,_,_,h5,_⟩:=zgq (r:=m%1000) (by omega) p
 unfold zbM Lib.cut
 rw[zfq,h5]
 cases hp:(partT (m%1000) p).isEmpty with
 |true=>
  rw[cond_true,List.append_nil,zqV _ h1,if_neg (by decide)]
  exact⟨false,by rw[List.isEmpty_iff.1 hp]⟩
 |false=>
  rw[cond_false,zqU _ _ h1,if_pos (by omega)]
  refine⟨true,?_⟩
  rw[Int.toNat_natCast,List.take_left,List.length_singleton,show(Lib.decDigits (m / 1000)).length+1=(Lib.decDigits (m / 1000)++[46]).length by simp]
  have:Lib.decDigits (m / 1000)++46::partT (m%1000) p=(Lib.decDigits (m / 1000)++[46])++partT (m%1000) p:=by simp
  rw[this,List.drop_left]
theorem zlI{n:Int}(h1: -1000000000000≤n)(h2:n≤1000000000000)(p:Bool):ZH (numT n p)=some n:=by
 obtain⟨m,hm⟩: ∃m:Nat,n.natAbs=m:=⟨_,rfl⟩
 have hmle:m≤1000000000000:=by omega
 obtain⟨c,r,hc,hcd⟩:=zgR (m / 1000)
 obtain⟨nc45,nc43,_,_,ncc⟩:=QE hcd
 have hbody:zbM m p=c::(r++zqa (m%1000) p):=by unfold zbM;rw[hc];rfl
 have hlen:=zi5 hmle p
 obtain⟨f,hcut⟩:=zw3 (m:=m) p
 obtain⟨d1,d2,d3⟩:=zhS (m / 1000)
 obtain⟨p1,p2,p3,p4,p5⟩:=zgq (r:=m%1000) (by omega) p
 have hdl:=zjZ (u:=m / 1000) (by omega)
 have hsh:short (zbM m p)=true:=decide_eq_true (by omega)
 have hdrop:Lib.trimLeftS (zbM m p) [43,45]=zbM m p:=by
  rw[hbody]
  unfold Lib.trimLeftS
  rw[List.dropWhile_cons,ncc]
  rfl
 have hT:Lib.trimLeftS (numT n p) [43,45]=zbM m p:=by
  unfold numT
  rw[hm]
  by_cases hn:n<0
  ·rw[if_pos hn]
   show List.dropWhile _ (45::zbM m p)=_
   rw[List.dropWhile_cons]
   exact hdrop
  ·rw[if_neg hn];exact hdrop
 have h0: ∃b,geti (numT n p) 0=some b∧(((b.toNat:Int)==45)=decide (n<0)):=by
  unfold numT
  rw[hm]
  by_cases hn:n<0
  ·rw[if_pos hn,decide_eq_true hn];exact⟨45,rfl,rfl⟩
  ·rw[if_neg hn,decide_eq_false hn]
   refine⟨c,by rw[hbody];rfl,beq_eq_false_iff_ne.2 (fun e=>nc45 ?_)⟩
   exact UInt8.toNat_inj.1 (by show c.toNat=45;omega)
 obtain⟨b,hb1,hb2⟩:=h0
 unfold ZH
 simp only[ze,hb1,Option.bind_some]
 have t1:zff (numT n p,[43,45])=some (zbM m p):=by
  unfold zff
  rw[zw (show(short ([43,45]:Str)&&za7 [43,45])=true by decide)]
  exact congrArg some hT
 have t2:QI (zbM m p,[101,69])=some (-1):=by
  unfold QI
  rw[zw (by simp only[hsh,zt6 (zue p),Bool.and_true,Bool.true_and];decide)]
  exact congrArg some (zqq _ (zue p))
 have t3:cutF (zbM m p,[46])=some (Lib.decDigits (m / 1000),partT (m%1000) p,f):=by
  unfold cutF
  rw[zw (by exact hsh)]
  exact congrArg some hcut
 simp only[t1,t2,Option.bind_some,show decide ((-1:Int)≥0)=false from rfl,cond_false,zg,t3]
 rw[zw (zfb.2 (by omega))]
 have hw:w64 (3 - ((partT (m%1000) p).length:Int))=((3 - (partT (m%1000) p).length:Nat):Int):=by rw[zT (by omega) (by omega)];omega
 rw[hw,decide_eq_false (by omega),cond_false,zg]
 simp only
 have hml:maxLen=9223372036854775807:=rfl
 rw[zw (decide_eq_true (by rw[List.length_append,hml];omega))]
 have hval:valG 0 (Lib.decDigits (m / 1000)++partT (m%1000) p)*10 ^ (3 - (partT (m%1000) p).length)=m:=by
  rw[zjs,d2,zld,Nat.add_mul,p3,Nat.mul_assoc,←Nat.pow_add,show(partT (m%1000) p).length+(3 - (partT (m%1000) p).length)=3 by omega]
  omega
 have hvle:valG 0 (Lib.decDigits (m / 1000)++partT (m%1000) p)≤1000000000000:=by
  have:=Nat.le_mul_of_pos_right (valG 0 (Lib.decDigits (m / 1000)++partT (m%1000) p)) (Nat.pow_pos (n:=3 - (partT (m%1000) p).length) (show 0<10 by omega))
  omega
 rw[qQ (zyb (l:=Lib.decDigits (m / 1000)++partT (m%1000) p) (by rw[List.all_append,d1,p1];rfl) (by rw[List.length_append];omega) hvle (fun v i hi=> ?_) (fun v=> ?_))]
 ·rw[qQ (ztO (by omega) (by rw[hval];exact hmle) (fun a b=> ?_)),hval]
  ·rw[hb2]
   by_cases hn:n<0
   ·rw[decide_eq_true hn,cond_true,zg,zT (by omega) (by omega)]
    congr 1;omega
   ·rw[decide_eq_false hn,cond_false,zg]
    congr 1;omega
  ·simp only
 ·have e1:decide ((i:Int)<((Lib.decDigits (m / 1000)++partT (m%1000) p).length:Int))=true:=decide_eq_true (by omega)
  have e0:decide ((0:Int)≤(i:Int))=true:=decide_eq_true (by omega)
  simp only[e1,e0,cond_true,Bool.and_true,ZR,Int.toNat_natCast,List.getElem?_eq_getElem hi,Option.bind_some]
 ·simp only
  rw[decide_eq_false (by omega),cond_false]
end Go.Lv.VT

namespace Go.Lv.VT
set_option maxRecDepth 100000
theorem zy4(n:Int)(p:Bool):(n<0∧numT n p=45::zbM n.natAbs p)∨(¬n<0∧numT n p=zbM n.natAbs p):=by
 unfold numT
 by_cases h:n<0
 ·exact .inl ⟨h,by rw[if_pos h];rfl⟩
 ·exact .inr ⟨h,by rw[if_neg h];rfl⟩
theorem zuf(m:Nat)(p:Bool): ∃c r,zbM m p=c::r∧digB c=true:=by
 obtain⟨c,r,h,hd⟩:=zgR (m / 1000)
 exact⟨c,r++zqa (m%1000) p,by unfold zbM;rw[h];rfl,hd⟩
theorem zwN{n:Int}(h1: -1000000000000≤n)(h2:n≤1000000000000)(p:Bool):(numT n p).length≤25∧1≤(numT n p).length:=by
 have:=zi5 (m:=n.natAbs) (by omega) p
 obtain⟨c,r,hb,_⟩:=zuf n.natAbs p
 rcases zy4 n p with⟨_,h⟩|⟨_,h⟩
 ·rw[h,List.length_cons];omega
 ·rw[h];refine⟨by omega,?_⟩;rw[hb,List.length_cons];omega
end Go.Lv.VT

namespace Go.Lv.VT
set_option maxRecDepth 100000
theorem Zn{n:Nat}(h:n<256):Zm ((n:Nat):Int)=some (UInt8.ofNat n):=by
 unfold Zm
 rw[decide_eq_true (by omega:(0:Int)≤(n:Int)),decide_eq_true (by omega:(n:Int)≤255)]
 rfl
theorem zrv(n k:Nat)(hk:k≤32):zeF .i32 (n:Int) (k:Int)=((n / 2 ^ k:Nat):Int):=by
 unfold zeF
 rw[show(min ((k:Int).toNat) IntKind.i32.bits)=k by show min k 32=k;omega]
 rw[Int.fdiv_eq_ediv_of_nonneg _ (Int.le_of_lt (Int.pow_pos (by decide)))]
 rw[Int.natCast_ediv,Int.natCast_pow]
 rfl
theorem shr6(n:Nat):zeF .i32 (n:Int) 6=((n / 64:Nat):Int):=zrv n 6 (by omega)
theorem zBy(n:Nat):zeF .i32 (n:Int) 12=((n / 4096:Nat):Int):=zrv n 12 (by omega)
theorem zBz(n:Nat):zeF .i32 (n:Int) 18=((n / 262144:Nat):Int):=zrv n 18 (by omega)
theorem zBJ(n:Int):IntKind.u8.wrap n=n%256:=by simp[IntKind.wrap,IntKind.bits,IntKind.signed]
theorem zAC(n:Int):IntKind.u32.wrap n=n%4294967296:=by simp[IntKind.wrap,IntKind.bits,IntKind.signed]
theorem zfi{n:Nat}(h:n<2147483648):w32 (n:Int)=(n:Int):=by
 show IntKind.i32.wrap _=_
 simp only[IntKind.wrap,IntKind.bits,IntKind.signed]
 simp
 omega
theorem zsQ{n:Nat}(h:n<2147483648):wu32 (n:Int)=(n:Int):=by
 show IntKind.u32.wrap _=_
 rw[zAC];omega
theorem zlg(n:Nat):wu8 (n:Int)=((n%256:Nat):Int):=by
 show IntKind.u8.wrap (n:Int)=_
 rw[zBJ]
 omega
theorem zsd(n:Nat):ibOr .u8 128 (zg6 .u8 (wu8 (n:Int)) 63)=((128+n%64:Nat):Int):=by
 have: ∀m:Nat,m<256→ibOr .u8 128 (zg6 .u8 ((m:Nat):Int) 63)=((128+m%64:Nat):Int):=by decide+kernel
 rw[zlg,this _ (Nat.mod_lt _ (by omega)),show n%256%64=n%64 by omega]
theorem zBh{n:Nat}(h:n<32):ibOr .u8 192 (wu8 (n:Int))=((192+n:Nat):Int):=by
 have: ∀m:Nat,m<32→ibOr .u8 192 (wu8 ((m:Nat):Int))=((192+m:Nat):Int):=by decide+kernel
 exact this n h
theorem zxV{n:Nat}(h:n<16):ibOr .u8 224 (wu8 (n:Int))=((224+n:Nat):Int):=by
 have: ∀m:Nat,m<16→ibOr .u8 224 (wu8 ((m:Nat):Int))=((224+m:Nat):Int):=by decide+kernel
 exact this n h
theorem zBi{n:Nat}(h:n<8):ibOr .u8 240 (wu8 (n:Int))=((240+n:Nat):Int):=by
 have: ∀m:Nat,m<8→ibOr .u8 240 (wu8 ((m:Nat):Int))=((240+m:Nat):Int):=by decide+kernel
 exact this n h
theorem zaJ{n m:Nat}(h:n+m≤2000000000):Ze n m 1=true:=by unfold Ze;exact decide_eq_true (by omega)
theorem zBw{n:Nat}(h0:n≠0)(h:n<16777216){l:Str}(hl:l.length≤1000000000):ZJ (w32 (n:Int),l)=some (l++zd8 n):=by
 have a1:Ze l.length 1 1=true:=zaJ (by omega)
 have a2:Ze l.length 2 1=true:=zaJ (by omega)
 have a3:Ze l.length 3 1=true:=zaJ (by omega)
 have a4:Ze l.length 4 1=true:=zaJ (by omega)
 have a80:(128+n%64)<256:=by omega
 have m80:(128+n / 64%64)<256:=by omega
 have k80:(128+n / 4096%64)<256:=by omega
 unfold ZJ ZP zd8
 simp only[zfi (show n<2147483648 by omega),zsQ (show n<2147483648 by omega),ze,shr6,zBy,zBz,zsd,Zn a80,Zn m80,Zn k80,Option.bind_some]
 by_cases h1:n<128
 ·rw[decide_eq_true (by omega),cond_true,zlg,Zn (by omega),Option.bind_some,zw a1,if_neg (by omega),if_pos h1,Nat.mod_eq_of_lt (by omega)]
 ·rw[decide_eq_false (by omega),cond_false]
  by_cases h2:n<2048
  ·rw[decide_eq_true (by omega),cond_true,zBh (by omega),Zn (by omega)]
   simp only[Option.bind_some]
   rw[zw a2,if_neg (by omega),if_neg (by omega),if_pos h2]
   rfl
  ·rw[decide_eq_false (by omega),cond_false]
   by_cases h3:n<55296
   ·rw[decide_eq_true (by omega),cond_true,zg]
    simp only[cond_true]
    rw[zxV (by omega),Zn (by omega)]
    simp only[Option.bind_some]
    rw[zw a3,if_neg (by omega),if_neg (by omega),if_neg (by omega),if_pos (by omega)]
    rfl
   ·rw[decide_eq_false (by omega),cond_false,zg]
    simp only[zyy]
    by_cases h4:57343<n∧n<65536
    ·rw[decide_eq_true (by omega),decide_eq_true (by omega),Bool.and_true,cond_true,zxV (by omega),Zn (by omega)]
     simp only[Option.bind_some]
     rw[zw a3,if_neg (by omega),if_neg (by omega),if_neg (by omega),if_pos (by omega)]
     rfl
    ·rw[show(decide ((57343:Int)<(n:Int))&&decide ((n:Int)≤65535))=false by rw[Bool.and_eq_false_iff];simp only[decide_eq_false_iff_not];omega,cond_false]
     by_cases h5:65535<n∧n≤1114111
     ·rw[decide_eq_true (by omega),decide_eq_true (by omega),Bool.and_true,cond_true,zBi (by omega),Zn (by omega)]
      simp only[Option.bind_some]
      rw[zw a4,if_neg (by omega),if_neg (by omega),if_neg (by omega),if_neg (by omega)]
      rfl
     ·rw[show(decide ((n:Int)>65535)&&decide ((n:Int)≤1114111))=false by rw[Bool.and_eq_false_iff];simp only[decide_eq_false_iff_not];omega,cond_false,zw a3,if_pos (by omega)]
      rfl
theorem zp2{l:Str}(hl:l.length≤1000000000):ZJ (65533,l)=some (l++zph):=by
 have h:=zBw (n:=65533) (by omega) (by omega) hl
 rw[zfi (by omega)]at h
 exact h
end Go.Lv.VT

namespace Go.Lv.VT
set_option maxRecDepth 100000
theorem zaq{s:Str}{c:UInt8}{l:Str}(h:c::l<:+s):l<:+s:=(List.suffix_cons c l).trans h
theorem zgy{s:Str}{c:UInt8}{l:Str}(hs:s.length≤big)(h:c::l<:+s):w64 ((beh s (c::l):Int)+1)=(beh s l:Int):=by
 have hb:big=4194304:=rfl
 have h1:=h.length_le
 rw[List.length_cons]at h1
 have e:beh s (c::l)+1=beh s l:=by unfold beh;rw[List.length_cons];omega
 have:=zel s l
 rw[zT (by omega) (by omega)];omega
theorem zgt(c:UInt8)(l:Str):pk (c::l) 0=(c.toNat:Int):=rfl
theorem zgE(c:UInt8):Zm (wu8 ((c.toNat:Nat):Int))=some c:=by
 rw[zlg,Nat.mod_eq_of_lt (UInt8.toNat_lt c),Zn (UInt8.toNat_lt c),UInt8.ofNat_toNat]
theorem znc{b:UInt8}(h:qJ b=true):hexN b<16:=of_decide_eq_true h
theorem zyV{n d:Nat}(hn:n<16777216)(hd:d<16):ibOr .i64 (zu9 .i64 (n:Int) 4) (d:Int)=((16*n+d:Nat):Int):=by
 have h1:zu9 .i64 (n:Int) 4=((16*n:Nat):Int):=by
  unfold zu9
  rw[show(2:Int) ^ (min (4:Int).toNat IntKind.i64.bits)=16 from rfl]
  rw[zhG (by omega) (by omega)];omega
 rw[h1]
 unfold ibOr
 have e:(BitVec.ofInt IntKind.i64.bits ((16*n:Nat):Int) ||| BitVec.ofInt IntKind.i64.bits (d:Int)).toNat=16*n+d:=by
  rw[BitVec.toNat_or,BitVec.toNat_ofInt,BitVec.toNat_ofInt]
  rw[show((((16*n:Nat):Int)%((2 ^ IntKind.i64.bits:Nat):Int)).toNat)=16*n by show(((16*n:Nat):Int)%18446744073709551616).toNat=_;omega,
   show(((d:Int)%((2 ^ IntKind.i64.bits:Nat):Int)).toNat)=d by show((d:Int)%18446744073709551616).toNat=_;omega]
  have:=Nat.two_pow_add_eq_or_of_lt (i:=4) (b:=d) hd n
  rw[show 2 ^ 4*n=16*n from rfl]at this
  exact this.symm
 rw[e,zhG (by omega) (by omega)]
theorem zi9(b:UInt8):decide (hexI b<0)= !qJ b:=by
 unfold hexI
 cases qJ b with
 |true=>simp only[if_true];exact decide_eq_false (by omega)
 |false=>rfl
theorem zqT: ∀(k n:Nat) (l:Str),qJ (atS l 0)=false→hexes k n l=(n,l)
 |0,_,_,_=>rfl
 |_+1,_,[],_=>rfl
 |k+1,n,c::r,h=>by unfold hexes;rw[if_neg (by rw[show qJ c=false from h];decide)]
theorem zrU {R:Type} {step:(Int×Int)×za→Option (LO ((Int×Int)×za) (Int×za) R)} {s l:Str} (hl:l<:+s)
  (h: ∀(n i:Nat) (q:Str),q<:+s→n<16777216→i≤6→step (((n:Int),(i:Int)),sr s q)=some (bif decide (i<6)&&qJ (atS q 0)then .again ((((16*n+hexN (atS q 0):Nat):Int),((i+1:Nat):Int)),sr s (q.drop 1))else .out ((n:Int),sr s q))):
  zdS step ((0,0),sr s l)=some (.out (((hexes 6 0 l).1:Int),sr s (hexes 6 0 l).2)):=by
 refine qP (fun z=> ∃(n i:Nat) (q:Str),z=(((n:Int),(i:Int)),sr s q)∧q<:+s∧i≤6∧n<16 ^ i∧hexes (6 - i) n q=hexes 6 0 l) (fun z=>6 - z.1.2.toNat) _ ?_ ⟨0,0,l,rfl,hl,by omega,by decide,rfl⟩
 rintro _ ⟨n,i,q,rfl,hq,hi,hn,he⟩
 have hn':n<16777216:=Nat.lt_of_lt_of_le hn (Nat.pow_le_pow_right (by omega) hi:16 ^ i≤16 ^ 6)
 rw[h n i q hq hn' hi]
 rcases Nat.lt_or_ge i 6 with hlt|hge
 ·rw[decide_eq_true hlt,Bool.true_and]
  cases hx:qJ (atS q 0)with
  |true=>
   cases q with
   |nil=>exact absurd hx (by decide)
   |cons c r=>
    have hd:=znc hx
    refine .inl ⟨_,rfl,⟨16*n+hexN (atS (c::r) 0),i+1,r,rfl,zaq hq,by omega,?_,?_⟩,by simp only[Int.toNat_natCast];omega⟩
    ·rw[Nat.pow_succ];omega
    ·rw[←he,show 6 - i=(6 - (i+1))+1 by omega]
     rw[hexes.eq_def ((6 - (i+1))+1) n (c::r)]
     simp only
     rw[if_pos (show qJ c=true from hx)]
     rfl
  |false=>
   refine .inr (.inl ⟨_,rfl,?_⟩)
   rw[←he,zqT _ _ _ hx]
 ·rw[decide_eq_false (by omega),Bool.false_and]
  refine .inr (.inl ⟨_,rfl,?_⟩)
  rw[←he,show 6 - i=0 by omega]
  rfl
theorem znd: ∀(k n:Nat) (l:Str),(hexes k n l).1<16 ^ k*(n+1)
 |0,n,l=>by unfold hexes;omega
 |k+1,n,[]=>by
  have:0<16 ^ (k+1):=Nat.pow_pos (by omega)
  unfold hexes
  exact Nat.lt_of_lt_of_le (Nat.lt_succ_self n) (Nat.le_mul_of_pos_left _ this)
 |k+1,n,c::r=>by
  unfold hexes
  cases hx:qJ c with
  |true=>
   rw[if_pos rfl]
   have h1:=znd k (16*n+hexN c) r
   have:=znc hx
   refine Nat.lt_of_lt_of_le h1 ?_
   rw[Nat.pow_succ,Nat.mul_assoc]
   exact Nat.mul_le_mul_left _ (by omega)
  |false=>
   rw[if_neg (by decide)]
   have:0<16 ^ (k+1):=Nat.pow_pos (by omega)
   exact Nat.lt_of_lt_of_le (Nat.lt_succ_self n) (Nat.le_mul_of_pos_left _ this)
theorem zj5{s l acc:Str}{c:UInt8}(hs:s.length≤big)(hr:c::l<:+s)(ha:acc.length≤1000000000):
  zI (sr s (c::l),acc)=some (sr s (zm l).2,acc++(zm l).1):=by
 have hl:=zaq hr
 unfold zI
 simp only[zgy hs hr,ze,zaY hs hl,Option.bind_some,zkN]
 cases l with
 |nil=>
  rw[show([]:Str).isEmpty=true from rfl,cond_true,zp2 ha]
  rfl
 |cons d r=>
  rw[show(d::r).isEmpty=false from rfl,cond_false,zyc]
  simp only[Option.bind_some,zi9]
  cases hx:qJ (atS (d::r) 0)with
  |false=>
   rw[Bool.not_false,cond_true,zgt,zgE]
   simp only[Option.bind_some,zgy hs hl]
   rw[zw (zaJ (by omega))]
   have:zm (d::r)=([d],r):=by show(if qJ d then _ else _)=_;rw[if_neg (by rw[show qJ d=false from hx];decide)]
   rw[this]
  |true=>
   rw[Bool.not_true,cond_false]
   have he:zm (d::r)=(zd8 (hexes 6 0 (d::r)).1,unsp (hexes 6 0 (d::r)).2):=by show(if qJ d then _ else _)=_;rw[if_pos (show qJ d=true from hx)]
   rw[he]
   rw[qQ (zrU (l:=d::r) hl (fun n i q hq hn hi=> ?_))]
   ·have hq:(hexes 6 0 (d::r)).2<:+s:=(zg5 6 0 _).trans hl
    have hlt:=znd 6 0 (d::r)
    rw[show 16 ^ 6*(0+1)=16777216 from rfl]at hlt
    simp only[zaY hs hq,Option.bind_some,zk4]
    have hj:(bif spB (atS (hexes 6 0 (d::r)).2 0)then some (LX.out (((hexes 6 0 (d::r)).1:Int),(⟨s,w64 ((beh s (hexes 6 0 (d::r)).2:Int)+1)⟩:za),acc))else some (LX.out (((hexes 6 0 (d::r)).1:Int),sr s (hexes 6 0 (d::r)).2,acc)):Option (LX (Int×za×List UInt8) (za×List UInt8)))
      =some (LX.out (((hexes 6 0 (d::r)).1:Int),sr s (unsp (hexes 6 0 (d::r)).2),acc)):=by
     cases hh:(hexes 6 0 (d::r)).2 with
     |nil=>rfl
     |cons e t=>
      rw[hh]at hq
      rw[show atS (e::t) 0=e from rfl,zgy hs hq]
      show _=some (LX.out (_,sr s (if spB e then t else e::t),acc))
      cases spB e<;>rfl
    rw[hj,zg]
    simp only
    by_cases h0:(hexes 6 0 (d::r)).1=0
    ·rw[h0,show((((0:Nat):Int))==0)=true from rfl,cond_true,zg]
     simp only[zfi (show 65533<2147483648 by omega),show w32 (65533:Int)=65533 from zfi (n:=65533) (by omega),zp2 ha,Option.bind_some]
     rfl
    ·rw[show(((hexes 6 0 (d::r)).1:Int)==0)=false by rw[beq_eq_false_iff_ne];omega,cond_false,zg]
     simp only[zBw h0 hlt ha,Option.bind_some]
   ·simp only[zaY hs hq,Option.bind_some,zyc,zi9]
    have hb6:decide ((i:Int)<6)=decide (i<6):=by rw[decide_eq_decide];omega
    rw[hb6]
    cases decide (i<6)with
    |false=>rfl
    |true=>
     rw[cond_true,Bool.true_and]
     cases hx2:qJ (atS q 0)with
     |false=>rfl
     |true=>
      cases q with
      |nil=>exact absurd hx2 (by decide)
      |cons e t=>
       have hI:hexI (atS (e::t) 0)=(hexN (atS (e::t) 0):Int):=by unfold hexI;rw[if_pos hx2]
       rw[hI,zyV hn (znc hx2),zgy hs hq,zT (by omega) (by omega)]
       rfl
end Go.Lv.VT

namespace Go.Lv.VT
set_option maxRecDepth 100000
theorem zzu{s r:Str}{k:Nat}(hs:s.length≤big)(hr:r<:+s)(hk:k≤4):zo ((k:Int),sr s r)=some (escS (r.drop k)&&decide (k<r.length)):=by
 unfold zo
 simp only[ze,zrm hs hr (show k≤8 by omega),Option.bind_some,zBp]
 rw[show w64 ((k:Int)+1)=((k+1:Nat):Int) by rw[zT (by omega) (by omega)];omega,zrm hs hr (by omega)]
 unfold escS
 rw[Qg,Qg,Nat.add_zero]
 cases h:(atS r k==92)with
 |false=>simp only[zn,cond_false,Option.bind_some,Bool.false_and]
 |true=>
  have hlt:k<r.length:=zsV (by rw[beq_iff_eq.1 h];decide)
  rw[decide_eq_true hlt]
  simp only[zn,cond_true,Option.bind_some,Bool.true_and,Bool.and_true]
  unfold bne
  rw[zz9]
theorem zzt{l:Str}(h:escS l=true):0<l.length:=by
 unfold escS at h
 rw[Bool.and_eq_true]at h
 exact zsV (by rw[beq_iff_eq.1 h.1];decide)
theorem zi7{s r:Str}{k:Nat}(hs:s.length≤big)(hr:r<:+s)(hk:k≤4):zo ((k:Int),sr s r)=some (escS (r.drop k)):=by
 rw[zzu hs hr hk]
 cases h:escS (r.drop k)with
 |false=>rfl
 |true=>
  have:=zzt h
  rw[List.length_drop]at this
  rw[decide_eq_true (by omega)];rfl
theorem zm3{s r:Str}(hs:s.length≤big)(hr:r<:+s):zo (0,sr s r)=some (escS r):=zi7 (k:=0) hs hr (by omega)
theorem zzP{s r:Str}{k:Nat}(hs:s.length≤big)(hr:r<:+s)(hk:k≤2):zC ((k:Int),sr s r)=some (nmS (r.drop k)):=by
 unfold zC
 have hk1:w64 ((k:Int)+1)=((k+1:Nat):Int):=by rw[zT (by omega) (by omega)];omega
 simp only[hk1,ze,zrm hs hr (show k≤8 by omega),zrm hs hr (show k+1≤8 by omega),Option.bind_some,zAo,zi7 hs hr (show k≤4 by omega),zi7 hs hr (show k+1≤4 by omega)]
 unfold nmS
 rw[Qg,Qg,List.drop_drop]
 unfold bne
 rw[zvW,Nat.add_zero]
 cases atS r k==45 with
 |true=>
  simp only[Bool.not_true,cond_false,if_true]
  cases fstB (atS r (k+1))with
  |true=>rfl
  |false=>
   simp only[Bool.not_false,zn,cond_true,cond_false,Option.bind_some,zvW]
   cases atS r (k+1)==45<;>cases escS (r.drop (k+1))<;>rfl
 |false=>
  simp only[Bool.not_false,cond_true]
  cases fstB (atS r k)<;>cases escS (r.drop k)<;>rfl
theorem zyr(n:Nat):(zd8 n).length≤4:=by
 unfold zd8 zph
 repeat' split
 all_goals simp
theorem zdd(l:Str):(zm l).1.length≤4:=by
 cases l with
 |nil=>show zph.length≤4;decide
 |cons c r=>
  show(if qJ c then(zd8 (hexes 6 0 (c::r)).1,unsp (hexes 6 0 (c::r)).2)else([c],r)).1.length≤4
  split
  ·exact zyr _
  ·show 1≤4;omega
theorem zD(c:UInt8)(r:Str):zl (c::r)=if letB c then((c::(zl r).1),(zl r).2)
  else if escS (c::r)then((zm r).1++(zl (zm r).2).1,(zl (zm r).2).2)
  else([],c::r):=by rw[zl]
theorem qA:zl []=([],[]):=by rw[zl]
theorem zBq(l:Str):(pk l 0 != -1)= !l.isEmpty:=by unfold bne;rw[zkN]
theorem zyt{s r:Str}(hs:s.length≤big)(hr:r<:+s):zG (sr s r)=some ((zl r).1,sr s (zl r).2):=by
 have hb:big=4194304:=rfl
 unfold zG
 refine zkr (r:=((zl r).1,sr s (zl r).2)) ?_
 refine qP (fun z=> ∃(q acc:Str),z=(sr s q,acc)∧q<:+s∧acc.length+4*q.length≤4*s.length∧acc++(zl q).1=(zl r).1∧(zl q).2=(zl r).2) (fun z=>s.length - z.1.at_.toNat) _ ?_ ⟨r,[],rfl,hr,by have:=hr.length_le;rw[List.length_nil];omega,rfl,rfl⟩
 rintro _ ⟨q,acc,rfl,hq,hl,he1,he2⟩
 simp only[ze,zaY hs hq,Option.bind_some,zsy]
 cases q with
 |nil=>
  refine .inr (.inr ⟨_,rfl,?_⟩)
  rw[qA]at he1 he2
  rw[←he1,←he2,List.append_nil]
 |cons c t=>
  have hlen:=hq.length_le
  rw[List.length_cons]at hlen hl
  rw[show atS (c::t) 0=c from rfl]
  rw[zD]at he1 he2
  cases hlet:letB c with
  |true=>
   rw[hlet,if_pos rfl]at he1 he2
   refine .inl ⟨(sr s t,acc++[c]),?_,⟨t,acc++[c],rfl,zaq hq,by rw[List.length_append,List.length_singleton];omega,by rw[←he1,List.append_assoc];rfl,he2⟩,?_⟩
   ·rw[cond_true,zgt,zgE]
    simp only[Option.bind_some]
    rw[zw (zaJ (by omega)),zgy hs hq]
   ·show s.length - beh s t<s.length - beh s (c::t)
    unfold beh;rw[List.length_cons];omega
  |false=>
   rw[hlet,if_neg (by decide)]at he1 he2
   rw[cond_false,zBq,show(c::t).isEmpty=false from rfl,zm3 hs hq]
   cases hesc:escS (c::t)with
   |true=>
    rw[hesc,if_pos rfl]at he1 he2
    have h4:=zdd t
    have h5:=zB t
    refine .inl ⟨(sr s (zm t).2,acc++(zm t).1),?_,⟨_,_,rfl,(ZF t).trans (zaq hq),by rw[List.length_append];omega,by rw[←he1,List.append_assoc],he2⟩,?_⟩
    ·simp only[Bool.not_false,zn,cond_true,Option.bind_some,zj5 hs hq (show acc.length≤1000000000 by omega)]
    ·show s.length - beh s (zm t).2<s.length - beh s (c::t)
     unfold beh;rw[List.length_cons];omega
   |false=>
    rw[hesc,if_neg (by decide)]at he1 he2
    refine .inr (.inr ⟨_,rfl,?_⟩)
    rw[←he1,←he2,List.append_nil]
theorem zac(l:Str):(zl l).2<:+l:=by
 match l with
 |[]=>rw[qA];exact List.suffix_refl _
 |c::r=>
  rw[zD]
  split
  ·exact(zac r).trans (List.suffix_cons c r)
  ·split
   ·have:=zB r
    exact(zac (zm r).2).trans ((ZF r).trans (List.suffix_cons c r))
   ·exact List.suffix_refl _
termination_by l.length
decreasing_by
 all_goals first|(have:=zB r;simp only[List.length_cons];omega)|(simp only[List.length_cons];omega)
end Go.Lv.VT
