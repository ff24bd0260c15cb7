/- Tokens that can be written: the program's check. -/
import Derived.Test.YtnfhfeipljhciaaGreatDoorLaw
set_option linter.unusedSimpArgs false
set_option linter.unusedVariables false
namespace Go.Lv.VT
theorem zA1(g d:Bool)(b c:UInt8):(bif g then namN (bif g then b else c).toNat else d)=bif g then namN b.toNat else d:=by cases g<;>rfl
theorem zoP{x:zb}(h1:x.text.length≤big)(h2:x.unit.length≤big):zev x=some (zbA x):=by
 unfold zev
 rw[zw (ze3.2 (by unfold big at h1 h2;omega))]
 simp only[ze,zcF,Option.bind_some]
 have hn:decide (Lib.indexByte (x.text++x.unit) (0:Int).toNat.toUInt8<0)=(Zh x.text&&Zh x.unit):=by
  rw[zzF,zzu,zpn,Bool.not_not]
 simp only[hn,zex,zaz,QS,Option.bind_some,ge_iff_le,bne]
 have hb:=zxI x.text
 unfold zbA rngS
 by_cases k9:x.kind=9
 ·simp only[k9,Int.reduceBEq,cond_true,cond_false,zg,Bool.or_false,Bool.false_or]
  cases ht:x.text with
  |nil=>
   have:Zh ([]:Str)=true:=rfl
   simp only[this,Bool.true_and]
   cases Zh x.unit<;>rfl
  |cons b r=>
   cases r with
   |nil=>
    have hd:=zw3 b
    have e1:((([b]:Str).length:Int)==1)=true:=rfl
    have e2:geti [b] 0=some b:=rfl
    have e3:(([b]:Str)==[45])=(b==45):=by
     show((b==45)&&true)=_
     rw[Bool.and_true]
    have e4:Zh [b]= !(b==0):=by show((!(b==0))&&true)=_;rw[Bool.and_true]
    have e5:delS [b]=zci b.toNat:=rfl
    simp only[e1,e2,e3,e4,e5,zlb,zg0,QS,Option.bind_some,zA1,←hd]
    cases hu:x.unit with
    |nil=>
     have:Zh ([]:Str)=true:=rfl
     simp only[this,Bool.and_true]
     generalize (zmb.any fun c=>c==b)=a1
     cases namN b.toNat<;>cases (b==0)<;>cases (b==45)<;>cases a1<;>cases (x.num==0)<;>cases x.flag<;>rfl
    |cons c s=>
     have:((c::s:Str)==[])=false:=rfl
     simp only[this]
     generalize Zh (c::s)=a2
     generalize (zmb.any fun c=>c==b)=a1
     cases a2<;>cases namN b.toNat<;>cases (b==0)<;>cases (b==45)<;>cases a1<;>cases (x.num==0)<;>cases x.flag<;>rfl
   |cons c r=>
    have e1:(((b::c::r:Str).length:Int)==1)=false:=beq_eq_false_iff_ne.2 (by simp only[List.length_cons];omega)
    have e3:((b::c::r:Str)==[45])=false:=by
     show((b==45)&&false)=_
     rw[Bool.and_false]
    have e5:delS (b::c::r)=false:=rfl
    simp only[e1,e3,e5]
    cases (Zh (b::c::r)&&Zh x.unit)<;>rfl
 have b9:=beq_eq_false_iff_ne.2 k9
 have hu:(x.unit==[])=true→Zh x.unit=true:=fun h=>by rw[beq_iff_eq]at h;rw[h];rfl
 have htx:(x.text==[])=true→Zh x.text=true:=fun h=>by rw[beq_iff_eq]at h;rw[h];rfl
 rw[←hb]
 generalize hl45:(x.text==[45])=a11 at*
 generalize (List.isPrefixOf [45,45] x.text)=a12 at*
 generalize numS x.text=a3 at*
 generalize Zh x.text=a1 at*
 generalize Zh x.unit=a2 at*
 generalize (x.text==[])=a4 at*
 generalize (x.unit==[])=a5 at*
 generalize (x.num==0)=a6 at*
 generalize x.flag=a7 at*
 generalize decide (-1000000000000≤x.num)=a8 at*
 generalize decide (x.num≤1000000000000)=a9 at*
 generalize (Int.tmod x.num 1000==0)=a10 at*
 clear hb hn hl45
 have K: ∀k:Int,k∈[1,2,3,4,5,7,10,11,12]→x.kind=k→True:=fun _ _ _=>trivial
 clear K
 by_cases k1:x.kind=1
 ·simp only[k1,zg,cond_true,cond_false,Int.reduceBEq]
  cases a1<;>cases a2<;>cases a4<;>cases a5<;>cases a6<;>cases a7<;>first|rfl|(simp at hu htx;done)|simp_all
 by_cases k2:x.kind=2
 ·simp only[k2,zg,cond_true,cond_false,Int.reduceBEq]
  cases a1<;>cases a2<;>cases a4<;>cases a5<;>cases a6<;>cases a7<;>first|rfl|(simp at hu htx;done)|simp_all
 by_cases k3:x.kind=3
 ·simp only[k3,zg,cond_true,cond_false,Int.reduceBEq]
  cases a1<;>cases a2<;>cases a4<;>cases a5<;>cases a6<;>cases a7<;>first|rfl|(simp at hu htx;done)|simp_all
 by_cases k4:x.kind=4
 ·simp only[k4,zg,cond_true,cond_false,Int.reduceBEq]
  cases a1<;>cases a2<;>cases a3<;>cases a4<;>cases a5<;>cases a6<;>cases a7<;>cases a11<;>cases a12<;>first|rfl|(simp at hu htx;done)|simp_all
 by_cases k5:x.kind=5
 ·simp only[k5,zg,cond_true,cond_false,Int.reduceBEq]
  cases a1<;>cases a2<;>cases a5<;>cases a6<;>cases a7<;>first|rfl|(simp at hu htx;done)|simp_all
 by_cases k7:x.kind=7
 ·simp only[k7,zg,cond_true,cond_false,Int.reduceBEq]
  cases a1<;>cases a2<;>cases a5<;>cases a6<;>cases a7<;>first|rfl|(simp at hu htx;done)|simp_all
 by_cases k10:x.kind=10
 ·simp only[k10,zg,cond_true,cond_false,Int.reduceBEq]
  cases a1<;>cases a2<;>cases a4<;>cases a5<;>cases a7<;>cases a8<;>cases a9<;>cases a10<;>first|rfl|(simp at hu htx;done)|simp_all
 by_cases k11:x.kind=11
 ·simp only[k11,zg,cond_true,cond_false,Int.reduceBEq]
  cases a1<;>cases a2<;>cases a4<;>cases a5<;>cases a7<;>cases a8<;>cases a9<;>cases a10<;>first|rfl|(simp at hu htx;done)|simp_all
 by_cases k12:x.kind=12
 ·simp only[k12,zg,cond_true,cond_false,Int.reduceBEq]
  cases a1<;>cases a2<;>cases a4<;>cases a5<;>cases a7<;>cases a8<;>cases a9<;>cases a10<;>first|rfl|(simp at hu htx;done)|simp_all
 simp only[b9,beq_eq_false_iff_ne.2 k1,beq_eq_false_iff_ne.2 k2,beq_eq_false_iff_ne.2 k3,beq_eq_false_iff_ne.2 k4,beq_eq_false_iff_ne.2 k5,beq_eq_false_iff_ne.2 k7,beq_eq_false_iff_ne.2 k10,beq_eq_false_iff_ne.2 k11,beq_eq_false_iff_ne.2 k12,zg,cond_true,cond_false,Bool.or_self]
 cases decide (13≤x.kind)<;>cases decide (x.kind≤24)<;>cases a4<;>cases a5<;>cases a6<;>cases a7<;>rfl
end Go.Lv.VT

namespace Go.Lv.VT
theorem zkk {R:Type} {step:Int→Option (LO Int Unit R)} {k:Unit→Option R} (n:Nat) (p:Nat→Bool) (r:R)
  (hg: ∀(i:Nat),i<n→step (i:Int)=some (bif p i then .again ((i+1:Nat):Int)else .ret r)) (hf:step (n:Int)=some (.out ())):
  ZF step 0 k=bif (List.range n).all p then k ()else some r:=by
 have e:=zl9 (k:=k) (List.range n) (fun i=>bif p i then none else some r) () (fun i hi=> ?_) (by simpa using hf)
 ·rw[e,zmW]
  cases (List.range n).all p<;>rfl
 ·have hi':i<n:=by simpa using hi
  rw[hg i hi']
  simp only[List.getElem_range]
  cases p i<;>rfl
def zn4:List zb→Bool
 |[]=>false
 |s::r=>bif s.kind==13 then(match r with|u::_=>u.kind==5|[]=>false)else s.kind==5
def zcG:List zb→Bool
 |[]=>false
 |s::_=>s.kind==13
def zdd(t:zb):Bool:=t.kind==2&&lowS t.text==[117,114,108]
def okAt:List zb→Bool
 |[]=>true
 |t::r=>(!(t.kind==9&&t.text==[92])||zcG r)&&(!(zdd t)||zn4 r)
def znq(l:List zb)(i:Nat):Bool:=zbA (l.getD i default)&&okAt (l.drop i)
def gluS(l:List zb):Int:=bif decide (l.length≤1500)then(bif (List.range l.length).all (znq l)then 0 else 8)else 4
theorem zh9(l:List zb)(i:Nat)(k:Int):ZB (((i:Int),k),l)=some (match l[i]? with|some t=>t.kind==k|none=>false):=by
 unfold ZB
 by_cases h:i<l.length
 ·simp only[zgj h,zT,zbB h,ze,Option.bind_some,cond_true,List.getElem?_eq_getElem h]
 ·have e:decide ((i:Int)<(l.length:Int))=false:=decide_eq_false (by omega)
  simp only[e,Zu,ze,Option.bind_some,cond_false,List.getElem?_eq_none (Nat.le_of_not_lt h)]
theorem zkl:lowS [117,114,108]=[117,114,108]:=by decide
theorem zm3{t:zb}{r:List zb}(h:t.text.length≤big): ∃n:Int,Qs (t::r)=some n∧(n==0)= !okAt (t::r):=by
 have e0:geti (t::r) 0=some t:=rfl
 have p1:=zh9 (t::r) 1 13
 have p15:=zh9 (t::r) 1 5
 have p25:=zh9 (t::r) 2 5
 unfold Qs
 simp only[e0,ze,Option.bind_some,zib h (show([117,114,108]:Str).length≤big by decide),zkl,QS]
 simp only[Int.natCast_one]at p1 p15
 replace p25:ZB ((2,5),t::r)=_:=p25
 rw[p1]
 unfold okAt zdd
 cases hd:(t.kind==9&&t.text==[92])with
 |true=>
  have hk:t.kind=9:=by rw[Bool.and_eq_true,beq_iff_eq]at hd;exact hd.1
  have ht:(t.text==[92])=true:=by rw[Bool.and_eq_true]at hd;exact hd.2
  simp only[hk,ht,Int.reduceBEq,cond_true,cond_false,Option.bind_some]
  cases r with
  |nil=>exact⟨_,rfl,rfl⟩
  |cons s r=>
   show∃n:Int,(bif !(s.kind==13)then some 0 else some 2)=some n∧(n==0)= !((!true||s.kind==13)&&_)
   cases s.kind==13
   ·exact⟨0,rfl,rfl⟩
   ·exact⟨2,rfl,rfl⟩
 |false=>
  have hc:(bif t.kind==9 then t.text==[92]else false)=false:=by
   cases h9:t.kind==9
   ·rfl
   ·rw[h9]at hd;exact hd
  simp only[hc,hd,cond_false,Bool.not_false,Bool.true_or,Bool.true_and]
  cases hu:(t.kind==2&&lowS t.text==[117,114,108])with
  |false=>
   have:(bif t.kind==2 then bif t.kind==2 then lowS t.text==[117,114,108]else default else false)=false:=by
    cases h2:t.kind==2
    ·rfl
    ·rw[h2]at hu;exact hu
   rw[this]
   exact⟨1,rfl,rfl⟩
  |true=>
   rw[Bool.and_eq_true]at hu
   rw[hu.1,hu.2]
   simp only[cond_true,Option.bind_some]
   cases r with
   |nil=>exact⟨0,by simp[p15],rfl⟩
   |cons s r=>
    cases hs:s.kind==13 with
    |false=>
     have e1:(match(t::s::r)[1]? with|some t=>t.kind==13|none=>false)=false:=hs
     have e5:ZB ((1,5),t::s::r)=some (s.kind==5):=p15
     simp only[e1,cond_false,zg,e5,Option.bind_some,zn4,hs]
     cases s.kind==5
     ·exact⟨0,rfl,rfl⟩
     ·exact⟨2,by rfl,rfl⟩
    |true=>
     have e1:(match(t::s::r)[1]? with|some t=>t.kind==13|none=>false)=true:=hs
     simp only[e1,cond_true,zg,p25,Option.bind_some,zn4,hs]
     cases r with
     |nil=>exact⟨0,rfl,rfl⟩
     |cons u r=>
      show∃n:Int,(bif !(u.kind==5)then some 0 else some (w64 (2+1)))=some n∧(n==0)= !(!true||u.kind==5)
      cases u.kind==5
      ·exact⟨0,rfl,rfl⟩
      ·exact⟨3,rfl,rfl⟩
theorem zl3(l:List zb):decide ((l.length:Int)>1500)= !decide (l.length≤1500):=zAV _ 1500
theorem zm2{l:List zb}(h: ∀t∈l,t.text.length≤big∧t.unit.length≤big):zda l=some (gluS l):=by
 unfold zda gluS
 rw[zl3]
 cases hl:decide (l.length≤1500)with
 |false=>rfl
 |true=>
  have hl:=of_decide_eq_true hl
  simp only[Bool.not_true,cond_false,cond_true]
  refine(zkk l.length (znq l) 8 (fun i hi=> ?_) ?_).trans ?_
  ·obtain⟨g1,g2⟩:=h _ (List.getElem_mem hi)
   have hgd:l.getD i default=l[i]:=by simp[hi]
   have hdr:=List.drop_eq_getElem_cons hi
   obtain⟨n,e1,e2⟩:=zm3 (t:=l[i]) (r:=l.drop (i+1)) g1
   rw[←hdr]at e1 e2
   have e3:decide ((i:Int)≤(l.length:Int))=true:=decide_eq_true (by omega)
   unfold znq
   simp only[zgj hi,cond_true,zbB hi,ze,Option.bind_some,zoP g1 g2,zpm,e3,Bool.true_and,Bool.true_or,ZR,Int.toNat_natCast,e1,QS,zcN hi (show l.length≤big by unfold big;omega),hgd]
   cases zbA l[i]with
   |false=>rfl
   |true=>
    simp only[Bool.not_true,Bool.not_false,cond_true,cond_false,e2,Bool.true_and]
    cases okAt (l.drop i)<;>rfl
  ·simp only[zkm,cond_false]
  ·cases (List.range l.length).all (znq l)<;>rfl
end Go.Lv.VT

namespace Go.Lv.VT
theorem zjV{α:Type}{l:List α}{i:Nat}{s:α}{r:List α}(h:l.drop i=s::r):i<l.length∧geti l (i:Int)=some s∧l.drop (i+1)=r:=by
 have hi:i<l.length:=by
  rcases Nat.lt_or_ge i l.length with h'|h'
  ·exact h'
  ·rw[List.drop_eq_nil_of_le h']at h;cases h
 rw[List.drop_eq_getElem_cons hi]at h
 injection h with h1 h2
 exact⟨hi,by rw[zbB hi,h1],h2⟩
theorem zjW{α:Type}{l:List α}{i:Nat}(h:l.drop i=[])(hi:i≤l.length):i=l.length:=by
 have:=List.drop_eq_nil_iff.1 h;omega
theorem zyg{l:List zb}{i:Nat}(hi:i<l.length)(hl:l.length≤1500):
  zU (X:=Int) (R:=LX Unit (LO Int Unit Int)) (ze (zn (decide (((i+1:Nat):Int)<(l.length:Int))) (geti l ((i+1:Nat):Int)) (default:zb)) fun y7=>bif bif decide (((i+1:Nat):Int)<(l.length:Int))then y7.kind==13 else false then some (LX.out (w64 (((i+1:Nat):Int)+1)))else some (LX.out ((i+1:Nat):Int)))
   (fun j8=>ze (zn (!(decide (j8≥(l.length:Int)))) (geti l j8) (default:zb)) fun y9=>bif bif decide (j8≥(l.length:Int))then true else y9.kind != 5 then some (LX.ret (LO.ret 8))else some (LX.out ()))=bif zn4 (l.drop (i+1))then some (LX.out ())else some (LX.ret (LO.ret 8)):=by
 cases hr:l.drop (i+1)with
 |nil=>
  have he:=zjW hr (by omega)
  have e1:decide (((i+1:Nat):Int)<(l.length:Int))=false:=decide_eq_false (by omega)
  have e2:decide (((i+1:Nat):Int)≥(l.length:Int))=true:=decide_eq_true (by omega)
  simp only[e1,e2,Zu,ze,Option.bind_some,cond_false,cond_true,zg,Bool.not_true,zn4]
 |cons s r=>
  obtain⟨h1,h2,h3⟩:=zjV hr
  have e2:decide (((i+1:Nat):Int)≥(l.length:Int))=false:=decide_eq_false (by omega)
  have hw:w64 (((i+1:Nat):Int)+1)=((i+1+1:Nat):Int):=zcN h1 (by unfold big;omega)
  simp only[zgj h1,zT,h2,ze,Option.bind_some,cond_true,hw,zn4]
  cases hs:s.kind==13 with
  |false=>
   simp only[cond_false,zg,e2,Bool.not_false,zT,h2,Option.bind_some,bne]
   cases s.kind==5<;>rfl
  |true=>
   simp only[cond_true,zg]
   cases r with
   |nil=>
    have he:=zjW h3 (by omega)
    have e3:decide (((i+1+1:Nat):Int)≥(l.length:Int))=true:=decide_eq_true (by omega)
    simp only[e3,Bool.not_true,Zu,Option.bind_some,cond_true,cond_false]
   |cons u r=>
    obtain⟨g1,g2,g3⟩:=zjV h3
    have e3:decide (((i+1+1:Nat):Int)≥(l.length:Int))=false:=decide_eq_false (by omega)
    simp only[e3,Bool.not_false,zT,g2,Option.bind_some,cond_false,bne]
    cases u.kind==5<;>rfl
theorem zw4{l:List zb}{i:Nat}(hi:i<l.length)(d:Bool)(A B:Option (LO Int Unit Int)):
  (ze (zn (!(((i+1:Nat):Int)==(l.length:Int))&&d) (geti l ((i+1:Nat):Int)) (default:zb)) fun y13=>bif bif d then bif ((i+1:Nat):Int)==(l.length:Int)then true else y13.kind != 13 else false then A else B)=bif !d||zcG (l.drop (i+1))then B else A:=by
 cases d with
 |false=>simp only[Bool.and_false,Zu,ze,Option.bind_some,cond_false,Bool.not_false,Bool.true_or,cond_true]
 |true=>
  cases hr:l.drop (i+1)with
  |nil=>
   have he:=zjW hr (by omega)
   have e1:(((i+1:Nat):Int)==(l.length:Int))=true:=beq_iff_eq.2 (by omega)
   simp only[e1,Bool.not_true,Bool.false_and,Zu,ze,Option.bind_some,cond_true,zcG,Bool.or_self,cond_false]
  |cons s r=>
   obtain⟨h1,h2,h3⟩:=zjV hr
   have e1:(((i+1:Nat):Int)==(l.length:Int))=false:=beq_eq_false_iff_ne.2 (by omega)
   simp only[e1,Bool.not_false,Bool.true_and,zT,h2,ze,Option.bind_some,cond_true,zcG,cond_false,Bool.not_true,Bool.false_or,bne]
   cases s.kind==13<;>rfl
theorem zyZ(b:Bool)(t u:zb)(p:zb→Bool):(bif b then p (bif b then t else u)else false)=(b&&p t):=by cases b<;>rfl
theorem zlz{l:List zb}(h: ∀t∈l,t.text.length≤big∧t.unit.length≤big):zct l=some (gluS l):=by
 unfold zct gluS
 rw[zl3]
 cases hl:decide (l.length≤1500)with
 |false=>rfl
 |true=>
  have hl:=of_decide_eq_true hl
  simp only[Bool.not_true,cond_false,cond_true]
  refine(zkk l.length (znq l) 8 (fun i hi=> ?_) ?_).trans ?_
  ·obtain⟨g1,g2⟩:=h _ (List.getElem_mem hi)
   have hgd:l.getD i default=l[i]:=by simp[hi]
   have hdr:=List.drop_eq_getElem_cons hi
   have hw:w64 ((i:Int)+1)=((i+1:Nat):Int):=zcN hi (by unfold big;omega)
   have hw2:w64 (((i+1:Nat):Int)+1)=((i+2:Nat):Int):=zcN (n:=i+2) (by omega) (by unfold big;omega)
   unfold znq
   rw[hdr,hgd]
   simp only[zgj hi,cond_true,zbB hi,ze,Option.bind_some,znH g1 g2,hw]
   cases hf:zbA l[i]with
   |false=>rfl
   |true=>
    simp only[Bool.not_true,cond_false,QS,Option.bind_some,Bool.true_and]
    have hu:=zyg hi hl
    have hd:=zw4 hi (l[i].kind==9&&l[i].text==[92]) (some (LO.ret 8)) (some (LO.again ((i+1:Nat):Int)))
    simp only[ze]at hu hd
    have hlow:(bif l[i].kind==2 then bif l[i].kind==2 then lowS (bif l[i].kind==2 then l[i]else default).text==[117,114,108]else default else false)=zdd l[i]:=by
     unfold zdd
     cases l[i].kind==2<;>rfl
    have ha:(zn (l[i].kind==2) (qi ((bif l[i].kind==2 then l[i]else default).text,[117,114,108])) (default:Bool))=some (bif l[i].kind==2 then lowS (bif l[i].kind==2 then l[i]else default).text==[117,114,108]else default):=by
     cases h2:l[i].kind==2 with
     |false=>rfl
     |true=>
      show qi (l[i].text,[117,114,108])=some (lowS l[i].text==[117,114,108])
      rw[zvX g1 (by decide),zkl]
    have hdl:(bif l[i].kind==9 then(bif l[i].kind==9 then l[i]else default).text==[92]else false)=(l[i].kind==9&&l[i].text==[92]):=zyZ (l[i].kind==9) l[i] default fun t=>t.text==[92]
    simp only[ha,Option.bind_some,hlow,hdl,hu,okAt]
    cases zdd l[i]with
    |false=>
     simp only[cond_false,zg,Bool.not_false,Bool.true_or,Bool.and_true]
     refine hd.trans ?_
     cases (!(l[i].kind==9&&l[i].text==[92])||zcG (l.drop (i+1)))<;>rfl
    |true=>
     simp only[cond_true,Bool.not_true,Bool.false_or]
     cases zn4 (l.drop (i+1))with
     |false=>simp only[cond_false,zo0,Bool.and_false]
     |true=>
      simp only[cond_true,zg,Bool.and_true]
      refine hd.trans ?_
      cases (!(l[i].kind==9&&l[i].text==[92])||zcG (l.drop (i+1)))<;>rfl
  ·simp only[zkm,cond_false]
  ·cases (List.range l.length).all (znq l)<;>rfl
end Go.Lv.VT

namespace Go.Lv.VT
set_option maxRecDepth 100000
def partT(r:Nat)(p:Bool):Str:=bif (zgX r).isEmpty then(bif p then [48]else [])else zgX r
theorem zgm{r:Nat}(h:r<1000)(p:Bool):(partT r p).all digB=true∧(partT r p).length≤3∧valG 0 (partT r p)*10 ^ (3 - (partT r p).length)=r∧zp2 r p=(bif (partT r p).isEmpty then []else 46::partT r p)∧((partT r p).isEmpty=((r==0)&& !p)):=by
 have hf:=zmX r h
 simp only[zrT,Bool.and_eq_true,decide_eq_true_eq,beq_iff_eq]at hf
 obtain⟨⟨⟨⟨a,b⟩,c⟩,d⟩,e⟩:=hf
 unfold partT zp2
 cases hE:(zgX r).isEmpty with
 |true=>
  have hr:r=0:=by rw[hE]at d;exact beq_iff_eq.1 d.symm
  subst hr
  cases p<;>refine⟨by decide,by decide,by decide,rfl,rfl⟩
 |false=>
  rw[hE]at d
  simp only[cond_false]
  exact⟨a,b,c,by rw[hE,cond_false],by rw[hE,←d];rfl⟩
theorem ztW{l:Str}(h:(l.all fun b=>digB b||b==46)=true):za4 l=true:=by
 unfold za4
 rw[List.all_eq_true]at h ⊢
 intro b hb
 have:=h b hb
 refine decide_eq_true ?_
 rw[Bool.or_eq_true]at this
 rcases this with h1|h1
 ·have:=zc7 h1;omega
 ·rw[beq_iff_eq.1 h1];decide
theorem zt1{m:Nat}(p:Bool):((zbL m p).all fun b=>digB b||b==46)=true:=by
 obtain⟨h1,_,_⟩:=zhN (m / 1000)
 obtain⟨h2,_,_,h5,_⟩:=zgm (r:=m%1000) (by omega) p
 have hw: ∀l:Str,l.all digB=true→(l.all fun b=>digB b||b==46)=true:=by
  intro l hl
  rw[List.all_eq_true]at hl ⊢
  intro b hb
  rw[hl b hb];rfl
 unfold zbL
 rw[List.all_append,hw _ h1,h5,Bool.true_and]
 cases (partT (m%1000) p).isEmpty with
 |true=>rfl
 |false=>rw[cond_false,List.all_cons,hw _ h2];rfl
theorem zgN(u:Nat): ∃c r,Lib.decDigits u=c::r∧digB c=true:=by
 obtain⟨h1,_,h3⟩:=zhN u
 cases h:Lib.decDigits u with
 |nil=>exact absurd h h3
 |cons c r=>rw[h,List.all_cons,Bool.and_eq_true]at h1;exact⟨c,r,rfl,h1.1⟩
theorem QC{c:UInt8}(h:digB c=true):c≠45∧c≠43∧c≠46∧c≠0∧List.contains [43,45] c=false:=by
 have: ∀n:Nat,n<256→digB (UInt8.ofNat n)=true→UInt8.ofNat n≠45∧UInt8.ofNat n≠43∧UInt8.ofNat n≠46∧UInt8.ofNat n≠0∧List.contains [43,45] (UInt8.ofNat n)=false:=by decide+kernel
 have:=this c.toNat (UInt8.toNat_lt c)
 rw[UInt8.ofNat_toNat]at this
 exact this h
theorem zwW{m:Nat}(p:Bool): ∃f,Lib.cut (zbL m p) [46]=(Lib.decDigits (m / 1000),partT (m%1000) p,f):=by
 obtain⟨h1,_,_⟩:=zhN (m / 1000)
 obtain⟨_,_,_,h5,_⟩:=zgm (r:=m%1000) (by omega) p
 unfold zbL Lib.cut
 rw[zfi,h5]
 cases hp:(partT (m%1000) p).isEmpty with
 |true=>
  rw[cond_true,List.append_nil,zqO _ h1,if_neg (by decide)]
  exact⟨false,by rw[List.isEmpty_iff.1 hp]⟩
 |false=>
  rw[cond_false,zqN _ _ h1,if_pos (by omega)]
  refine⟨true,?_⟩
  rw[Int.toNat_natCast,List.take_left,List.length_singleton,show(Lib.decDigits (m / 1000)).length+1=(Lib.decDigits (m / 1000)++[46]).length by simp]
  have:Lib.decDigits (m / 1000)++46::partT (m%1000) p=(Lib.decDigits (m / 1000)++[46])++partT (m%1000) p:=by simp
  rw[this,List.drop_left]
theorem zlB{n:Int}(h1: -1000000000000≤n)(h2:n≤1000000000000)(p:Bool):ZH (numT n p)=some n:=by
 obtain⟨m,hm⟩: ∃m:Nat,n.natAbs=m:=⟨_,rfl⟩
 have hmle:m≤1000000000000:=by omega
 obtain⟨c,r,hc,hcd⟩:=zgN (m / 1000)
 obtain⟨nc45,nc43,_,_,ncc⟩:=QC hcd
 have hbody:zbL m p=c::(r++zp2 (m%1000) p):=by unfold zbL;rw[hc];rfl
 have hlen:=zi0 hmle p
 obtain⟨f,hcut⟩:=zwW (m:=m) p
 obtain⟨d1,d2,d3⟩:=zhN (m / 1000)
 obtain⟨p1,p2,p3,p4,p5⟩:=zgm (r:=m%1000) (by omega) p
 have hdl:=zjS (u:=m / 1000) (by omega)
 have hsh:short (zbL m p)=true:=decide_eq_true (by omega)
 have hdrop:Lib.trimLeftS (zbL m p) [43,45]=zbL m p:=by
  rw[hbody]
  unfold Lib.trimLeftS
  rw[List.dropWhile_cons,ncc]
  rfl
 have hT:Lib.trimLeftS (numT n p) [43,45]=zbL m p:=by
  unfold numT
  rw[hm]
  by_cases hn:n<0
  ·rw[if_pos hn]
   show List.dropWhile _ (45::zbL m p)=_
   rw[List.dropWhile_cons]
   exact hdrop
  ·rw[if_neg hn];exact hdrop
 have h0: ∃b,geti (numT n p) 0=some b∧(((b.toNat:Int)==45)=decide (n<0)):=by
  unfold numT
  rw[hm]
  by_cases hn:n<0
  ·rw[if_pos hn,decide_eq_true hn];exact⟨45,rfl,rfl⟩
  ·rw[if_neg hn,decide_eq_false hn]
   refine⟨c,by rw[hbody];rfl,beq_eq_false_iff_ne.2 (fun e=>nc45 ?_)⟩
   exact UInt8.toNat_inj.1 (by show c.toNat=45;omega)
 obtain⟨b,hb1,hb2⟩:=h0
 unfold ZH
 simp only[ze,hb1,Option.bind_some]
 have t1:ze7 (numT n p,[43,45])=some (zbL m p):=by
  unfold ze7
  rw[zw (show(short ([43,45]:Str)&&za4 [43,45])=true by decide)]
  exact congrArg some hT
 have t2:QG (zbL m p,[101,69])=some (-1):=by
  unfold QG
  rw[zw (by simp only[hsh,ztW (zt1 p),Bool.and_true,Bool.true_and];decide)]
  exact congrArg some (zqj _ (zt1 p))
 have t3:cutF (zbL m p,[46])=some (Lib.decDigits (m / 1000),partT (m%1000) p,f):=by
  unfold cutF
  rw[zw (by exact hsh)]
  exact congrArg some hcut
 simp only[t1,t2,Option.bind_some,show decide ((-1:Int)≥0)=false from rfl,cond_false,zg,t3]
 rw[zw (ze3.2 (by omega))]
 have hw:w64 (3 - ((partT (m%1000) p).length:Int))=((3 - (partT (m%1000) p).length:Nat):Int):=by rw[zV (by omega) (by omega)];omega
 rw[hw,decide_eq_false (by omega),cond_false,zg]
 simp only
 have hml:maxLen=9223372036854775807:=rfl
 rw[zw (decide_eq_true (by rw[List.length_append,hml];omega))]
 have hval:valG 0 (Lib.decDigits (m / 1000)++partT (m%1000) p)*10 ^ (3 - (partT (m%1000) p).length)=m:=by
  rw[zjl,d2,zk5,Nat.add_mul,p3,Nat.mul_assoc,←Nat.pow_add,show(partT (m%1000) p).length+(3 - (partT (m%1000) p).length)=3 by omega]
  omega
 have hvle:valG 0 (Lib.decDigits (m / 1000)++partT (m%1000) p)≤1000000000000:=by
  have:=Nat.le_mul_of_pos_right (valG 0 (Lib.decDigits (m / 1000)++partT (m%1000) p)) (Nat.pow_pos (n:=3 - (partT (m%1000) p).length) (show 0<10 by omega))
  omega
 rw[qO (zx2 (l:=Lib.decDigits (m / 1000)++partT (m%1000) p) (by rw[List.all_append,d1,p1];rfl) (by rw[List.length_append];omega) hvle (fun v i hi=> ?_) (fun v=> ?_))]
 ·rw[qO (ztE (by omega) (by rw[hval];exact hmle) (fun a b=> ?_)),hval]
  ·rw[hb2]
   by_cases hn:n<0
   ·rw[decide_eq_true hn,cond_true,zg,zV (by omega) (by omega)]
    congr 1;omega
   ·rw[decide_eq_false hn,cond_false,zg]
    congr 1;omega
  ·simp only
 ·have e1:decide ((i:Int)<((Lib.decDigits (m / 1000)++partT (m%1000) p).length:Int))=true:=decide_eq_true (by omega)
  have e0:decide ((0:Int)≤(i:Int))=true:=decide_eq_true (by omega)
  simp only[e1,e0,cond_true,Bool.and_true,ZR,Int.toNat_natCast,List.getElem?_eq_getElem hi,Option.bind_some]
 ·simp only
  rw[decide_eq_false (by omega),cond_false]
end Go.Lv.VT

namespace Go.Lv.VT
set_option maxRecDepth 100000
theorem zyU(n:Int)(p:Bool):(n<0∧numT n p=45::zbL n.natAbs p)∨(¬n<0∧numT n p=zbL n.natAbs p):=by
 unfold numT
 by_cases h:n<0
 ·exact .inl ⟨h,by rw[if_pos h];rfl⟩
 ·exact .inr ⟨h,by rw[if_neg h];rfl⟩
theorem zt2(m:Nat)(p:Bool): ∃c r,zbL m p=c::r∧digB c=true:=by
 obtain⟨c,r,h,hd⟩:=zgN (m / 1000)
 exact⟨c,r++zp2 (m%1000) p,by unfold zbL;rw[h];rfl,hd⟩
theorem zwG{n:Int}(h1: -1000000000000≤n)(h2:n≤1000000000000)(p:Bool):(numT n p).length≤25∧1≤(numT n p).length:=by
 have:=zi0 (m:=n.natAbs) (by omega) p
 obtain⟨c,r,hb,_⟩:=zt2 n.natAbs p
 rcases zyU n p with⟨_,h⟩|⟨_,h⟩
 ·rw[h,List.length_cons];omega
 ·rw[h];refine⟨by omega,?_⟩;rw[hb,List.length_cons];omega
end Go.Lv.VT

namespace Go.Lv.VT
set_option maxRecDepth 100000
theorem Zm{n:Nat}(h:n<256):Zl ((n:Nat):Int)=some (UInt8.ofNat n):=by
 unfold Zl
 rw[decide_eq_true (by omega:(0:Int)≤(n:Int)),decide_eq_true (by omega:(n:Int)≤255)]
 rfl
theorem zrq(n k:Nat)(hk:k≤32):zey .i32 (n:Int) (k:Int)=((n / 2 ^ k:Nat):Int):=by
 unfold zey
 rw[show(min ((k:Int).toNat) IntKind.i32.bits)=k by show min k 32=k;omega]
 rw[Int.fdiv_eq_ediv_of_nonneg _ (Int.le_of_lt (Int.pow_pos (by decide)))]
 rw[Int.natCast_ediv,Int.natCast_pow]
 rfl
theorem shr6(n:Nat):zey .i32 (n:Int) 6=((n / 64:Nat):Int):=zrq n 6 (by omega)
theorem zBs(n:Nat):zey .i32 (n:Int) 12=((n / 4096:Nat):Int):=zrq n 12 (by omega)
theorem zBt(n:Nat):zey .i32 (n:Int) 18=((n / 262144:Nat):Int):=zrq n 18 (by omega)
theorem zBE(n:Int):IntKind.u8.wrap n=n%256:=by simp[IntKind.wrap,IntKind.bits,IntKind.signed]
theorem zAs(n:Int):IntKind.u32.wrap n=n%4294967296:=by simp[IntKind.wrap,IntKind.bits,IntKind.signed]
theorem zfa{n:Nat}(h:n<2147483648):w32 (n:Int)=(n:Int):=by
 show IntKind.i32.wrap _=_
 simp only[IntKind.wrap,IntKind.bits,IntKind.signed]
 simp
 omega
theorem zsJ{n:Nat}(h:n<2147483648):wu32 (n:Int)=(n:Int):=by
 show IntKind.u32.wrap _=_
 rw[zAs];omega
theorem zk8(n:Nat):wu8 (n:Int)=((n%256:Nat):Int):=by
 show IntKind.u8.wrap (n:Int)=_
 rw[zBE]
 omega
theorem zr8(n:Nat):ibOr .u8 128 (zg2 .u8 (wu8 (n:Int)) 63)=((128+n%64:Nat):Int):=by
 have: ∀m:Nat,m<256→ibOr .u8 128 (zg2 .u8 ((m:Nat):Int) 63)=((128+m%64:Nat):Int):=by decide+kernel
 rw[zk8,this _ (Nat.mod_lt _ (by omega)),show n%256%64=n%64 by omega]
theorem zBb{n:Nat}(h:n<32):ibOr .u8 192 (wu8 (n:Int))=((192+n:Nat):Int):=by
 have: ∀m:Nat,m<32→ibOr .u8 192 (wu8 ((m:Nat):Int))=((192+m:Nat):Int):=by decide+kernel
 exact this n h
theorem zxN{n:Nat}(h:n<16):ibOr .u8 224 (wu8 (n:Int))=((224+n:Nat):Int):=by
 have: ∀m:Nat,m<16→ibOr .u8 224 (wu8 ((m:Nat):Int))=((224+m:Nat):Int):=by decide+kernel
 exact this n h
theorem zBc{n:Nat}(h:n<8):ibOr .u8 240 (wu8 (n:Int))=((240+n:Nat):Int):=by
 have: ∀m:Nat,m<8→ibOr .u8 240 (wu8 ((m:Nat):Int))=((240+m:Nat):Int):=by decide+kernel
 exact this n h
theorem zaI{n m:Nat}(h:n+m≤2000000000):Ze n m 1=true:=by unfold Ze;exact decide_eq_true (by omega)
theorem zBq{n:Nat}(h0:n≠0)(h:n<16777216){l:Str}(hl:l.length≤1000000000):ZJ (w32 (n:Int),l)=some (l++zd2 n):=by
 have a1:Ze l.length 1 1=true:=zaI (by omega)
 have a2:Ze l.length 2 1=true:=zaI (by omega)
 have a3:Ze l.length 3 1=true:=zaI (by omega)
 have a4:Ze l.length 4 1=true:=zaI (by omega)
 have a80:(128+n%64)<256:=by omega
 have m80:(128+n / 64%64)<256:=by omega
 have k80:(128+n / 4096%64)<256:=by omega
 unfold ZJ ZP zd2
 simp only[zfa (show n<2147483648 by omega),zsJ (show n<2147483648 by omega),ze,shr6,zBs,zBt,zr8,Zm a80,Zm m80,Zm k80,Option.bind_some]
 by_cases h1:n<128
 ·rw[decide_eq_true (by omega),cond_true,zk8,Zm (by omega),Option.bind_some,zw a1,if_neg (by omega),if_pos h1,Nat.mod_eq_of_lt (by omega)]
 ·rw[decide_eq_false (by omega),cond_false]
  by_cases h2:n<2048
  ·rw[decide_eq_true (by omega),cond_true,zBb (by omega),Zm (by omega)]
   simp only[Option.bind_some]
   rw[zw a2,if_neg (by omega),if_neg (by omega),if_pos h2]
   rfl
  ·rw[decide_eq_false (by omega),cond_false]
   by_cases h3:n<55296
   ·rw[decide_eq_true (by omega),cond_true,zg]
    simp only[cond_true]
    rw[zxN (by omega),Zm (by omega)]
    simp only[Option.bind_some]
    rw[zw a3,if_neg (by omega),if_neg (by omega),if_neg (by omega),if_pos (by omega)]
    rfl
   ·rw[decide_eq_false (by omega),cond_false,zg]
    simp only[zyq]
    by_cases h4:57343<n∧n<65536
    ·rw[decide_eq_true (by omega),decide_eq_true (by omega),Bool.and_true,cond_true,zxN (by omega),Zm (by omega)]
     simp only[Option.bind_some]
     rw[zw a3,if_neg (by omega),if_neg (by omega),if_neg (by omega),if_pos (by omega)]
     rfl
    ·rw[show(decide ((57343:Int)<(n:Int))&&decide ((n:Int)≤65535))=false by rw[Bool.and_eq_false_iff];simp only[decide_eq_false_iff_not];omega,cond_false]
     by_cases h5:65535<n∧n≤1114111
     ·rw[decide_eq_true (by omega),decide_eq_true (by omega),Bool.and_true,cond_true,zBc (by omega),Zm (by omega)]
      simp only[Option.bind_some]
      rw[zw a4,if_neg (by omega),if_neg (by omega),if_neg (by omega),if_neg (by omega)]
      rfl
     ·rw[show(decide ((n:Int)>65535)&&decide ((n:Int)≤1114111))=false by rw[Bool.and_eq_false_iff];simp only[decide_eq_false_iff_not];omega,cond_false,zw a3,if_pos (by omega)]
      rfl
theorem zpU{l:Str}(hl:l.length≤1000000000):ZJ (65533,l)=some (l++zpa):=by
 have h:=zBq (n:=65533) (by omega) (by omega) hl
 rw[zfa (by omega)]at h
 exact h
end Go.Lv.VT

namespace Go.Lv.VT
set_option maxRecDepth 100000
theorem zan{s:Str}{c:UInt8}{l:Str}(h:c::l<:+s):l<:+s:=(List.suffix_cons c l).trans h
theorem zgu{s:Str}{c:UInt8}{l:Str}(hs:s.length≤big)(h:c::l<:+s):w64 ((beh s (c::l):Int)+1)=(beh s l:Int):=by
 have hb:big=4194304:=rfl
 have h1:=h.length_le
 rw[List.length_cons]at h1
 have e:beh s (c::l)+1=beh s l:=by unfold beh;rw[List.length_cons];omega
 have:=zee s l
 rw[zV (by omega) (by omega)];omega
theorem zgp(c:UInt8)(l:Str):pk (c::l) 0=(c.toNat:Int):=rfl
theorem zgA(c:UInt8):Zl (wu8 ((c.toNat:Nat):Int))=some c:=by
 rw[zk8,Nat.mod_eq_of_lt (UInt8.toNat_lt c),Zm (UInt8.toNat_lt c),UInt8.ofNat_toNat]
theorem zm5{b:UInt8}(h:qH b=true):hexN b<16:=of_decide_eq_true h
theorem zyM{n d:Nat}(hn:n<16777216)(hd:d<16):ibOr .i64 (zuZ .i64 (n:Int) 4) (d:Int)=((16*n+d:Nat):Int):=by
 have h1:zuZ .i64 (n:Int) 4=((16*n:Nat):Int):=by
  unfold zuZ
  rw[show(2:Int) ^ (min (4:Int).toNat IntKind.i64.bits)=16 from rfl]
  rw[zhB (by omega) (by omega)];omega
 rw[h1]
 unfold ibOr
 have e:(BitVec.ofInt IntKind.i64.bits ((16*n:Nat):Int) ||| BitVec.ofInt IntKind.i64.bits (d:Int)).toNat=16*n+d:=by
  rw[BitVec.toNat_or,BitVec.toNat_ofInt,BitVec.toNat_ofInt]
  rw[show((((16*n:Nat):Int)%((2 ^ IntKind.i64.bits:Nat):Int)).toNat)=16*n by show(((16*n:Nat):Int)%18446744073709551616).toNat=_;omega,
   show(((d:Int)%((2 ^ IntKind.i64.bits:Nat):Int)).toNat)=d by show((d:Int)%18446744073709551616).toNat=_;omega]
  have:=Nat.two_pow_add_eq_or_of_lt (i:=4) (b:=d) hd n
  rw[show 2 ^ 4*n=16*n from rfl]at this
  exact this.symm
 rw[e,zhB (by omega) (by omega)]
theorem zi4(b:UInt8):decide (hexI b<0)= !qH b:=by
 unfold hexI
 cases qH b with
 |true=>simp only[if_true];exact decide_eq_false (by omega)
 |false=>rfl
theorem zqM: ∀(k n:Nat) (l:Str),qH (atS l 0)=false→hexes k n l=(n,l)
 |0,_,_,_=>rfl
 |_+1,_,[],_=>rfl
 |k+1,n,c::r,h=>by unfold hexes;rw[if_neg (by rw[show qH c=false from h];decide)]
theorem zrP {R:Type} {step:(Int×Int)×za→Option (LO ((Int×Int)×za) (Int×za) R)} {s l:Str} (hl:l<:+s)
  (h: ∀(n i:Nat) (q:Str),q<:+s→n<16777216→i≤6→step (((n:Int),(i:Int)),sr s q)=some (bif decide (i<6)&&qH (atS q 0)then .again ((((16*n+hexN (atS q 0):Nat):Int),((i+1:Nat):Int)),sr s (q.drop 1))else .out ((n:Int),sr s q))):
  zdM step ((0,0),sr s l)=some (.out (((hexes 6 0 l).1:Int),sr s (hexes 6 0 l).2)):=by
 refine qN (fun z=> ∃(n i:Nat) (q:Str),z=(((n:Int),(i:Int)),sr s q)∧q<:+s∧i≤6∧n<16 ^ i∧hexes (6 - i) n q=hexes 6 0 l) (fun z=>6 - z.1.2.toNat) _ ?_ ⟨0,0,l,rfl,hl,by omega,by decide,rfl⟩
 rintro _ ⟨n,i,q,rfl,hq,hi,hn,he⟩
 have hn':n<16777216:=Nat.lt_of_lt_of_le hn (Nat.pow_le_pow_right (by omega) hi:16 ^ i≤16 ^ 6)
 rw[h n i q hq hn' hi]
 rcases Nat.lt_or_ge i 6 with hlt|hge
 ·rw[decide_eq_true hlt,Bool.true_and]
  cases hx:qH (atS q 0)with
  |true=>
   cases q with
   |nil=>exact absurd hx (by decide)
   |cons c r=>
    have hd:=zm5 hx
    refine .inl ⟨_,rfl,⟨16*n+hexN (atS (c::r) 0),i+1,r,rfl,zan hq,by omega,?_,?_⟩,by simp only[Int.toNat_natCast];omega⟩
    ·rw[Nat.pow_succ];omega
    ·rw[←he,show 6 - i=(6 - (i+1))+1 by omega]
     rw[hexes.eq_def ((6 - (i+1))+1) n (c::r)]
     simp only
     rw[if_pos (show qH c=true from hx)]
     rfl
  |false=>
   refine .inr (.inl ⟨_,rfl,?_⟩)
   rw[←he,zqM _ _ _ hx]
 ·rw[decide_eq_false (by omega),Bool.false_and]
  refine .inr (.inl ⟨_,rfl,?_⟩)
  rw[←he,show 6 - i=0 by omega]
  rfl
theorem zm6: ∀(k n:Nat) (l:Str),(hexes k n l).1<16 ^ k*(n+1)
 |0,n,l=>by unfold hexes;omega
 |k+1,n,[]=>by
  have:0<16 ^ (k+1):=Nat.pow_pos (by omega)
  unfold hexes
  exact Nat.lt_of_lt_of_le (Nat.lt_succ_self n) (Nat.le_mul_of_pos_left _ this)
 |k+1,n,c::r=>by
  unfold hexes
  cases hx:qH c with
  |true=>
   rw[if_pos rfl]
   have h1:=zm6 k (16*n+hexN c) r
   have:=zm5 hx
   refine Nat.lt_of_lt_of_le h1 ?_
   rw[Nat.pow_succ,Nat.mul_assoc]
   exact Nat.mul_le_mul_left _ (by omega)
  |false=>
   rw[if_neg (by decide)]
   have:0<16 ^ (k+1):=Nat.pow_pos (by omega)
   exact Nat.lt_of_lt_of_le (Nat.lt_succ_self n) (Nat.le_mul_of_pos_left _ this)
theorem zjY{s l acc:Str}{c:UInt8}(hs:s.length≤big)(hr:c::l<:+s)(ha:acc.length≤1000000000):
  zI (sr s (c::l),acc)=some (sr s (zm l).2,acc++(zm l).1):=by
 have hl:=zan hr
 unfold zI
 simp only[zgu hs hr,ze,zaW hs hl,Option.bind_some,zkE]
 cases l with
 |nil=>
  rw[show([]:Str).isEmpty=true from rfl,cond_true,zpU ha]
  rfl
 |cons d r=>
  rw[show(d::r).isEmpty=false from rfl,cond_false,zx3]
  simp only[Option.bind_some,zi4]
  cases hx:qH (atS (d::r) 0)with
  |false=>
   rw[Bool.not_false,cond_true,zgp,zgA]
   simp only[Option.bind_some,zgu hs hl]
   rw[zw (zaI (by omega))]
   have:zm (d::r)=([d],r):=by show(if qH d then _ else _)=_;rw[if_neg (by rw[show qH d=false from hx];decide)]
   rw[this]
  |true=>
   rw[Bool.not_true,cond_false]
   have he:zm (d::r)=(zd2 (hexes 6 0 (d::r)).1,unsp (hexes 6 0 (d::r)).2):=by show(if qH d then _ else _)=_;rw[if_pos (show qH d=true from hx)]
   rw[he]
   rw[qO (zrP (l:=d::r) hl (fun n i q hq hn hi=> ?_))]
   ·have hq:(hexes 6 0 (d::r)).2<:+s:=(zg1 6 0 _).trans hl
    have hlt:=zm6 6 0 (d::r)
    rw[show 16 ^ 6*(0+1)=16777216 from rfl]at hlt
    simp only[zaW hs hq,Option.bind_some,zkV]
    have hj:(bif spB (atS (hexes 6 0 (d::r)).2 0)then some (LX.out (((hexes 6 0 (d::r)).1:Int),(⟨s,w64 ((beh s (hexes 6 0 (d::r)).2:Int)+1)⟩:za),acc))else some (LX.out (((hexes 6 0 (d::r)).1:Int),sr s (hexes 6 0 (d::r)).2,acc)):Option (LX (Int×za×List UInt8) (za×List UInt8)))
      =some (LX.out (((hexes 6 0 (d::r)).1:Int),sr s (unsp (hexes 6 0 (d::r)).2),acc)):=by
     cases hh:(hexes 6 0 (d::r)).2 with
     |nil=>rfl
     |cons e t=>
      rw[hh]at hq
      rw[show atS (e::t) 0=e from rfl,zgu hs hq]
      show _=some (LX.out (_,sr s (if spB e then t else e::t),acc))
      cases spB e<;>rfl
    rw[hj,zg]
    simp only
    by_cases h0:(hexes 6 0 (d::r)).1=0
    ·rw[h0,show((((0:Nat):Int))==0)=true from rfl,cond_true,zg]
     simp only[zfa (show 65533<2147483648 by omega),show w32 (65533:Int)=65533 from zfa (n:=65533) (by omega),zpU ha,Option.bind_some]
     rfl
    ·rw[show(((hexes 6 0 (d::r)).1:Int)==0)=false by rw[beq_eq_false_iff_ne];omega,cond_false,zg]
     simp only[zBq h0 hlt ha,Option.bind_some]
   ·simp only[zaW hs hq,Option.bind_some,zx3,zi4]
    have hb6:decide ((i:Int)<6)=decide (i<6):=by rw[decide_eq_decide];omega
    rw[hb6]
    cases decide (i<6)with
    |false=>rfl
    |true=>
     rw[cond_true,Bool.true_and]
     cases hx2:qH (atS q 0)with
     |false=>rfl
     |true=>
      cases q with
      |nil=>exact absurd hx2 (by decide)
      |cons e t=>
       have hI:hexI (atS (e::t) 0)=(hexN (atS (e::t) 0):Int):=by unfold hexI;rw[if_pos hx2]
       rw[hI,zyM hn (zm5 hx2),zgu hs hq,zV (by omega) (by omega)]
       rfl
end Go.Lv.VT

namespace Go.Lv.VT
set_option maxRecDepth 100000
theorem zzj{s r:Str}{k:Nat}(hs:s.length≤big)(hr:r<:+s)(hk:k≤4):zo ((k:Int),sr s r)=some (escS (r.drop k)&&decide (k<r.length)):=by
 unfold zo
 simp only[ze,zrh hs hr (show k≤8 by omega),Option.bind_some,zBj]
 rw[show w64 ((k:Int)+1)=((k+1:Nat):Int) by rw[zV (by omega) (by omega)];omega,zrh hs hr (by omega)]
 unfold escS
 rw[Qe,Qe,Nat.add_zero]
 cases h:(atS r k==92)with
 |false=>simp only[zn,cond_false,Option.bind_some,Bool.false_and]
 |true=>
  have hlt:k<r.length:=zsN (by rw[beq_iff_eq.1 h];decide)
  rw[decide_eq_true hlt]
  simp only[zn,cond_true,Option.bind_some,Bool.true_and,Bool.and_true]
  unfold bne
  rw[zzX]
theorem zzi{l:Str}(h:escS l=true):0<l.length:=by
 unfold escS at h
 rw[Bool.and_eq_true]at h
 exact zsN (by rw[beq_iff_eq.1 h.1];decide)
theorem zi2{s r:Str}{k:Nat}(hs:s.length≤big)(hr:r<:+s)(hk:k≤4):zo ((k:Int),sr s r)=some (escS (r.drop k)):=by
 rw[zzj hs hr hk]
 cases h:escS (r.drop k)with
 |false=>rfl
 |true=>
  have:=zzi h
  rw[List.length_drop]at this
  rw[decide_eq_true (by omega)];rfl
theorem zmV{s r:Str}(hs:s.length≤big)(hr:r<:+s):zo (0,sr s r)=some (escS r):=zi2 (k:=0) hs hr (by omega)
theorem zzE{s r:Str}{k:Nat}(hs:s.length≤big)(hr:r<:+s)(hk:k≤2):zB ((k:Int),sr s r)=some (nmS (r.drop k)):=by
 unfold zB
 have hk1:w64 ((k:Int)+1)=((k+1:Nat):Int):=by rw[zV (by omega) (by omega)];omega
 simp only[hk1,ze,zrh hs hr (show k≤8 by omega),zrh hs hr (show k+1≤8 by omega),Option.bind_some,zAe,zi2 hs hr (show k≤4 by omega),zi2 hs hr (show k+1≤4 by omega)]
 unfold nmS
 rw[Qe,Qe,List.drop_drop]
 unfold bne
 rw[zvO,Nat.add_zero]
 cases atS r k==45 with
 |true=>
  simp only[Bool.not_true,cond_false,if_true]
  cases fstB (atS r (k+1))with
  |true=>rfl
  |false=>
   simp only[Bool.not_false,zn,cond_true,cond_false,Option.bind_some,zvO]
   cases atS r (k+1)==45<;>cases escS (r.drop (k+1))<;>rfl
 |false=>
  simp only[Bool.not_false,cond_true]
  cases fstB (atS r k)<;>cases escS (r.drop k)<;>rfl
theorem zyi(n:Nat):(zd2 n).length≤4:=by
 unfold zd2 zpa
 repeat' split
 all_goals simp
theorem zgU(l:Str):(zm l).1.length≤4:=by
 cases l with
 |nil=>show zpa.length≤4;decide
 |cons c r=>
  show(if qH c then(zd2 (hexes 6 0 (c::r)).1,unsp (hexes 6 0 (c::r)).2)else([c],r)).1.length≤4
  split
  ·exact zyi _
  ·show 1≤4;omega
theorem zC(c:UInt8)(r:Str):zl (c::r)=if letB c then((c::(zl r).1),(zl r).2)
  else if escS (c::r)then((zm r).1++(zl (zm r).2).1,(zl (zm r).2).2)
  else([],c::r):=by rw[zl]
theorem qz:zl []=([],[]):=by rw[zl]
theorem zBk(l:Str):(pk l 0 != -1)= !l.isEmpty:=by unfold bne;rw[zkE]
theorem zyk{s r:Str}(hs:s.length≤big)(hr:r<:+s):zG (sr s r)=some ((zl r).1,sr s (zl r).2):=by
 have hb:big=4194304:=rfl
 unfold zG
 refine zkj (r:=((zl r).1,sr s (zl r).2)) ?_
 refine qN (fun z=> ∃(q acc:Str),z=(sr s q,acc)∧q<:+s∧acc.length+4*q.length≤4*s.length∧acc++(zl q).1=(zl r).1∧(zl q).2=(zl r).2) (fun z=>s.length - z.1.at_.toNat) _ ?_ ⟨r,[],rfl,hr,by have:=hr.length_le;rw[List.length_nil];omega,rfl,rfl⟩
 rintro _ ⟨q,acc,rfl,hq,hl,he1,he2⟩
 simp only[ze,zaW hs hq,Option.bind_some,zst]
 cases q with
 |nil=>
  refine .inr (.inr ⟨_,rfl,?_⟩)
  rw[qz]at he1 he2
  rw[←he1,←he2,List.append_nil]
 |cons c t=>
  have hlen:=hq.length_le
  rw[List.length_cons]at hlen hl
  rw[show atS (c::t) 0=c from rfl]
  rw[zC]at he1 he2
  cases hlet:letB c with
  |true=>
   rw[hlet,if_pos rfl]at he1 he2
   refine .inl ⟨(sr s t,acc++[c]),?_,⟨t,acc++[c],rfl,zan hq,by rw[List.length_append,List.length_singleton];omega,by rw[←he1,List.append_assoc];rfl,he2⟩,?_⟩
   ·rw[cond_true,zgp,zgA]
    simp only[Option.bind_some]
    rw[zw (zaI (by omega)),zgu hs hq]
   ·show s.length - beh s t<s.length - beh s (c::t)
    unfold beh;rw[List.length_cons];omega
  |false=>
   rw[hlet,if_neg (by decide)]at he1 he2
   rw[cond_false,zBk,show(c::t).isEmpty=false from rfl,zmV hs hq]
   cases hesc:escS (c::t)with
   |true=>
    rw[hesc,if_pos rfl]at he1 he2
    have h4:=zgU t
    have h5:=zD t
    refine .inl ⟨(sr s (zm t).2,acc++(zm t).1),?_,⟨_,_,rfl,(ZE t).trans (zan hq),by rw[List.length_append];omega,by rw[←he1,List.append_assoc],he2⟩,?_⟩
    ·simp only[Bool.not_false,zn,cond_true,Option.bind_some,zjY hs hq (show acc.length≤1000000000 by omega)]
    ·show s.length - beh s (zm t).2<s.length - beh s (c::t)
     unfold beh;rw[List.length_cons];omega
   |false=>
    rw[hesc,if_neg (by decide)]at he1 he2
    refine .inr (.inr ⟨_,rfl,?_⟩)
    rw[←he1,←he2,List.append_nil]
theorem zaT(l:Str):(zl l).2<:+l:=by
 match l with
 |[]=>rw[qz];exact List.suffix_refl _
 |c::r=>
  rw[zC]
  split
  ·exact(zaT r).trans (List.suffix_cons c r)
  ·split
   ·have:=zD r
    exact(zaT (zm r).2).trans ((ZE r).trans (List.suffix_cons c r))
   ·exact List.suffix_refl _
termination_by l.length
decreasing_by
 all_goals first|(have:=zD r;simp only[List.length_cons];omega)|(simp only[List.length_cons];omega)
end Go.Lv.VT
