/- Laws for the plain texts: loops that look for something; bytes. -/
import Derived.Test.YtnfhfeipljhciaaGreatDoorLf
import Derived.Test.YtnfhfeipljhciaaGreatDoorTx
set_option linter.unusedSimpArgs false
set_option linter.unusedVariables false
namespace Go.Lv.VT
abbrev big:Nat:=4194304
theorem zgj{i n:Nat}(h:i<n):decide ((i:Int)<(n:Int))=true:=decide_eq_true (by omega)
theorem zkm(n:Nat):decide ((n:Int)<(n:Int))=false:=decide_eq_false (by omega)
theorem zcN{i n:Nat}(h:i<n)(hn:n≤big):w64 ((i:Int)+1)=((i+1:Nat):Int):=by
 rw[w64,zhB (by omega) (by unfold big at hn;omega)];omega
theorem QS{α:Type}(b:Bool)(v d:α):zn b (some v) d=some (bif b then v else d):=by cases b<;>rfl
theorem zl9 {α X R:Type} {step:Int→Option (LO Int X R)} {k:X→Option R} (l:List α) (q:α→Option R) (x:X)
  (hg: ∀(i:Nat) (h:i<l.length),step (i:Int)=some (match q l[i]with|some r=> .ret r|none=> .again ((i+1:Nat):Int)))
  (hf:step (l.length:Int)=some (.out x)):ZF step 0 k=match l.findSome? q with|some r=>some r|none=>k x:=by
 have key: ∀(m:List α) (i:Nat),l.drop i=m→i≤l.length→ ∃n,Q6 step n (i:Int)=some (match m.findSome? q with|some r=> .ret r|none=> .out x):=by
  intro m
  induction m with
  |nil=>
   intro i hd hi
   have:i=l.length:=by have:=List.drop_eq_nil_iff.1 hd;omega
   subst this
   exact⟨1,by simp only[Q6,hf,List.findSome?_nil]⟩
  |cons v m ih=>
   intro i hd hi
   have hlt:i<l.length:=by
    rcases Nat.lt_or_ge i l.length with h|h
    ·exact h
    ·rw[List.drop_eq_nil_of_le h]at hd;cases hd
   have hv:l[i]=v:=by
    have:=List.drop_eq_getElem_cons hlt
    rw[hd]at this
    injection this with h1 _
    exact h1.symm
   have hs:=hg i hlt
   rw[hv]at hs
   cases hq:q v with
   |some r=>
    rw[hq]at hs
    exact⟨1,by simp only[Q6,hs,List.findSome?_cons,hq]⟩
   |none=>
    rw[hq]at hs
    obtain⟨n,hn⟩:=ih (i+1) (by rw[List.drop_eq_getElem_cons hlt]at hd;injection hd) (by omega)
    refine⟨n+1,?_⟩
    simp only[Q6,hs,List.findSome?_cons,hq]
    exact hn
 obtain⟨n,hn⟩:=key l 0 rfl (by omega)
 replace hn:Q6 step n 0=_:=hn
 rw[zdO (zdN hn)]
 cases l.findSome? q<;>rfl
theorem zmW{α R:Type}(p:α→Bool)(r:R): ∀(l:List α),l.findSome? (fun v=>bif p v then none else some r)=bif l.all p then none else some r
 |[]=>rfl
 |v::l=>by
  rw[List.findSome?_cons,List.all_cons]
  cases p v with
  |false=>rfl
  |true=>exact zmW p r l
end Go.Lv.VT

namespace Go.Lv.VT
set_option maxRecDepth 100000
def Zx(n:Nat)(x:Int):Option Bool:=
 some (bif decide (x≥48)then decide (x≤57)else false)
theorem ZN(n:Nat)(x:Int):Le (Zx n x) (zS x):=by
 unfold Zx zS
 exact .rfl
def QX(n:Nat)(x:Int):Option Bool:=
 some (bif bif x==10 then true else x==9 then true else x==32)
theorem zbn(n:Nat)(x:Int):Le (QX n x) (ql x):=by
 unfold QX ql
 exact .rfl
def zP(n:Nat)(x:Str×Int):Option Int:=
 bif decide (x.2<(x.1.length:Int))then
  ze (geti x.1 x.2) fun y1=>
  some (y1.toNat:Int)
 else
  some 0
theorem zH(n:Nat)(x:Str×Int):Le (zP n x) (zO x):=by
 unfold zP zO
 exact(.bif (.bind .rfl fun _=> .rfl) .rfl)
def Qv(n:Nat)(x:Str×Int):Option Int:=
 zgi n (fun(s1:Int)=>
   ze (zP n (x.1,s1)) fun y2=>
   ze (QX n y2) fun y3=>
   bif y3 then
    some (LO.again (w64 (s1+1)))
   else
    some (LO.out s1):Int→Option (LO (Int) (Int) _)) x.2 fun o4=>
 some o4
theorem zaQ(n:Nat)(x:Str×Int):Le (Qv n x) (qc x):=by
 unfold Qv qc
 exact(.loop (fun _=>(.bind (zH n _) fun _=>(.bind (zbn n _) fun _=>(.bif .rfl .rfl)))) fun _=> .rfl)
def zcI(n:Nat)(x:Unit):Option Str:=
 some [(239:UInt8),(191:UInt8),(189:UInt8)]
theorem zg7(n:Nat)(x:Unit):Le (zcI n x) (zbi x):=by
 unfold zcI zbi
 exact .rfl
def zaX(n:Nat)(x:Int):Option Int:=
 bif bif decide (x≥65)then decide (x≤90)else false then
  some (wu8 (wu8 (x - 65)+97))
 else
  some x
theorem zcW(n:Nat)(x:Int):Le (zaX n x) (qj x):=by
 unfold zaX qj
 exact(.bif .rfl .rfl)
def zcr(n:Nat)(x:Int):Option Int:=
 ze (Zx n x) fun y1=>
 bif y1 then
  some (w64 (wu8 (x - 48)))
 else
  ze (zaX n x) fun y2=>
  bif bif decide (y2≥97)then decide (y2≤102)else false then
   some (w64 (w64 (wu8 (y2 - 97))+10))
  else
   some (-1)
theorem zeC(n:Nat)(x:Int):Le (zcr n x) (zcq x):=by
 unfold zcr zcq
 exact(.bind (ZN n _) fun _=>(.bif .rfl (.bind (zcW n _) fun _=>(.bif .rfl .rfl))))
def zeT(n:Nat)(x:Int):Option Str:=
 bif bif bif x==0 then true else bif decide (x≥55296)then decide (x≤57343)else false then true else decide (x>1114111)then
  ze (zcI n ()) fun y1=>
  some y1
 else
  bif decide (x<128)then
   ze (Zl (wu8 x)) fun y2=>
   some [y2]
  else
   bif decide (x<2048)then
    ze (Zl (wu8 (w64 (192+w64 (Int.tdiv x 64))))) fun y3=>
    ze (Zl (wu8 (w64 (128+Int.tmod x 64)))) fun y4=>
    some [y3,y4]
   else
    bif decide (x<65536)then
     ze (Zl (wu8 (w64 (224+w64 (Int.tdiv x 4096))))) fun y5=>
     ze (Zl (wu8 (w64 (128+Int.tmod (w64 (Int.tdiv x 64)) 64)))) fun y6=>
     ze (Zl (wu8 (w64 (128+Int.tmod x 64)))) fun y7=>
     some [y5,y6,y7]
    else
     ze (Zl (wu8 (w64 (240+w64 (Int.tdiv x 262144))))) fun y8=>
     ze (Zl (wu8 (w64 (128+Int.tmod (w64 (Int.tdiv x 4096)) 64)))) fun y9=>
     ze (Zl (wu8 (w64 (128+Int.tmod (w64 (Int.tdiv x 64)) 64)))) fun y10=>
     ze (Zl (wu8 (w64 (128+Int.tmod x 64)))) fun y11=>
     some [y8,y9,y10,y11]
theorem zne(n:Nat)(x:Int):Le (zeT n x) (zdl x):=by
 unfold zeT zdl
 exact(.bif (.bind (zg7 n _) fun _=> .rfl) (.bif (.bind .rfl fun _=> .rfl) (.bif (.bind .rfl fun _=>(.bind .rfl fun _=> .rfl)) (.bif (.bind .rfl fun _=>(.bind .rfl fun _=>(.bind .rfl fun _=> .rfl))) (.bind .rfl fun _=>(.bind .rfl fun _=>(.bind .rfl fun _=>(.bind .rfl fun _=> .rfl))))))))
def qQ(n:Nat)(x:Str×Int):Option (Str×Int):=
 bif decide (w64 (x.2+1)≥(x.1.length:Int))then
  ze (zcI n ()) fun y1=>
  some (y1,w64 (x.2+1))
 else
  ze (geti x.1 (w64 (x.2+1))) fun y2=>
  ze (zcr n (y2.toNat:Int)) fun y3=>
  bif decide (y3<0)then
   need (decide (0≤w64 (x.2+1))&&(decide (w64 (x.2+1)≤w64 (w64 (x.2+1)+1))&&decide (w64 (w64 (x.2+1)+1)≤(x.1.length:Int))))<|
   some (List.drop (w64 (x.2+1)).toNat (List.take (w64 (w64 (x.2+1)+1)).toNat x.1),w64 (w64 (x.2+1)+1))
  else
   zgi n (fun(s4:Int×Int)=>
     ze (zn (bif decide (s4.2<(x.1.length:Int))then decide (s4.2<w64 (w64 (x.2+1)+6))else false) (geti x.1 s4.2) 0) fun y5=>
     ze (zn (bif decide (s4.2<(x.1.length:Int))then decide (s4.2<w64 (w64 (x.2+1)+6))else false) (zcr n (y5.toNat:Int)) (default:Int)) fun y6=>
     bif bif bif decide (s4.2<(x.1.length:Int))then decide (s4.2<w64 (w64 (x.2+1)+6))else false then decide (y6≥0)else false then
      ze (geti x.1 s4.2) fun y7=>
      ze (zcr n (y7.toNat:Int)) fun y8=>
      some (LO.again (w64 (w64 (16*s4.1)+y8),w64 (s4.2+1)))
     else
      some (LO.out (s4.1,s4.2)):Int×Int→Option (LO (Int×Int) (Int×Int) _)) (0,w64 (x.2+1)) fun o9=>
   zU (X:=Int) (
     ze (zP n (x.1,o9.2)) fun y10=>
     ze (QX n y10) fun y11=>
     bif y11 then
      some (LX.out (w64 (o9.2+1)))
     else
      some (LX.out o9.2)) fun j12=>
   ze (zeT n o9.1) fun y13=>
   some (y13,j12)
theorem zal(n:Nat)(x:Str×Int):Le (qQ n x) (Zy x):=by
 unfold qQ Zy
 exact(.bif (.bind (zg7 n _) fun _=> .rfl) (.bind .rfl fun _=>(.bind (zeC n _) fun _=>(.bif (.need .rfl) (.loop (fun _=>(.bind .rfl fun _=>(.bind (.cond (zeC n _)) fun _=>(.bif (.bind .rfl fun _=>(.bind (zeC n _) fun _=> .rfl)) .rfl)))) fun _=>(.join (.bind (zH n _) fun _=>(.bind (zbn n _) fun _=>(.bif .rfl .rfl))) fun _=>(.bind (zne n _) fun _=> .rfl)))))))
def zc3(n:Nat)(x:Str×Int):Option (zb×Int):=
 ze (geti x.1 x.2) fun y1=>
 zgi n (fun(s2:Int×zb×zb)=>
   bif decide (s2.1<(x.1.length:Int))then
    ze (geti x.1 s2.1) fun y3=>
    bif (y3.toNat:Int)==(y1.toNat:Int)then
     some (LO.ret (s2.2.2,w64 (s2.1+1)))
    else
     ze (geti x.1 s2.1) fun y4=>
     bif (y4.toNat:Int)==10 then
      some (LO.ret ((⟨6,[],0,[],false⟩:zb),s2.1))
     else
      ze (geti x.1 s2.1) fun y5=>
      bif bif (y5.toNat:Int)==92 then w64 (s2.1+1)==(x.1.length:Int)else false then
       some (LO.again (w64 (s2.1+1),s2.2.1,s2.2.2))
      else
       ze (geti x.1 s2.1) fun y6=>
       ze (zn ((y6.toNat:Int)==92) (geti x.1 (w64 (s2.1+1))) 0) fun y7=>
       bif bif (y6.toNat:Int)==92 then(y7.toNat:Int)==10 else false then
        some (LO.again (w64 (s2.1+2),s2.2.1,s2.2.2))
       else
        ze (geti x.1 s2.1) fun y8=>
        bif (y8.toNat:Int)==92 then
         ze (qQ n (x.1,s2.1)) fun y9=>
         need (zbY s2.2.2.text.length y9.1.length)<|
         some (LO.again (y9.2,s2.2.1,(⟨s2.2.2.kind,s2.2.2.text++y9.1,s2.2.2.num,s2.2.2.unit,s2.2.2.flag⟩:zb)))
        else
         need (decide (0≤s2.1)&&(decide (s2.1≤w64 (s2.1+1))&&decide (w64 (s2.1+1)≤(x.1.length:Int))))<|
         need (zbY s2.2.2.text.length (List.drop s2.1.toNat (List.take (w64 (s2.1+1)).toNat x.1)).length)<|
         some (LO.again (w64 (s2.1+1),s2.2.1,(⟨s2.2.2.kind,s2.2.2.text++List.drop s2.1.toNat (List.take (w64 (s2.1+1)).toNat x.1),s2.2.2.num,s2.2.2.unit,s2.2.2.flag⟩:zb)))
   else
    some (LO.out (s2.1,s2.2.1,s2.2.2)):Int×zb×zb→Option (LO (Int×zb×zb) (Int×zb×zb) _)) (w64 (x.2+1),(⟨0,[],0,[],false⟩:zb),(⟨5,[],0,[],false⟩:zb)) fun o10=>
 some (o10.2.2,o10.1)
theorem zkc(n:Nat)(x:Str×Int):Le (zc3 n x) (zbw x):=by
 unfold zc3 zbw
 exact(.bind .rfl fun _=>(.loop (fun _=>(.bif (.bind .rfl fun _=>(.bif .rfl (.bind .rfl fun _=>(.bif .rfl (.bind .rfl fun _=>(.bif .rfl (.bind .rfl fun _=>(.bind .rfl fun _=>(.bif .rfl (.bind .rfl fun _=>(.bif (.bind (zal n _) fun _=>(.need .rfl)) (.need (.need .rfl))))))))))))) .rfl)) fun _=> .rfl))
def zaf(n:Nat)(x:Int):Option Bool:=
 ze (zaX n x) fun y1=>
 some (bif bif bif decide (y1≥97)then decide (y1≤122)else false then true else x==95 then true else decide (x≥128))
theorem zcl(n:Nat)(x:Int):Le (zaf n x) (Qb x):=by
 unfold zaf Qb
 exact(.bind (zcW n _) fun _=> .rfl)
def zbq(n:Nat)(x:Int):Option Bool:=
 ze (zaf n x) fun y1=>
 ze (zn (!y1) (Zx n x) (default:Bool)) fun y2=>
 some (bif bif y1 then true else y2 then true else x==45)
theorem zeD(n:Nat)(x:Int):Le (zbq n x) (QL x):=by
 unfold zbq QL
 exact(.bind (zcl n _) fun _=>(.bind (.cond (ZN n _)) fun _=> .rfl))
def qb(n:Nat)(x:Str×Int):Option Bool:=
 ze (zP n (x.1,x.2)) fun y1=>
 ze (zn (y1==92) (zP n (x.1,w64 (x.2+1))) (default:Int)) fun y2=>
 some (bif y1==92 then y2 != 10 else false)
theorem qM(n:Nat)(x:Str×Int):Le (qb n x) (Zj x):=by
 unfold qb Zj
 exact(.bind (zH n _) fun _=>(.bind (.cond (zH n _)) fun _=> .rfl))
def QW(n:Nat)(x:Str×Int):Option (Str×Int):=
 zgi n (fun(s1:Int×Str)=>
   ze (zn (decide (s1.1<(x.1.length:Int))) (geti x.1 s1.1) 0) fun y2=>
   ze (zn (decide (s1.1<(x.1.length:Int))) (zbq n (y2.toNat:Int)) (default:Bool)) fun y3=>
   bif bif decide (s1.1<(x.1.length:Int))then y3 else false then
    need (decide (0≤s1.1)&&(decide (s1.1≤w64 (s1.1+1))&&decide (w64 (s1.1+1)≤(x.1.length:Int))))<|
    need (zbY s1.2.length (List.drop s1.1.toNat (List.take (w64 (s1.1+1)).toNat x.1)).length)<|
    some (LO.again (w64 (s1.1+1),s1.2++List.drop s1.1.toNat (List.take (w64 (s1.1+1)).toNat x.1)))
   else
    ze (zn (decide (s1.1<(x.1.length:Int))) (qb n (x.1,s1.1)) (default:Bool)) fun y4=>
    bif bif decide (s1.1<(x.1.length:Int))then y4 else false then
     ze (qQ n (x.1,s1.1)) fun y5=>
     need (zbY s1.2.length y5.1.length)<|
     some (LO.again (y5.2,s1.2++y5.1))
    else
     some (LO.ret (s1.2,s1.1)):Int×Str→Option (LO (Int×Str) (Unit) _)) (x.2,[]) fun o6=>
 none
theorem zbm(n:Nat)(x:Str×Int):Le (QW n x) (qG x):=by
 unfold QW qG
 exact(.loop (fun _=>(.bind .rfl fun _=>(.bind (.cond (zeD n _)) fun _=>(.bif (.need (.need .rfl)) (.bind (.cond (qM n _)) fun _=>(.bif (.bind (zal n _) fun _=>(.need .rfl)) .rfl)))))) fun _=> .none)
def Qu(n:Nat)(x:Str×Int):Option Bool:=
 ze (zP n (x.1,x.2)) fun y1=>
 bif y1==45 then
  ze (zP n (x.1,w64 (x.2+1))) fun y2=>
  ze (zaf n y2) fun y3=>
  ze (zn (!y3) (zP n (x.1,w64 (x.2+1))) (default:Int)) fun y4=>
  ze (zn (!(bif y3 then true else y4==45)) (qb n (x.1,w64 (x.2+1))) (default:Bool)) fun y5=>
  some (bif bif y3 then true else y4==45 then true else y5)
 else
  ze (zP n (x.1,x.2)) fun y6=>
  ze (zaf n y6) fun y7=>
  ze (zn (!y7) (qb n (x.1,x.2)) (default:Bool)) fun y8=>
  some (bif y7 then true else y8)
theorem zaP(n:Nat)(x:Str×Int):Le (Qu n x) (qD x):=by
 unfold Qu qD
 exact(.bind (zH n _) fun _=>(.bif (.bind (zH n _) fun _=>(.bind (zcl n _) fun _=>(.bind (.cond (zH n _)) fun _=>(.bind (.cond (qM n _)) fun _=> .rfl)))) (.bind (zH n _) fun _=>(.bind (zcl n _) fun _=>(.bind (.cond (qM n _)) fun _=> .rfl)))))
def zbD(n:Nat)(x:Str×Int):Option Bool:=
 zU (X:=Int) (
   ze (zP n (x.1,x.2)) fun y1=>
   bif bif y1==43 then true else y1==45 then
    some (LX.out (w64 (x.2+1)))
   else
    some (LX.out x.2)) fun j2=>
 zU (X:=Int) (
   ze (zP n (x.1,j2)) fun y3=>
   bif y3==46 then
    some (LX.out (w64 (j2+1)))
   else
    some (LX.out j2)) fun j4=>
 ze (zP n (x.1,j4)) fun y5=>
 ze (Zx n y5) fun y6=>
 some y6
theorem zhS(n:Nat)(x:Str×Int):Le (zbD n x) (zae x):=by
 unfold zbD zae
 exact(.join (.bind (zH n _) fun _=>(.bif .rfl .rfl)) fun _=>(.join (.bind (zH n _) fun _=>(.bif .rfl .rfl)) fun _=>(.bind (zH n _) fun _=>(.bind (ZN n _) fun _=> .rfl))))
def zah(n:Nat)(x:Str×Int):Option Int:=
 zgi n (fun(s1:Int)=>
   ze (zP n (x.1,s1)) fun y2=>
   ze (Zx n y2) fun y3=>
   bif y3 then
    some (LO.again (w64 (s1+1)))
   else
    some (LO.out s1):Int→Option (LO (Int) (Int) _)) x.2 fun o4=>
 some o4
theorem zcm(n:Nat)(x:Str×Int):Le (zah n x) (QN x):=by
 unfold zah QN
 exact(.loop (fun _=>(.bind (zH n _) fun _=>(.bind (ZN n _) fun _=>(.bif .rfl .rfl)))) fun _=> .rfl)
def zbh(n:Nat)(x:Str×Int):Option (Int×Bool):=
 zU (X:=Int) (
   ze (zP n (x.1,x.2)) fun y1=>
   bif bif y1==43 then true else y1==45 then
    some (LX.out (w64 (x.2+1)))
   else
    some (LX.out x.2)) fun j2=>
 ze (zah n (x.1,j2)) fun y3=>
 zU (X:=Int×Bool) (
   ze (zP n (x.1,y3)) fun y4=>
   ze (zn (y4==46) (zP n (x.1,w64 (y3+1))) (default:Int)) fun y5=>
   ze (zn (y4==46) (Zx n y5) (default:Bool)) fun y6=>
   bif bif y4==46 then y6 else false then
    ze (zah n (x.1,w64 (y3+1))) fun y7=>
    some (LX.out (y7,false))
   else
    some (LX.out (y3,true))) fun j8=>
 zU (X:=Int×Bool) (
   ze (zP n (x.1,j8.1)) fun y9=>
   bif bif y9==101 then true else y9==69 then
    zU (X:=Int×Bool×Int) (
      ze (zP n (x.1,w64 (j8.1+1))) fun y10=>
      bif bif y10==43 then true else y10==45 then
       some (LX.out (j8.1,j8.2,w64 (w64 (j8.1+1)+1)))
      else
       some (LX.out (j8.1,j8.2,w64 (j8.1+1)))) fun j11=>
    ze (zP n (x.1,j11.2.2)) fun y12=>
    ze (Zx n y12) fun y13=>
    bif y13 then
     ze (zah n (x.1,j11.2.2)) fun y14=>
     some (LX.out (y14,false))
    else
     some (LX.out (j11.1,j11.2.1))
   else
    some (LX.out (j8.1,j8.2))) fun j15=>
 some (j15.1,j15.2)
theorem zg6(n:Nat)(x:Str×Int):Le (zbh n x) (QM x):=by
 unfold zbh QM
 exact(.join (.bind (zH n _) fun _=>(.bif .rfl .rfl)) fun _=>(.bind (zcm n _) fun _=>(.join (.bind (zH n _) fun _=>(.bind (.cond (zH n _)) fun _=>(.bind (.cond (ZN n _)) fun _=>(.bif (.bind (zcm n _) fun _=> .rfl) .rfl)))) fun _=>(.join (.bind (zH n _) fun _=>(.bif (.join (.bind (zH n _) fun _=>(.bif .rfl .rfl)) fun _=>(.bind (zH n _) fun _=>(.bind (ZN n _) fun _=>(.bif (.bind (zcm n _) fun _=> .rfl) .rfl)))) .rfl)) fun _=> .rfl))))
def zat(n:Nat)(x:Str):Option Int:=
 ze (geti x 0) fun y1=>
 zU (X:=Str×Int×Int) (
   ze (geti x 0) fun y2=>
   bif bif (y2.toNat:Int)==43 then true else(y1.toNat:Int)==45 then
    some (LX.out ([],3,1))
   else
    some (LX.out ([],3,0))) fun j3=>
 zgi n (fun(s4:Str×Int)=>
   ze (zP n (x,s4.2)) fun y5=>
   ze (Zx n y5) fun y6=>
   bif y6 then
    need (decide (0≤s4.2)&&(decide (s4.2≤w64 (s4.2+1))&&decide (w64 (s4.2+1)≤(x.length:Int))))<|
    need (zbY s4.1.length (List.drop s4.2.toNat (List.take (w64 (s4.2+1)).toNat x)).length)<|
    some (LO.again (s4.1++List.drop s4.2.toNat (List.take (w64 (s4.2+1)).toNat x),w64 (s4.2+1)))
   else
    some (LO.out (s4.1,s4.2)):Str×Int→Option (LO (Str×Int) (Str×Int) _)) (j3.1,j3.2.2) fun o7=>
 zU (X:=Str×Int×Int) (
   ze (zP n (x,o7.2)) fun y8=>
   bif y8==46 then
    zgi n (fun(s9:Str×Int×Int)=>
      ze (zP n (x,s9.2.2)) fun y10=>
      ze (Zx n y10) fun y11=>
      bif y11 then
       need (decide (0≤s9.2.2)&&(decide (s9.2.2≤w64 (s9.2.2+1))&&decide (w64 (s9.2.2+1)≤(x.length:Int))))<|
       need (zbY s9.1.length (List.drop s9.2.2.toNat (List.take (w64 (s9.2.2+1)).toNat x)).length)<|
       some (LO.again (s9.1++List.drop s9.2.2.toNat (List.take (w64 (s9.2.2+1)).toNat x),w64 (s9.2.1 - 1),w64 (s9.2.2+1)))
      else
       some (LO.out (s9.1,s9.2.1,s9.2.2)):Str×Int×Int→Option (LO (Str×Int×Int) (Str×Int×Int) _)) (o7.1,j3.2.1,w64 (o7.2+1)) fun o12=>
    some (LX.out (o12.1,o12.2.1,o12.2.2))
   else
    some (LX.out (o7.1,j3.2.1,o7.2))) fun j13=>
 zU (X:=Int) (
   bif decide (j13.2.2<(x.length:Int))then
    ze (geti x (w64 (j13.2.2+1))) fun y14=>
    zU (X:=Int×Int) (
      ze (geti x (w64 (j13.2.2+1))) fun y15=>
      bif bif (y15.toNat:Int)==43 then true else(y14.toNat:Int)==45 then
       some (LX.out (j13.2.1,w64 (w64 (j13.2.2+1)+1)))
      else
       some (LX.out (j13.2.1,w64 (j13.2.2+1)))) fun j16=>
    zgi n (fun(s17:Int×Int)=>
      bif decide (s17.1<(x.length:Int))then
       ze (geti x s17.1) fun y18=>
       some (LO.again (w64 (s17.1+1),if w64 (w64 (10*s17.2)+w64 (wu8 ((y18.toNat:Int) - 48)))<10000 then w64 (w64 (10*s17.2)+w64 (wu8 ((y18.toNat:Int) - 48)))else 10000))
      else
       some (LO.out s17.2):Int×Int→Option (LO (Int×Int) (Int) _)) (j16.2,0) fun o19=>
    zU (X:=Int×Int) (
      bif (y14.toNat:Int)==45 then
       some (LX.out (j16.1,w64 (0 - o19)))
      else
       some (LX.out (j16.1,o19))) fun j20=>
    some (LX.out (w64 (j20.1+j20.2)))
   else
    some (LX.out j13.2.1)) fun j21=>
 zgi n (fun(s22:Int×Int)=>
   bif bif decide (s22.2<w64 ((j13.1.length:Int)+j21))then decide (s22.2<(j13.1.length:Int))else false then
    ze (geti j13.1 s22.2) fun y23=>
    some (LO.again (if w64 (w64 (10*s22.1)+w64 (wu8 ((y23.toNat:Int) - 48)))<1000000000000 then w64 (w64 (10*s22.1)+w64 (wu8 ((y23.toNat:Int) - 48)))else 1000000000000,w64 (s22.2+1)))
   else
    some (LO.out s22.1):Int×Int→Option (LO (Int×Int) (Int) _)) (0,0) fun o24=>
 zgi n (fun(s25:Int×Int)=>
   bif bif bif decide (s25.1>0)then decide (s25.2>0)else false then decide (s25.2<1000000000000)else false then
    some (LO.again (w64 (s25.1 - 1),if w64 (10*s25.2)<1000000000000 then w64 (10*s25.2)else 1000000000000))
   else
    some (LO.out s25.2):Int×Int→Option (LO (Int×Int) (Int) _)) (j21,o24) fun o26=>
 bif (y1.toNat:Int)==45 then
  some (w64 (0 - o26))
 else
  some o26
theorem zfy(n:Nat)(x:Str):Le (zat n x) (qR x):=by
 unfold zat qR
 exact(.bind .rfl fun _=>(.join (.bind .rfl fun _=>(.bif .rfl .rfl)) fun _=>(.loop (fun _=>(.bind (zH n _) fun _=>(.bind (ZN n _) fun _=>(.bif (.need (.need .rfl)) .rfl)))) fun _=>(.join (.bind (zH n _) fun _=>(.bif (.loop (fun _=>(.bind (zH n _) fun _=>(.bind (ZN n _) fun _=>(.bif (.need (.need .rfl)) .rfl)))) fun _=> .rfl) .rfl)) fun _=>(.join (.bif (.bind .rfl fun _=>(.join (.bind .rfl fun _=>(.bif .rfl .rfl)) fun _=>(.loop (fun _=>(.bif (.bind .rfl fun _=> .rfl) .rfl)) fun _=>(.join (.bif .rfl .rfl) fun _=> .rfl)))) .rfl) fun _=>(.loop (fun _=>(.bif (.bind .rfl fun _=> .rfl) .rfl)) fun _=>(.loop (fun _=>(.bif .rfl .rfl)) fun _=>(.bif .rfl .rfl))))))))
def zcs(n:Nat)(x:Str×Int):Option (zb×Int):=
 ze (zbh n (x.1,x.2)) fun y1=>
 need (decide (0≤x.2)&&(decide (x.2≤y1.1)&&decide (y1.1≤(x.1.length:Int))))<|
 ze (zat n (List.drop x.2.toNat (List.take y1.1.toNat x.1))) fun y2=>
 zU (X:=Int×zb×zb) (
   ze (Qu n (x.1,y1.1)) fun y3=>
   bif y3 then
    ze (QW n (x.1,y1.1)) fun y4=>
    some (LX.out (y4.2,(⟨0,[],0,[],false⟩:zb),(⟨12,[],y2,y4.1,y1.2⟩:zb)))
   else
    ze (zP n (x.1,y1.1)) fun y5=>
    bif y5==37 then
     some (LX.out (w64 (y1.1+1),(⟨0,[],0,[],false⟩:zb),(⟨11,[],y2,[],false⟩:zb)))
    else
     some (LX.out (y1.1,(⟨0,[],0,[],false⟩:zb),(⟨10,[],y2,[],y1.2⟩:zb)))) fun j6=>
 some (j6.2.2,j6.1)
theorem ziQ(n:Nat)(x:Str×Int):Le (zcs n x) (zaY x):=by
 unfold zcs zaY
 exact(.bind (zg6 n _) fun _=>(.need (.bind (zfy n _) fun _=>(.join (.bind (zaP n _) fun _=>(.bif (.bind (zbm n _) fun _=> .rfl) (.bind (zH n _) fun _=>(.bif .rfl .rfl)))) fun _=> .rfl))))
def zdX(n:Nat)(x:Str×Int×Str):Option Bool:=
 need (decide (0≤x.2.1)&&(decide (x.2.1≤w64 (x.2.1+(x.2.2.length:Int)))&&decide (w64 (x.2.1+(x.2.2.length:Int))≤(x.1.length:Int)))|| !(decide (w64 ((x.1.length:Int) - x.2.1)≥(x.2.2.length:Int))))<|
 some (bif decide (w64 ((x.1.length:Int) - x.2.1)≥(x.2.2.length:Int))then List.drop x.2.1.toNat (List.take (w64 (x.2.1+(x.2.2.length:Int))).toNat x.1)==x.2.2 else false)
theorem ziF(n:Nat)(x:Str×Int×Str):Le (zdX n x) (zdn x):=by
 unfold zdX zdn
 exact(.need .rfl)
def zbU(n:Nat)(x:Str):Option Str:=
 need (decide (x.length≤maxLen))<|
 zgi n (fun(s1:Int×List UInt8)=>
   bif decide (s1.1<(s1.2.length:Int))then
    need (decide (0≤s1.1)&&decide (s1.1<(s1.2.length:Int)))<|
    ze s1.2[s1.1.toNat]? fun y2=>
    ze (zaX n (y2.toNat:Int)) fun y3=>
    need (decide (0≤s1.1)&&decide (s1.1<(s1.2.length:Int)))<|
    ze s1.2[s1.1.toNat]? fun y4=>
    ze (Zl y3) fun y5=>
    some (LO.again (w64 (s1.1+1),List.set s1.2 s1.1.toNat y5))
   else
    some (LO.out s1.2):Int×List UInt8→Option (LO (Int×List UInt8) (List UInt8) _)) (0,x) fun o6=>
 some o6
theorem zfS(n:Nat)(x:Str):Le (zbU n x) (QK x):=by
 unfold zbU QK
 exact(.need (.loop (fun _=>(.bif (.need (.bind .rfl fun _=>(.bind (zcW n _) fun _=>(.need (.bind .rfl fun _=>(.bind .rfl fun _=> .rfl)))))) .rfl)) fun _=> .rfl))
def zdV(n:Nat)(x:Str×Str):Option Bool:=
 ze (zbU n x.1) fun y1=>
 ze (zbU n x.2) fun y2=>
 some (y1==y2)
theorem zlk(n:Nat)(x:Str×Str):Le (zdV n x) (qi x):=by
 unfold zdV qi
 exact(.bind (zfS n _) fun _=>(.bind (zfS n _) fun _=> .rfl))
def zdW(n:Nat)(x:Str×Int):Option (zb×Int):=
 zgi n (fun(s1:Int)=>
   ze (zn (decide (s1<(x.1.length:Int))) (geti x.1 s1) 0) fun y2=>
   bif bif decide (s1<(x.1.length:Int))then(y2.toNat:Int) != 41 else false then
    ze (qb n (x.1,s1)) fun y3=>
    bif y3 then
     ze (qQ n (x.1,s1)) fun y4=>
     some (LO.again y4.2)
    else
     some (LO.again (w64 (s1+1)))
   else
    some (LO.out s1):Int→Option (LO (Int) (Int) _)) x.2 fun o5=>
 some ((⟨8,[],0,[],false⟩:zb),if w64 (o5+1)<(x.1.length:Int)then w64 (o5+1)else(x.1.length:Int))
theorem ziE(n:Nat)(x:Str×Int):Le (zdW n x) (zdm x):=by
 unfold zdW zdm
 exact(.loop (fun _=>(.bind .rfl fun _=>(.bif (.bind (qM n _) fun _=>(.bif (.bind (zal n _) fun _=> .rfl) .rfl)) .rfl))) fun _=> .rfl)
def zau(n:Nat)(x:Int):Option Bool:=
 some (bif bif bif decide (x≤8)then true else x==11 then true else bif decide (x≥14)then decide (x≤31)else false then true else x==127)
theorem zfz(n:Nat)(x:Int):Le (zau n x) (qU x):=by
 unfold zau qU
 exact .rfl
def zgr(n:Nat)(x:Str×Int):Option (zb×Int):=
 ze (Qv n (x.1,x.2)) fun y1=>
 zgi n (fun(s2:Int×zb×zb)=>
   ze (zn (decide (s2.1<(x.1.length:Int))) (geti x.1 s2.1) 0) fun y3=>
   bif bif decide (s2.1<(x.1.length:Int))then(y3.toNat:Int) != 41 else false then
    ze (geti x.1 s2.1) fun y4=>
    ze (QX n (y4.toNat:Int)) fun y5=>
    bif y5 then
     ze (Qv n (x.1,s2.1)) fun y6=>
     ze (zn (decide (y6<(x.1.length:Int))) (geti x.1 y6) 0) fun y7=>
     bif bif decide (y6<(x.1.length:Int))then(y7.toNat:Int) != 41 else false then
      ze (zdW n (x.1,y6)) fun y8=>
      some (LO.ret (y8.1,y8.2))
     else
      some (LO.again (y6,s2.2.1,s2.2.2))
    else
     ze (zn (!(bif bif (y4.toNat:Int)==34 then true else(y4.toNat:Int)==39 then true else(y4.toNat:Int)==40)) (zau n (y4.toNat:Int)) (default:Bool)) fun y9=>
     ze (zn ((y4.toNat:Int)==92&& !(bif bif bif (y4.toNat:Int)==34 then true else(y4.toNat:Int)==39 then true else(y4.toNat:Int)==40 then true else y9)) (qb n (x.1,s2.1)) (default:Bool)) fun y10=>
     bif bif bif bif bif (y4.toNat:Int)==34 then true else(y4.toNat:Int)==39 then true else(y4.toNat:Int)==40 then true else y9 then true else bif (y4.toNat:Int)==92 then !y10 else false then
      ze (zdW n (x.1,s2.1)) fun y11=>
      some (LO.ret (y11.1,y11.2))
     else
      bif (y4.toNat:Int)==92 then
       ze (qQ n (x.1,s2.1)) fun y12=>
       need (zbY s2.2.2.text.length y12.1.length)<|
       some (LO.again (y12.2,s2.2.1,(⟨s2.2.2.kind,s2.2.2.text++y12.1,s2.2.2.num,s2.2.2.unit,s2.2.2.flag⟩:zb)))
      else
       need (decide (0≤s2.1)&&(decide (s2.1≤w64 (s2.1+1))&&decide (w64 (s2.1+1)≤(x.1.length:Int))))<|
       need (zbY s2.2.2.text.length (List.drop s2.1.toNat (List.take (w64 (s2.1+1)).toNat x.1)).length)<|
       some (LO.again (w64 (s2.1+1),s2.2.1,(⟨s2.2.2.kind,s2.2.2.text++List.drop s2.1.toNat (List.take (w64 (s2.1+1)).toNat x.1),s2.2.2.num,s2.2.2.unit,s2.2.2.flag⟩:zb)))
   else
    some (LO.out (s2.1,s2.2.1,s2.2.2)):Int×zb×zb→Option (LO (Int×zb×zb) (Int×zb×zb) _)) (y1,(⟨0,[],0,[],false⟩:zb),(⟨7,[],0,[],false⟩:zb)) fun o13=>
 some (o13.2.2,if w64 (o13.1+1)<(x.1.length:Int)then w64 (o13.1+1)else(x.1.length:Int))
theorem zo5(n:Nat)(x:Str×Int):Le (zgr n x) (zeU x):=by
 unfold zgr zeU
 exact(.bind (zaQ n _) fun _=>(.loop (fun _=>(.bind .rfl fun _=>(.bif (.bind .rfl fun _=>(.bind (zbn n _) fun _=>(.bif (.bind (zaQ n _) fun _=>(.bind .rfl fun _=>(.bif (.bind (ziE n _) fun _=> .rfl) .rfl))) (.bind (.cond (zfz n _)) fun _=>(.bind (.cond (qM n _)) fun _=>(.bif (.bind (ziE n _) fun _=> .rfl) (.bif (.bind (zal n _) fun _=>(.need .rfl)) (.need (.need .rfl))))))))) .rfl))) fun _=> .rfl))
def zeV(n:Nat)(x:Str×Int):Option (zb×Int):=
 ze (QW n (x.1,x.2)) fun y1=>
 ze (zP n (x.1,y1.2)) fun y2=>
 bif y2 != 40 then
  some ((⟨1,y1.1,0,[],false⟩:zb),y1.2)
 else
  zU (X:=zb) (
    ze (zdV n (y1.1,[117,114,108])) fun y3=>
    bif y3 then
     ze (Qv n (x.1,w64 (y1.2+1))) fun y4=>
     ze (zP n (x.1,y4)) fun y5=>
     bif bif y5 != 34 then y5 != 39 else false then
      ze (zgr n (x.1,w64 (y1.2+1))) fun y6=>
      some (LX.ret (y6.1,y6.2))
     else
      some (LX.out (⟨0,[],0,[],false⟩:zb))
    else
     some (LX.out (⟨0,[],0,[],false⟩:zb))) fun j7=>
  some ((⟨2,y1.1,0,[],false⟩:zb),w64 (y1.2+1))
theorem znf(n:Nat)(x:Str×Int):Le (zeV n x) (zdo x):=by
 unfold zeV zdo
 exact(.bind (zbm n _) fun _=>(.bind (zH n _) fun _=>(.bif .rfl (.join (.bind (zlk n _) fun _=>(.bif (.bind (zaQ n _) fun _=>(.bind (zH n _) fun _=>(.bif (.bind (zo5 n _) fun _=> .rfl) .rfl))) .rfl)) fun _=> .rfl))))
def zcJ(n:Nat)(x:Int):Option Int:=
 bif x==58 then
  some 16
 else
  bif x==59 then
   some 17
  else
   bif x==44 then
    some 18
   else
    bif x==91 then
     some 19
    else
     bif x==93 then
      some 20
     else
      bif x==40 then
       some 21
      else
       bif x==41 then
        some 22
       else
        bif x==123 then
         some 23
        else
         bif x==125 then
          some 24
         else
          some 0
theorem zg8(n:Nat)(x:Int):Le (zcJ n x) (zb5 x):=by
 unfold zcJ zb5
 exact(.bif .rfl (.bif .rfl (.bif .rfl (.bif .rfl (.bif .rfl (.bif .rfl (.bif .rfl (.bif .rfl (.bif .rfl .rfl)))))))))
def zgq(n:Nat)(x:Str×Int):Option (zb×Int):=
 ze (geti x.1 x.2) fun y1=>
 ze (QX n (y1.toNat:Int)) fun y2=>
 bif y2 then
  ze (Qv n (x.1,x.2)) fun y3=>
  some ((⟨13,[],0,[],false⟩:zb),y3)
 else
  bif bif (y1.toNat:Int)==34 then true else(y1.toNat:Int)==39 then
   ze (zc3 n (x.1,x.2)) fun y4=>
   some (y4.1,y4.2)
  else
   ze (zn (decide (w64 (x.2+1)<(x.1.length:Int))&&(y1.toNat:Int)==35) (geti x.1 (w64 (x.2+1))) 0) fun y5=>
   ze (zn (decide (w64 (x.2+1)<(x.1.length:Int))&&(y1.toNat:Int)==35) (zbq n (y5.toNat:Int)) (default:Bool)) fun y6=>
   ze (zn (!(bif decide (w64 (x.2+1)<(x.1.length:Int))then y6 else false)&&(y1.toNat:Int)==35) (qb n (x.1,w64 (x.2+1))) (default:Bool)) fun y7=>
   bif bif (y1.toNat:Int)==35 then bif bif decide (w64 (x.2+1)<(x.1.length:Int))then y6 else false then true else y7 else false then
    ze (QW n (x.1,w64 (x.2+1))) fun y8=>
    ze (Qu n (x.1,w64 (x.2+1))) fun y9=>
    some ((⟨4,y8.1,0,[],y9⟩:zb),y8.2)
   else
    ze (zbD n (x.1,x.2)) fun y10=>
    bif y10 then
     ze (zcs n (x.1,x.2)) fun y11=>
     some (y11.1,y11.2)
    else
     ze (zdX n (x.1,x.2,[45,45,62])) fun y12=>
     bif y12 then
      some ((⟨15,[],0,[],false⟩:zb),w64 (x.2+3))
     else
      ze (zdX n (x.1,x.2,[60,33,45,45])) fun y13=>
      bif y13 then
       some ((⟨14,[],0,[],false⟩:zb),w64 (x.2+4))
      else
       ze (zn ((y1.toNat:Int)==64) (Qu n (x.1,w64 (x.2+1))) (default:Bool)) fun y14=>
       bif bif (y1.toNat:Int)==64 then y14 else false then
        ze (QW n (x.1,w64 (x.2+1))) fun y15=>
        some ((⟨3,y15.1,0,[],false⟩:zb),y15.2)
       else
        ze (Qu n (x.1,x.2)) fun y16=>
        bif y16 then
         ze (zeV n (x.1,x.2)) fun y17=>
         some (y17.1,y17.2)
        else
         ze (zcJ n (y1.toNat:Int)) fun y18=>
         bif y18 != 0 then
          ze (zcJ n (y1.toNat:Int)) fun y19=>
          some ((⟨y19,[],0,[],false⟩:zb),w64 (x.2+1))
         else
          need (decide (0≤x.2)&&(decide (x.2≤w64 (x.2+1))&&decide (w64 (x.2+1)≤(x.1.length:Int))))<|
          some ((⟨9,List.drop x.2.toNat (List.take (w64 (x.2+1)).toNat x.1),0,[],false⟩:zb),w64 (x.2+1))
theorem zo4(n:Nat)(x:Str×Int):Le (zgq n x) (zeS x):=by
 unfold zgq zeS
 exact(.bind .rfl fun _=>(.bind (zbn n _) fun _=>(.bif (.bind (zaQ n _) fun _=> .rfl) (.bif (.bind (zkc n _) fun _=> .rfl) (.bind .rfl fun _=>(.bind (.cond (zeD n _)) fun _=>(.bind (.cond (qM n _)) fun _=>(.bif (.bind (zbm n _) fun _=>(.bind (zaP n _) fun _=> .rfl)) (.bind (zhS n _) fun _=>(.bif (.bind (ziQ n _) fun _=> .rfl) (.bind (ziF n _) fun _=>(.bif .rfl (.bind (ziF n _) fun _=>(.bif .rfl (.bind (.cond (zaP n _)) fun _=>(.bif (.bind (zbm n _) fun _=> .rfl) (.bind (zaP n _) fun _=>(.bif (.bind (znf n _) fun _=> .rfl) (.bind (zg8 n _) fun _=>(.bif (.bind (zg8 n _) fun _=> .rfl) (.need .rfl)))))))))))))))))))))
def zdY(n:Nat)(x:Int):Option Bool:=
 ze (Zl x) fun y1=>
 ze (zgq n ([y1,(10:UInt8)],0)) fun y2=>
 some (bif bif bif bif decide (x≥1)then decide (x≤127)else false then x != 12 else false then x != 13 else false then y2.1.kind==9 else false)
theorem zll(n:Nat)(x:Int):Le (zdY n x) (qm x):=by
 unfold zdY qm
 exact(.bind .rfl fun _=>(.bind (zo4 n _) fun _=> .rfl))
def zcE(n:Nat)(x:Int):Option Bool:=
 some (bif decide (48≤x)then decide (x≤57)else false)
theorem zg5(n:Nat)(x:Int):Le (zcE n x) (ZU x):=by
 unfold zcE ZU
 exact .rfl
def zdK(n:Nat)(x:Int):Option Bool:=
 some (bif bif decide (97≤ibOr IntKind.u8 x 32)then decide (ibOr IntKind.u8 x 32≤122)else false then decide (x<128)else false)
theorem zfR(n:Nat)(x:Int):Le (zdK n x) (QE x):=by
 unfold zdK QE
 exact .rfl
def zew(n:Nat)(x:Int):Option Bool:=
 ze (zdK n x) fun y1=>
 ze (zn (!y1) (zcE n x) (default:Bool)) fun y2=>
 some (bif bif bif bif y1 then true else y2 then true else x==95 then true else x==45 then true else decide (x≥128))
theorem znd(n:Nat)(x:Int):Le (zew n x) (QU x):=by
 unfold zew QU
 exact(.bind (zfR n _) fun _=>(.bind (.cond (zg5 n _)) fun _=> .rfl))
def zhv(n:Nat)(x:Int):Option Bool:=
 some (bif bif x==32 then true else x==9 then true else x==10)
theorem zfT(n:Nat)(x:Int):Le (zhv n x) (ZA x):=by
 unfold zhv ZA
 exact .rfl
def zaj(n:Nat)(x:Int×Int×Int):Option Bool:=
 some (bif decide (x.2.1≤x.1)then decide (x.1≤x.2.2)else false)
theorem zcn(n:Nat)(x:Int×Int×Int):Le (zaj n x) (Zk x):=by
 unfold zaj Zk
 exact .rfl
def zb1(n:Nat)(x:Int):Option Bool:=
 ze (zaj n (x,48,57)) fun y1=>
 some y1
theorem zbo(n:Nat)(x:Int):Le (zb1 n x) (Zc x):=by
 unfold zb1 Zc
 exact(.bind (zcn n _) fun _=> .rfl)
def zkX(n:Nat)(x:Int):Option Int:=
 ze (zb1 n x) fun y1=>
 bif y1 then
  some (w64 (x - 48))
 else
  ze (zn (x != (-1)) (zaj n (ibOr IntKind.i64 x 32,97,102)) (default:Bool)) fun y2=>
  bif bif bif bif x != (-1)then y2 else false then decide (x>64)else false then decide (x<128)else false then
   some (w64 (w64 (ibOr IntKind.i64 x 32 - 97)+10))
  else
   some (-1)
theorem ziG(n:Nat)(x:Int):Le (zkX n x) (zai x):=by
 unfold zkX zai
 exact(.bind (zbo n _) fun _=>(.bif .rfl (.bind (.cond (zcn n _)) fun _=>(.bif .rfl .rfl))))
def zd0(n:Nat)(x:Int):Option Bool:=
 ze (zaj n (ibOr IntKind.i64 x 32,97,122)) fun y1=>
 some (bif bif bif bif y1 then decide (x<128)else false then decide (x>64)else false then true else x==95 then true else decide (x≥128))
theorem zcX(n:Nat)(x:Int):Le (zd0 n x) (Ql x):=by
 unfold zd0 Ql
 exact(.bind (zcn n _) fun _=> .rfl)
def zf4(n:Nat)(x:Int):Option Bool:=
 ze (zd0 n x) fun y1=>
 ze (zn (!y1) (zb1 n x) (default:Bool)) fun y2=>
 some (bif bif y1 then true else y2 then true else x==45)
theorem zeE(n:Nat)(x:Int):Le (zf4 n x) (Qc x):=by
 unfold zf4 Qc
 exact(.bind (zcX n _) fun _=>(.bind (.cond (zbo n _)) fun _=> .rfl))
end Go.Lv.VT
