/- Laws for the plain texts: loops that look for something; bytes. -/
import Derived.Test.YtnfhfeipljhciaaGreatDoorLf
import Derived.Test.YtnfhfeipljhciaaGreatDoorTx
set_option linter.unusedSimpArgs false
set_option linter.unusedVariables false
namespace Go.Lv.VT
abbrev big:Nat:=4194304
theorem zgn{i n:Nat}(h:i<n):decide ((i:Int)<(n:Int))=true:=decide_eq_true (by omega)
theorem zku(n:Nat):decide ((n:Int)<(n:Int))=false:=decide_eq_false (by omega)
theorem zcP{i n:Nat}(h:i<n)(hn:n≤big):w64 ((i:Int)+1)=((i+1:Nat):Int):=by
 rw[w64,zhG (by omega) (by unfold big at hn;omega)];omega
theorem QT{α:Type}(b:Bool)(v d:α):zn b (some v) d=some (bif b then v else d):=by cases b<;>rfl
theorem zmg {α X R:Type} {step:Int→Option (LO Int X R)} {k:X→Option R} (l:List α) (q:α→Option R) (x:X)
  (hg: ∀(i:Nat) (h:i<l.length),step (i:Int)=some (match q l[i]with|some r=> .ret r|none=> .again ((i+1:Nat):Int)))
  (hf:step (l.length:Int)=some (.out x)):ZC step 0 k=match l.findSome? q with|some r=>some r|none=>k x:=by
 have key: ∀(m:List α) (i:Nat),l.drop i=m→i≤l.length→ ∃n,Q8 step n (i:Int)=some (match m.findSome? q with|some r=> .ret r|none=> .out x):=by
  intro m
  induction m with
  |nil=>
   intro i hd hi
   have:i=l.length:=by have:=List.drop_eq_nil_iff.1 hd;omega
   subst this
   exact⟨1,by simp only[Q8,hf,List.findSome?_nil]⟩
  |cons v m ih=>
   intro i hd hi
   have hlt:i<l.length:=by
    rcases Nat.lt_or_ge i l.length with h|h
    ·exact h
    ·rw[List.drop_eq_nil_of_le h]at hd;cases hd
   have hv:l[i]=v:=by
    have:=List.drop_eq_getElem_cons hlt
    rw[hd]at this
    injection this with h1 _
    exact h1.symm
   have hs:=hg i hlt
   rw[hv]at hs
   cases hq:q v with
   |some r=>
    rw[hq]at hs
    exact⟨1,by simp only[Q8,hs,List.findSome?_cons,hq]⟩
   |none=>
    rw[hq]at hs
    obtain⟨n,hn⟩:=ih (i+1) (by rw[List.drop_eq_getElem_cons hlt]at hd;injection hd) (by omega)
    refine⟨n+1,?_⟩
    simp only[Q8,hs,List.findSome?_cons,hq]
    exact hn
 obtain⟨n,hn⟩:=key l 0 rfl (by omega)
 replace hn:Q8 step n 0=_:=hn
 rw[zdU (zdT hn)]
 cases l.findSome? q<;>rfl
theorem zm4{α R:Type}(p:α→Bool)(r:R): ∀(l:List α),l.findSome? (fun v=>bif p v then none else some r)=bif l.all p then none else some r
 |[]=>rfl
 |v::l=>by
  rw[List.findSome?_cons,List.all_cons]
  cases p v with
  |false=>rfl
  |true=>exact zm4 p r l
end Go.Lv.VT

namespace Go.Lv.VT
set_option maxRecDepth 100000
def Zx(n:Nat)(x:Int):Option Bool:=
 some (bif decide (x≥48)then decide (x≤57)else false)
theorem ZN(n:Nat)(x:Int):Le (Zx n x) (zV x):=by
 unfold Zx zV
 exact .rfl
def Q0(n:Nat)(x:Int):Option Bool:=
 some (bif bif x==10 then true else x==9 then true else x==32)
theorem zbq(n:Nat)(x:Int):Le (Q0 n x) (qp x):=by
 unfold Q0 qp
 exact .rfl
def zP(n:Nat)(x:Str×Int):Option Int:=
 bif decide (x.2<(x.1.length:Int))then
  ze (geti x.1 x.2) fun y1=>
  some (y1.toNat:Int)
 else
  some 0
theorem zH(n:Nat)(x:Str×Int):Le (zP n x) (zO x):=by
 unfold zP zO
 exact(.bif (.bind .rfl fun _=> .rfl) .rfl)
def Qy(n:Nat)(x:Str×Int):Option Int:=
 zgm n (fun(s1:Int)=>
   ze (zP n (x.1,s1)) fun y2=>
   ze (Q0 n y2) fun y3=>
   bif y3 then
    some (LO.again (w64 (s1+1)))
   else
    some (LO.out s1):Int→Option (LO (Int) (Int) _)) x.2 fun o4=>
 some o4
theorem zaT(n:Nat)(x:Str×Int):Le (Qy n x) (qf x):=by
 unfold Qy qf
 exact(.loop (fun _=>(.bind (zH n _) fun _=>(.bind (zbq n _) fun _=>(.bif .rfl .rfl)))) fun _=> .rfl)
def zcK(n:Nat)(x:Unit):Option Str:=
 some [(239:UInt8),(191:UInt8),(189:UInt8)]
theorem zhb(n:Nat)(x:Unit):Le (zcK n x) (zbm x):=by
 unfold zcK zbm
 exact .rfl
def zaZ(n:Nat)(x:Int):Option Int:=
 bif bif decide (x≥65)then decide (x≤90)else false then
  some (wu8 (wu8 (x - 65)+97))
 else
  some x
theorem zcZ(n:Nat)(x:Int):Le (zaZ n x) (qo x):=by
 unfold zaZ qo
 exact(.bif .rfl .rfl)
def zcs(n:Nat)(x:Int):Option Int:=
 ze (Zx n x) fun y1=>
 bif y1 then
  some (w64 (wu8 (x - 48)))
 else
  ze (zaZ n x) fun y2=>
  bif bif decide (y2≥97)then decide (y2≤102)else false then
   some (w64 (w64 (wu8 (y2 - 97))+10))
  else
   some (-1)
theorem zeJ(n:Nat)(x:Int):Le (zcs n x) (zcr x):=by
 unfold zcs zcr
 exact(.bind (ZN n _) fun _=>(.bif .rfl (.bind (zcZ n _) fun _=>(.bif .rfl .rfl))))
def ze1(n:Nat)(x:Int):Option Str:=
 bif bif bif x==0 then true else bif decide (x≥55296)then decide (x≤57343)else false then true else decide (x>1114111)then
  ze (zcK n ()) fun y1=>
  some y1
 else
  bif decide (x<128)then
   ze (Zm (wu8 x)) fun y2=>
   some [y2]
  else
   bif decide (x<2048)then
    ze (Zm (wu8 (w64 (192+w64 (Int.tdiv x 64))))) fun y3=>
    ze (Zm (wu8 (w64 (128+Int.tmod x 64)))) fun y4=>
    some [y3,y4]
   else
    bif decide (x<65536)then
     ze (Zm (wu8 (w64 (224+w64 (Int.tdiv x 4096))))) fun y5=>
     ze (Zm (wu8 (w64 (128+Int.tmod (w64 (Int.tdiv x 64)) 64)))) fun y6=>
     ze (Zm (wu8 (w64 (128+Int.tmod x 64)))) fun y7=>
     some [y5,y6,y7]
    else
     ze (Zm (wu8 (w64 (240+w64 (Int.tdiv x 262144))))) fun y8=>
     ze (Zm (wu8 (w64 (128+Int.tmod (w64 (Int.tdiv x 4096)) 64)))) fun y9=>
     ze (Zm (wu8 (w64 (128+Int.tmod (w64 (Int.tdiv x 64)) 64)))) fun y10=>
     ze (Zm (wu8 (w64 (128+Int.tmod x 64)))) fun y11=>
     some [y8,y9,y10,y11]
theorem znl(n:Nat)(x:Int):Le (ze1 n x) (zdq x):=by
 unfold ze1 zdq
 exact(.bif (.bind (zhb n _) fun _=> .rfl) (.bif (.bind .rfl fun _=> .rfl) (.bif (.bind .rfl fun _=>(.bind .rfl fun _=> .rfl)) (.bif (.bind .rfl fun _=>(.bind .rfl fun _=>(.bind .rfl fun _=> .rfl))) (.bind .rfl fun _=>(.bind .rfl fun _=>(.bind .rfl fun _=>(.bind .rfl fun _=> .rfl))))))))
def qU(n:Nat)(x:Str×Int):Option (Str×Int):=
 bif decide (w64 (x.2+1)≥(x.1.length:Int))then
  ze (zcK n ()) fun y1=>
  some (y1,w64 (x.2+1))
 else
  ze (geti x.1 (w64 (x.2+1))) fun y2=>
  ze (zcs n (y2.toNat:Int)) fun y3=>
  bif decide (y3<0)then
   need (decide (0≤w64 (x.2+1))&&(decide (w64 (x.2+1)≤w64 (w64 (x.2+1)+1))&&decide (w64 (w64 (x.2+1)+1)≤(x.1.length:Int))))<|
   some (List.drop (w64 (x.2+1)).toNat (List.take (w64 (w64 (x.2+1)+1)).toNat x.1),w64 (w64 (x.2+1)+1))
  else
   zgm n (fun(s4:Int×Int)=>
     ze (zn (bif decide (s4.2<(x.1.length:Int))then decide (s4.2<w64 (w64 (x.2+1)+6))else false) (geti x.1 s4.2) 0) fun y5=>
     ze (zn (bif decide (s4.2<(x.1.length:Int))then decide (s4.2<w64 (w64 (x.2+1)+6))else false) (zcs n (y5.toNat:Int)) (default:Int)) fun y6=>
     bif bif bif decide (s4.2<(x.1.length:Int))then decide (s4.2<w64 (w64 (x.2+1)+6))else false then decide (y6≥0)else false then
      ze (geti x.1 s4.2) fun y7=>
      ze (zcs n (y7.toNat:Int)) fun y8=>
      some (LO.again (w64 (w64 (16*s4.1)+y8),w64 (s4.2+1)))
     else
      some (LO.out (s4.1,s4.2)):Int×Int→Option (LO (Int×Int) (Int×Int) _)) (0,w64 (x.2+1)) fun o9=>
   zW (X:=Int) (
     ze (zP n (x.1,o9.2)) fun y10=>
     ze (Q0 n y10) fun y11=>
     bif y11 then
      some (LX.out (w64 (o9.2+1)))
     else
      some (LX.out o9.2)) fun j12=>
   ze (ze1 n o9.1) fun y13=>
   some (y13,j12)
theorem zan(n:Nat)(x:Str×Int):Le (qU n x) (Zy x):=by
 unfold qU Zy
 exact(.bif (.bind (zhb n _) fun _=> .rfl) (.bind .rfl fun _=>(.bind (zeJ n _) fun _=>(.bif (.need .rfl) (.loop (fun _=>(.bind .rfl fun _=>(.bind (.cond (zeJ n _)) fun _=>(.bif (.bind .rfl fun _=>(.bind (zeJ n _) fun _=> .rfl)) .rfl)))) fun _=>(.join (.bind (zH n _) fun _=>(.bind (zbq n _) fun _=>(.bif .rfl .rfl))) fun _=>(.bind (znl n _) fun _=> .rfl)))))))
def zc6(n:Nat)(x:Str×Int):Option (zb×Int):=
 ze (geti x.1 x.2) fun y1=>
 zgm n (fun(s2:Int×zb×zb)=>
   bif decide (s2.1<(x.1.length:Int))then
    ze (geti x.1 s2.1) fun y3=>
    bif (y3.toNat:Int)==(y1.toNat:Int)then
     some (LO.ret (s2.2.2,w64 (s2.1+1)))
    else
     ze (geti x.1 s2.1) fun y4=>
     bif (y4.toNat:Int)==10 then
      some (LO.ret ((⟨6,[],0,[],false⟩:zb),s2.1))
     else
      ze (geti x.1 s2.1) fun y5=>
      bif bif (y5.toNat:Int)==92 then w64 (s2.1+1)==(x.1.length:Int)else false then
       some (LO.again (w64 (s2.1+1),s2.2.1,s2.2.2))
      else
       ze (geti x.1 s2.1) fun y6=>
       ze (zn ((y6.toNat:Int)==92) (geti x.1 (w64 (s2.1+1))) 0) fun y7=>
       bif bif (y6.toNat:Int)==92 then(y7.toNat:Int)==10 else false then
        some (LO.again (w64 (s2.1+2),s2.2.1,s2.2.2))
       else
        ze (geti x.1 s2.1) fun y8=>
        bif (y8.toNat:Int)==92 then
         ze (qU n (x.1,s2.1)) fun y9=>
         need (zbZ s2.2.2.text.length y9.1.length)<|
         some (LO.again (y9.2,s2.2.1,(⟨s2.2.2.kind,s2.2.2.text++y9.1,s2.2.2.num,s2.2.2.unit,s2.2.2.flag⟩:zb)))
        else
         need (decide (0≤s2.1)&&(decide (s2.1≤w64 (s2.1+1))&&decide (w64 (s2.1+1)≤(x.1.length:Int))))<|
         need (zbZ s2.2.2.text.length (List.drop s2.1.toNat (List.take (w64 (s2.1+1)).toNat x.1)).length)<|
         some (LO.again (w64 (s2.1+1),s2.2.1,(⟨s2.2.2.kind,s2.2.2.text++List.drop s2.1.toNat (List.take (w64 (s2.1+1)).toNat x.1),s2.2.2.num,s2.2.2.unit,s2.2.2.flag⟩:zb)))
   else
    some (LO.out (s2.1,s2.2.1,s2.2.2)):Int×zb×zb→Option (LO (Int×zb×zb) (Int×zb×zb) _)) (w64 (x.2+1),(⟨0,[],0,[],false⟩:zb),(⟨5,[],0,[],false⟩:zb)) fun o10=>
 some (o10.2.2,o10.1)
theorem zkk(n:Nat)(x:Str×Int):Le (zc6 n x) (zbA x):=by
 unfold zc6 zbA
 exact(.bind .rfl fun _=>(.loop (fun _=>(.bif (.bind .rfl fun _=>(.bif .rfl (.bind .rfl fun _=>(.bif .rfl (.bind .rfl fun _=>(.bif .rfl (.bind .rfl fun _=>(.bind .rfl fun _=>(.bif .rfl (.bind .rfl fun _=>(.bif (.bind (zan n _) fun _=>(.need .rfl)) (.need (.need .rfl))))))))))))) .rfl)) fun _=> .rfl))
def zaj(n:Nat)(x:Int):Option Bool:=
 ze (zaZ n x) fun y1=>
 some (bif bif bif decide (y1≥97)then decide (y1≤122)else false then true else x==95 then true else decide (x≥128))
theorem zcm(n:Nat)(x:Int):Le (zaj n x) (Qc x):=by
 unfold zaj Qc
 exact(.bind (zcZ n _) fun _=> .rfl)
def zbu(n:Nat)(x:Int):Option Bool:=
 ze (zaj n x) fun y1=>
 ze (zn (!y1) (Zx n x) (default:Bool)) fun y2=>
 some (bif bif y1 then true else y2 then true else x==45)
theorem zeK(n:Nat)(x:Int):Le (zbu n x) (QN x):=by
 unfold zbu QN
 exact(.bind (zcm n _) fun _=>(.bind (.cond (ZN n _)) fun _=> .rfl))
def qd(n:Nat)(x:Str×Int):Option Bool:=
 ze (zP n (x.1,x.2)) fun y1=>
 ze (zn (y1==92) (zP n (x.1,w64 (x.2+1))) (default:Int)) fun y2=>
 some (bif y1==92 then y2 != 10 else false)
theorem qO(n:Nat)(x:Str×Int):Le (qd n x) (Zk x):=by
 unfold qd Zk
 exact(.bind (zH n _) fun _=>(.bind (.cond (zH n _)) fun _=> .rfl))
def QZ(n:Nat)(x:Str×Int):Option (Str×Int):=
 zgm n (fun(s1:Int×Str)=>
   ze (zn (decide (s1.1<(x.1.length:Int))) (geti x.1 s1.1) 0) fun y2=>
   ze (zn (decide (s1.1<(x.1.length:Int))) (zbu n (y2.toNat:Int)) (default:Bool)) fun y3=>
   bif bif decide (s1.1<(x.1.length:Int))then y3 else false then
    need (decide (0≤s1.1)&&(decide (s1.1≤w64 (s1.1+1))&&decide (w64 (s1.1+1)≤(x.1.length:Int))))<|
    need (zbZ s1.2.length (List.drop s1.1.toNat (List.take (w64 (s1.1+1)).toNat x.1)).length)<|
    some (LO.again (w64 (s1.1+1),s1.2++List.drop s1.1.toNat (List.take (w64 (s1.1+1)).toNat x.1)))
   else
    ze (zn (decide (s1.1<(x.1.length:Int))) (qd n (x.1,s1.1)) (default:Bool)) fun y4=>
    bif bif decide (s1.1<(x.1.length:Int))then y4 else false then
     ze (qU n (x.1,s1.1)) fun y5=>
     need (zbZ s1.2.length y5.1.length)<|
     some (LO.again (y5.2,s1.2++y5.1))
    else
     some (LO.ret (s1.2,s1.1)):Int×Str→Option (LO (Int×Str) (Unit) _)) (x.2,[]) fun o6=>
 none
theorem zbp(n:Nat)(x:Str×Int):Le (QZ n x) (qI x):=by
 unfold QZ qI
 exact(.loop (fun _=>(.bind .rfl fun _=>(.bind (.cond (zeK n _)) fun _=>(.bif (.need (.need .rfl)) (.bind (.cond (qO n _)) fun _=>(.bif (.bind (zan n _) fun _=>(.need .rfl)) .rfl)))))) fun _=> .none)
def Qx(n:Nat)(x:Str×Int):Option Bool:=
 ze (zP n (x.1,x.2)) fun y1=>
 bif y1==45 then
  ze (zP n (x.1,w64 (x.2+1))) fun y2=>
  ze (zaj n y2) fun y3=>
  ze (zn (!y3) (zP n (x.1,w64 (x.2+1))) (default:Int)) fun y4=>
  ze (zn (!(bif y3 then true else y4==45)) (qd n (x.1,w64 (x.2+1))) (default:Bool)) fun y5=>
  some (bif bif y3 then true else y4==45 then true else y5)
 else
  ze (zP n (x.1,x.2)) fun y6=>
  ze (zaj n y6) fun y7=>
  ze (zn (!y7) (qd n (x.1,x.2)) (default:Bool)) fun y8=>
  some (bif y7 then true else y8)
theorem zaS(n:Nat)(x:Str×Int):Le (Qx n x) (qF x):=by
 unfold Qx qF
 exact(.bind (zH n _) fun _=>(.bif (.bind (zH n _) fun _=>(.bind (zcm n _) fun _=>(.bind (.cond (zH n _)) fun _=>(.bind (.cond (qO n _)) fun _=> .rfl)))) (.bind (zH n _) fun _=>(.bind (zcm n _) fun _=>(.bind (.cond (qO n _)) fun _=> .rfl)))))
def zbE(n:Nat)(x:Str×Int):Option Bool:=
 zW (X:=Int) (
   ze (zP n (x.1,x.2)) fun y1=>
   bif bif y1==43 then true else y1==45 then
    some (LX.out (w64 (x.2+1)))
   else
    some (LX.out x.2)) fun j2=>
 zW (X:=Int) (
   ze (zP n (x.1,j2)) fun y3=>
   bif y3==46 then
    some (LX.out (w64 (j2+1)))
   else
    some (LX.out j2)) fun j4=>
 ze (zP n (x.1,j4)) fun y5=>
 ze (Zx n y5) fun y6=>
 some y6
theorem zhX(n:Nat)(x:Str×Int):Le (zbE n x) (zai x):=by
 unfold zbE zai
 exact(.join (.bind (zH n _) fun _=>(.bif .rfl .rfl)) fun _=>(.join (.bind (zH n _) fun _=>(.bif .rfl .rfl)) fun _=>(.bind (zH n _) fun _=>(.bind (ZN n _) fun _=> .rfl))))
def zak(n:Nat)(x:Str×Int):Option Int:=
 zgm n (fun(s1:Int)=>
   ze (zP n (x.1,s1)) fun y2=>
   ze (Zx n y2) fun y3=>
   bif y3 then
    some (LO.again (w64 (s1+1)))
   else
    some (LO.out s1):Int→Option (LO (Int) (Int) _)) x.2 fun o4=>
 some o4
theorem zcn(n:Nat)(x:Str×Int):Le (zak n x) (QP x):=by
 unfold zak QP
 exact(.loop (fun _=>(.bind (zH n _) fun _=>(.bind (ZN n _) fun _=>(.bif .rfl .rfl)))) fun _=> .rfl)
def zbl(n:Nat)(x:Str×Int):Option (Int×Bool):=
 zW (X:=Int) (
   ze (zP n (x.1,x.2)) fun y1=>
   bif bif y1==43 then true else y1==45 then
    some (LX.out (w64 (x.2+1)))
   else
    some (LX.out x.2)) fun j2=>
 ze (zak n (x.1,j2)) fun y3=>
 zW (X:=Int×Bool) (
   ze (zP n (x.1,y3)) fun y4=>
   ze (zn (y4==46) (zP n (x.1,w64 (y3+1))) (default:Int)) fun y5=>
   ze (zn (y4==46) (Zx n y5) (default:Bool)) fun y6=>
   bif bif y4==46 then y6 else false then
    ze (zak n (x.1,w64 (y3+1))) fun y7=>
    some (LX.out (y7,false))
   else
    some (LX.out (y3,true))) fun j8=>
 zW (X:=Int×Bool) (
   ze (zP n (x.1,j8.1)) fun y9=>
   bif bif y9==101 then true else y9==69 then
    zW (X:=Int×Bool×Int) (
      ze (zP n (x.1,w64 (j8.1+1))) fun y10=>
      bif bif y10==43 then true else y10==45 then
       some (LX.out (j8.1,j8.2,w64 (w64 (j8.1+1)+1)))
      else
       some (LX.out (j8.1,j8.2,w64 (j8.1+1)))) fun j11=>
    ze (zP n (x.1,j11.2.2)) fun y12=>
    ze (Zx n y12) fun y13=>
    bif y13 then
     ze (zak n (x.1,j11.2.2)) fun y14=>
     some (LX.out (y14,false))
    else
     some (LX.out (j11.1,j11.2.1))
   else
    some (LX.out (j8.1,j8.2))) fun j15=>
 some (j15.1,j15.2)
theorem zha(n:Nat)(x:Str×Int):Le (zbl n x) (QO x):=by
 unfold zbl QO
 exact(.join (.bind (zH n _) fun _=>(.bif .rfl .rfl)) fun _=>(.bind (zcn n _) fun _=>(.join (.bind (zH n _) fun _=>(.bind (.cond (zH n _)) fun _=>(.bind (.cond (ZN n _)) fun _=>(.bif (.bind (zcn n _) fun _=> .rfl) .rfl)))) fun _=>(.join (.bind (zH n _) fun _=>(.bif (.join (.bind (zH n _) fun _=>(.bif .rfl .rfl)) fun _=>(.bind (zH n _) fun _=>(.bind (ZN n _) fun _=>(.bif (.bind (zcn n _) fun _=> .rfl) .rfl)))) .rfl)) fun _=> .rfl))))
def zav(n:Nat)(x:Str):Option Int:=
 ze (geti x 0) fun y1=>
 zW (X:=Str×Int×Int) (
   ze (geti x 0) fun y2=>
   bif bif (y2.toNat:Int)==43 then true else(y1.toNat:Int)==45 then
    some (LX.out ([],3,1))
   else
    some (LX.out ([],3,0))) fun j3=>
 zgm n (fun(s4:Str×Int)=>
   ze (zP n (x,s4.2)) fun y5=>
   ze (Zx n y5) fun y6=>
   bif y6 then
    need (decide (0≤s4.2)&&(decide (s4.2≤w64 (s4.2+1))&&decide (w64 (s4.2+1)≤(x.length:Int))))<|
    need (zbZ s4.1.length (List.drop s4.2.toNat (List.take (w64 (s4.2+1)).toNat x)).length)<|
    some (LO.again (s4.1++List.drop s4.2.toNat (List.take (w64 (s4.2+1)).toNat x),w64 (s4.2+1)))
   else
    some (LO.out (s4.1,s4.2)):Str×Int→Option (LO (Str×Int) (Str×Int) _)) (j3.1,j3.2.2) fun o7=>
 zW (X:=Str×Int×Int) (
   ze (zP n (x,o7.2)) fun y8=>
   bif y8==46 then
    zgm n (fun(s9:Str×Int×Int)=>
      ze (zP n (x,s9.2.2)) fun y10=>
      ze (Zx n y10) fun y11=>
      bif y11 then
       need (decide (0≤s9.2.2)&&(decide (s9.2.2≤w64 (s9.2.2+1))&&decide (w64 (s9.2.2+1)≤(x.length:Int))))<|
       need (zbZ s9.1.length (List.drop s9.2.2.toNat (List.take (w64 (s9.2.2+1)).toNat x)).length)<|
       some (LO.again (s9.1++List.drop s9.2.2.toNat (List.take (w64 (s9.2.2+1)).toNat x),w64 (s9.2.1 - 1),w64 (s9.2.2+1)))
      else
       some (LO.out (s9.1,s9.2.1,s9.2.2)):Str×Int×Int→Option (LO (Str×Int×Int) (Str×Int×Int) _)) (o7.1,j3.2.1,w64 (o7.2+1)) fun o12=>
    some (LX.out (o12.1,o12.2.1,o12.2.2))
   else
    some (LX.out (o7.1,j3.2.1,o7.2))) fun j13=>
 zW (X:=Int) (
   bif decide (j13.2.2<(x.length:Int))then
    ze (geti x (w64 (j13.2.2+1))) fun y14=>
    zW (X:=Int×Int) (
      ze (geti x (w64 (j13.2.2+1))) fun y15=>
      bif bif (y15.toNat:Int)==43 then true else(y14.toNat:Int)==45 then
       some (LX.out (j13.2.1,w64 (w64 (j13.2.2+1)+1)))
      else
       some (LX.out (j13.2.1,w64 (j13.2.2+1)))) fun j16=>
    zgm n (fun(s17:Int×Int)=>
      bif decide (s17.1<(x.length:Int))then
       ze (geti x s17.1) fun y18=>
       some (LO.again (w64 (s17.1+1),if w64 (w64 (10*s17.2)+w64 (wu8 ((y18.toNat:Int) - 48)))<10000 then w64 (w64 (10*s17.2)+w64 (wu8 ((y18.toNat:Int) - 48)))else 10000))
      else
       some (LO.out s17.2):Int×Int→Option (LO (Int×Int) (Int) _)) (j16.2,0) fun o19=>
    zW (X:=Int×Int) (
      bif (y14.toNat:Int)==45 then
       some (LX.out (j16.1,w64 (0 - o19)))
      else
       some (LX.out (j16.1,o19))) fun j20=>
    some (LX.out (w64 (j20.1+j20.2)))
   else
    some (LX.out j13.2.1)) fun j21=>
 zgm n (fun(s22:Int×Int)=>
   bif bif decide (s22.2<w64 ((j13.1.length:Int)+j21))then decide (s22.2<(j13.1.length:Int))else false then
    ze (geti j13.1 s22.2) fun y23=>
    some (LO.again (if w64 (w64 (10*s22.1)+w64 (wu8 ((y23.toNat:Int) - 48)))<1000000000000 then w64 (w64 (10*s22.1)+w64 (wu8 ((y23.toNat:Int) - 48)))else 1000000000000,w64 (s22.2+1)))
   else
    some (LO.out s22.1):Int×Int→Option (LO (Int×Int) (Int) _)) (0,0) fun o24=>
 zgm n (fun(s25:Int×Int)=>
   bif bif bif decide (s25.1>0)then decide (s25.2>0)else false then decide (s25.2<1000000000000)else false then
    some (LO.again (w64 (s25.1 - 1),if w64 (10*s25.2)<1000000000000 then w64 (10*s25.2)else 1000000000000))
   else
    some (LO.out s25.2):Int×Int→Option (LO (Int×Int) (Int) _)) (j21,o24) fun o26=>
 bif (y1.toNat:Int)==45 then
  some (w64 (0 - o26))
 else
  some o26
theorem zfE(n:Nat)(x:Str):Le (zav n x) (qV x):=by
 unfold zav qV
 exact(.bind .rfl fun _=>(.join (.bind .rfl fun _=>(.bif .rfl .rfl)) fun _=>(.loop (fun _=>(.bind (zH n _) fun _=>(.bind (ZN n _) fun _=>(.bif (.need (.need .rfl)) .rfl)))) fun _=>(.join (.bind (zH n _) fun _=>(.bif (.loop (fun _=>(.bind (zH n _) fun _=>(.bind (ZN n _) fun _=>(.bif (.need (.need .rfl)) .rfl)))) fun _=> .rfl) .rfl)) fun _=>(.join (.bif (.bind .rfl fun _=>(.join (.bind .rfl fun _=>(.bif .rfl .rfl)) fun _=>(.loop (fun _=>(.bif (.bind .rfl fun _=> .rfl) .rfl)) fun _=>(.join (.bif .rfl .rfl) fun _=> .rfl)))) .rfl) fun _=>(.loop (fun _=>(.bif (.bind .rfl fun _=> .rfl) .rfl)) fun _=>(.loop (fun _=>(.bif .rfl .rfl)) fun _=>(.bif .rfl .rfl))))))))
def zct(n:Nat)(x:Str×Int):Option (zb×Int):=
 ze (zbl n (x.1,x.2)) fun y1=>
 need (decide (0≤x.2)&&(decide (x.2≤y1.1)&&decide (y1.1≤(x.1.length:Int))))<|
 ze (zav n (List.drop x.2.toNat (List.take y1.1.toNat x.1))) fun y2=>
 zW (X:=Int×zb×zb) (
   ze (Qx n (x.1,y1.1)) fun y3=>
   bif y3 then
    ze (QZ n (x.1,y1.1)) fun y4=>
    some (LX.out (y4.2,(⟨0,[],0,[],false⟩:zb),(⟨12,[],y2,y4.1,y1.2⟩:zb)))
   else
    ze (zP n (x.1,y1.1)) fun y5=>
    bif y5==37 then
     some (LX.out (w64 (y1.1+1),(⟨0,[],0,[],false⟩:zb),(⟨11,[],y2,[],false⟩:zb)))
    else
     some (LX.out (y1.1,(⟨0,[],0,[],false⟩:zb),(⟨10,[],y2,[],y1.2⟩:zb)))) fun j6=>
 some (j6.2.2,j6.1)
theorem ziV(n:Nat)(x:Str×Int):Le (zct n x) (za0 x):=by
 unfold zct za0
 exact(.bind (zha n _) fun _=>(.need (.bind (zfE n _) fun _=>(.join (.bind (zaS n _) fun _=>(.bif (.bind (zbp n _) fun _=> .rfl) (.bind (zH n _) fun _=>(.bif .rfl .rfl)))) fun _=> .rfl))))
def zd3(n:Nat)(x:Str×Int×Str):Option Bool:=
 need (decide (0≤x.2.1)&&(decide (x.2.1≤w64 (x.2.1+(x.2.2.length:Int)))&&decide (w64 (x.2.1+(x.2.2.length:Int))≤(x.1.length:Int)))|| !(decide (w64 ((x.1.length:Int) - x.2.1)≥(x.2.2.length:Int))))<|
 some (bif decide (w64 ((x.1.length:Int) - x.2.1)≥(x.2.2.length:Int))then List.drop x.2.1.toNat (List.take (w64 (x.2.1+(x.2.2.length:Int))).toNat x.1)==x.2.2 else false)
theorem ziK(n:Nat)(x:Str×Int×Str):Le (zd3 n x) (zds x):=by
 unfold zd3 zds
 exact(.need .rfl)
def zbV(n:Nat)(x:Str):Option Str:=
 need (decide (x.length≤maxLen))<|
 zgm n (fun(s1:Int×List UInt8)=>
   bif decide (s1.1<(s1.2.length:Int))then
    need (decide (0≤s1.1)&&decide (s1.1<(s1.2.length:Int)))<|
    ze s1.2[s1.1.toNat]? fun y2=>
    ze (zaZ n (y2.toNat:Int)) fun y3=>
    need (decide (0≤s1.1)&&decide (s1.1<(s1.2.length:Int)))<|
    ze s1.2[s1.1.toNat]? fun y4=>
    ze (Zm y3) fun y5=>
    some (LO.again (w64 (s1.1+1),List.set s1.2 s1.1.toNat y5))
   else
    some (LO.out s1.2):Int×List UInt8→Option (LO (Int×List UInt8) (List UInt8) _)) (0,x) fun o6=>
 some o6
theorem zfY(n:Nat)(x:Str):Le (zbV n x) (QM x):=by
 unfold zbV QM
 exact(.need (.loop (fun _=>(.bif (.need (.bind .rfl fun _=>(.bind (zcZ n _) fun _=>(.need (.bind .rfl fun _=>(.bind .rfl fun _=> .rfl)))))) .rfl)) fun _=> .rfl))
def zd1(n:Nat)(x:Str×Str):Option Bool:=
 ze (zbV n x.1) fun y1=>
 ze (zbV n x.2) fun y2=>
 some (y1==y2)
theorem zls(n:Nat)(x:Str×Str):Le (zd1 n x) (qm x):=by
 unfold zd1 qm
 exact(.bind (zfY n _) fun _=>(.bind (zfY n _) fun _=> .rfl))
def zd2(n:Nat)(x:Str×Int):Option (zb×Int):=
 zgm n (fun(s1:Int)=>
   ze (zn (decide (s1<(x.1.length:Int))) (geti x.1 s1) 0) fun y2=>
   bif bif decide (s1<(x.1.length:Int))then(y2.toNat:Int) != 41 else false then
    ze (qd n (x.1,s1)) fun y3=>
    bif y3 then
     ze (qU n (x.1,s1)) fun y4=>
     some (LO.again y4.2)
    else
     some (LO.again (w64 (s1+1)))
   else
    some (LO.out s1):Int→Option (LO (Int) (Int) _)) x.2 fun o5=>
 some ((⟨8,[],0,[],false⟩:zb),if w64 (o5+1)<(x.1.length:Int)then w64 (o5+1)else(x.1.length:Int))
theorem ziJ(n:Nat)(x:Str×Int):Le (zd2 n x) (zdr x):=by
 unfold zd2 zdr
 exact(.loop (fun _=>(.bind .rfl fun _=>(.bif (.bind (qO n _) fun _=>(.bif (.bind (zan n _) fun _=> .rfl) .rfl)) .rfl))) fun _=> .rfl)
def zaw(n:Nat)(x:Int):Option Bool:=
 some (bif bif bif decide (x≤8)then true else x==11 then true else bif decide (x≥14)then decide (x≤31)else false then true else x==127)
theorem zfF(n:Nat)(x:Int):Le (zaw n x) (qW x):=by
 unfold zaw qW
 exact .rfl
def zgv(n:Nat)(x:Str×Int):Option (zb×Int):=
 ze (Qy n (x.1,x.2)) fun y1=>
 zgm n (fun(s2:Int×zb×zb)=>
   ze (zn (decide (s2.1<(x.1.length:Int))) (geti x.1 s2.1) 0) fun y3=>
   bif bif decide (s2.1<(x.1.length:Int))then(y3.toNat:Int) != 41 else false then
    ze (geti x.1 s2.1) fun y4=>
    ze (Q0 n (y4.toNat:Int)) fun y5=>
    bif y5 then
     ze (Qy n (x.1,s2.1)) fun y6=>
     ze (zn (decide (y6<(x.1.length:Int))) (geti x.1 y6) 0) fun y7=>
     bif bif decide (y6<(x.1.length:Int))then(y7.toNat:Int) != 41 else false then
      ze (zd2 n (x.1,y6)) fun y8=>
      some (LO.ret (y8.1,y8.2))
     else
      some (LO.again (y6,s2.2.1,s2.2.2))
    else
     ze (zn (!(bif bif (y4.toNat:Int)==34 then true else(y4.toNat:Int)==39 then true else(y4.toNat:Int)==40)) (zaw n (y4.toNat:Int)) (default:Bool)) fun y9=>
     ze (zn ((y4.toNat:Int)==92&& !(bif bif bif (y4.toNat:Int)==34 then true else(y4.toNat:Int)==39 then true else(y4.toNat:Int)==40 then true else y9)) (qd n (x.1,s2.1)) (default:Bool)) fun y10=>
     bif bif bif bif bif (y4.toNat:Int)==34 then true else(y4.toNat:Int)==39 then true else(y4.toNat:Int)==40 then true else y9 then true else bif (y4.toNat:Int)==92 then !y10 else false then
      ze (zd2 n (x.1,s2.1)) fun y11=>
      some (LO.ret (y11.1,y11.2))
     else
      bif (y4.toNat:Int)==92 then
       ze (qU n (x.1,s2.1)) fun y12=>
       need (zbZ s2.2.2.text.length y12.1.length)<|
       some (LO.again (y12.2,s2.2.1,(⟨s2.2.2.kind,s2.2.2.text++y12.1,s2.2.2.num,s2.2.2.unit,s2.2.2.flag⟩:zb)))
      else
       need (decide (0≤s2.1)&&(decide (s2.1≤w64 (s2.1+1))&&decide (w64 (s2.1+1)≤(x.1.length:Int))))<|
       need (zbZ s2.2.2.text.length (List.drop s2.1.toNat (List.take (w64 (s2.1+1)).toNat x.1)).length)<|
       some (LO.again (w64 (s2.1+1),s2.2.1,(⟨s2.2.2.kind,s2.2.2.text++List.drop s2.1.toNat (List.take (w64 (s2.1+1)).toNat x.1),s2.2.2.num,s2.2.2.unit,s2.2.2.flag⟩:zb)))
   else
    some (LO.out (s2.1,s2.2.1,s2.2.2)):Int×zb×zb→Option (LO (Int×zb×zb) (Int×zb×zb) _)) (y1,(⟨0,[],0,[],false⟩:zb),(⟨7,[],0,[],false⟩:zb)) fun o13=>
 some (o13.2.2,if w64 (o13.1+1)<(x.1.length:Int)then w64 (o13.1+1)else(x.1.length:Int))
theorem zpc(n:Nat)(x:Str×Int):Le (zgv n x) (ze2 x):=by
 unfold zgv ze2
 exact(.bind (zaT n _) fun _=>(.loop (fun _=>(.bind .rfl fun _=>(.bif (.bind .rfl fun _=>(.bind (zbq n _) fun _=>(.bif (.bind (zaT n _) fun _=>(.bind .rfl fun _=>(.bif (.bind (ziJ n _) fun _=> .rfl) .rfl))) (.bind (.cond (zfF n _)) fun _=>(.bind (.cond (qO n _)) fun _=>(.bif (.bind (ziJ n _) fun _=> .rfl) (.bif (.bind (zan n _) fun _=>(.need .rfl)) (.need (.need .rfl))))))))) .rfl))) fun _=> .rfl))
def ze3(n:Nat)(x:Str×Int):Option (zb×Int):=
 ze (QZ n (x.1,x.2)) fun y1=>
 ze (zP n (x.1,y1.2)) fun y2=>
 bif y2 != 40 then
  some ((⟨1,y1.1,0,[],false⟩:zb),y1.2)
 else
  zW (X:=zb) (
    ze (zd1 n (y1.1,[117,114,108])) fun y3=>
    bif y3 then
     ze (Qy n (x.1,w64 (y1.2+1))) fun y4=>
     ze (zP n (x.1,y4)) fun y5=>
     bif bif y5 != 34 then y5 != 39 else false then
      ze (zgv n (x.1,w64 (y1.2+1))) fun y6=>
      some (LX.ret (y6.1,y6.2))
     else
      some (LX.out (⟨0,[],0,[],false⟩:zb))
    else
     some (LX.out (⟨0,[],0,[],false⟩:zb))) fun j7=>
  some ((⟨2,y1.1,0,[],false⟩:zb),w64 (y1.2+1))
theorem znm(n:Nat)(x:Str×Int):Le (ze3 n x) (zdt x):=by
 unfold ze3 zdt
 exact(.bind (zbp n _) fun _=>(.bind (zH n _) fun _=>(.bif .rfl (.join (.bind (zls n _) fun _=>(.bif (.bind (zaT n _) fun _=>(.bind (zH n _) fun _=>(.bif (.bind (zpc n _) fun _=> .rfl) .rfl))) .rfl)) fun _=> .rfl))))
def zcL(n:Nat)(x:Int):Option Int:=
 bif x==58 then
  some 16
 else
  bif x==59 then
   some 17
  else
   bif x==44 then
    some 18
   else
    bif x==91 then
     some 19
    else
     bif x==93 then
      some 20
     else
      bif x==40 then
       some 21
      else
       bif x==41 then
        some 22
       else
        bif x==123 then
         some 23
        else
         bif x==125 then
          some 24
         else
          some 0
theorem zhc(n:Nat)(x:Int):Le (zcL n x) (zb6 x):=by
 unfold zcL zb6
 exact(.bif .rfl (.bif .rfl (.bif .rfl (.bif .rfl (.bif .rfl (.bif .rfl (.bif .rfl (.bif .rfl (.bif .rfl .rfl)))))))))
def zgu(n:Nat)(x:Str×Int):Option (zb×Int):=
 ze (geti x.1 x.2) fun y1=>
 ze (Q0 n (y1.toNat:Int)) fun y2=>
 bif y2 then
  ze (Qy n (x.1,x.2)) fun y3=>
  some ((⟨13,[],0,[],false⟩:zb),y3)
 else
  bif bif (y1.toNat:Int)==34 then true else(y1.toNat:Int)==39 then
   ze (zc6 n (x.1,x.2)) fun y4=>
   some (y4.1,y4.2)
  else
   ze (zn (decide (w64 (x.2+1)<(x.1.length:Int))&&(y1.toNat:Int)==35) (geti x.1 (w64 (x.2+1))) 0) fun y5=>
   ze (zn (decide (w64 (x.2+1)<(x.1.length:Int))&&(y1.toNat:Int)==35) (zbu n (y5.toNat:Int)) (default:Bool)) fun y6=>
   ze (zn (!(bif decide (w64 (x.2+1)<(x.1.length:Int))then y6 else false)&&(y1.toNat:Int)==35) (qd n (x.1,w64 (x.2+1))) (default:Bool)) fun y7=>
   bif bif (y1.toNat:Int)==35 then bif bif decide (w64 (x.2+1)<(x.1.length:Int))then y6 else false then true else y7 else false then
    ze (QZ n (x.1,w64 (x.2+1))) fun y8=>
    ze (Qx n (x.1,w64 (x.2+1))) fun y9=>
    some ((⟨4,y8.1,0,[],y9⟩:zb),y8.2)
   else
    ze (zbE n (x.1,x.2)) fun y10=>
    bif y10 then
     ze (zct n (x.1,x.2)) fun y11=>
     some (y11.1,y11.2)
    else
     ze (zd3 n (x.1,x.2,[45,45,62])) fun y12=>
     bif y12 then
      some ((⟨15,[],0,[],false⟩:zb),w64 (x.2+3))
     else
      ze (zd3 n (x.1,x.2,[60,33,45,45])) fun y13=>
      bif y13 then
       some ((⟨14,[],0,[],false⟩:zb),w64 (x.2+4))
      else
       ze (zn ((y1.toNat:Int)==64) (Qx n (x.1,w64 (x.2+1))) (default:Bool)) fun y14=>
       bif bif (y1.toNat:Int)==64 then y14 else false then
        ze (QZ n (x.1,w64 (x.2+1))) fun y15=>
        some ((⟨3,y15.1,0,[],false⟩:zb),y15.2)
       else
        ze (Qx n (x.1,x.2)) fun y16=>
        bif y16 then
         ze (ze3 n (x.1,x.2)) fun y17=>
         some (y17.1,y17.2)
        else
         ze (zcL n (y1.toNat:Int)) fun y18=>
         bif y18 != 0 then
          ze (zcL n (y1.toNat:Int)) fun y19=>
          some ((⟨y19,[],0,[],false⟩:zb),w64 (x.2+1))
         else
          need (decide (0≤x.2)&&(decide (x.2≤w64 (x.2+1))&&decide (w64 (x.2+1)≤(x.1.length:Int))))<|
          some ((⟨9,List.drop x.2.toNat (List.take (w64 (x.2+1)).toNat x.1),0,[],false⟩:zb),w64 (x.2+1))
theorem zpb(n:Nat)(x:Str×Int):Le (zgu n x) (ze0 x):=by
 unfold zgu ze0
 exact(.bind .rfl fun _=>(.bind (zbq n _) fun _=>(.bif (.bind (zaT n _) fun _=> .rfl) (.bif (.bind (zkk n _) fun _=> .rfl) (.bind .rfl fun _=>(.bind (.cond (zeK n _)) fun _=>(.bind (.cond (qO n _)) fun _=>(.bif (.bind (zbp n _) fun _=>(.bind (zaS n _) fun _=> .rfl)) (.bind (zhX n _) fun _=>(.bif (.bind (ziV n _) fun _=> .rfl) (.bind (ziK n _) fun _=>(.bif .rfl (.bind (ziK n _) fun _=>(.bif .rfl (.bind (.cond (zaS n _)) fun _=>(.bif (.bind (zbp n _) fun _=> .rfl) (.bind (zaS n _) fun _=>(.bif (.bind (znm n _) fun _=> .rfl) (.bind (zhc n _) fun _=>(.bif (.bind (zhc n _) fun _=> .rfl) (.need .rfl)))))))))))))))))))))
def zd4(n:Nat)(x:Int):Option Bool:=
 ze (Zm x) fun y1=>
 ze (zgu n ([y1,(10:UInt8)],0)) fun y2=>
 some (bif bif bif bif decide (x≥1)then decide (x≤127)else false then x != 12 else false then x != 13 else false then y2.1.kind==9 else false)
theorem zlt(n:Nat)(x:Int):Le (zd4 n x) (qw x):=by
 unfold zd4 qw
 exact(.bind .rfl fun _=>(.bind (zpb n _) fun _=> .rfl))
def zcG(n:Nat)(x:Int):Option Bool:=
 some (bif decide (48≤x)then decide (x≤57)else false)
theorem zg9(n:Nat)(x:Int):Le (zcG n x) (ZU x):=by
 unfold zcG ZU
 exact .rfl
def zdQ(n:Nat)(x:Int):Option Bool:=
 some (bif bif decide (97≤ibOr IntKind.u8 x 32)then decide (ibOr IntKind.u8 x 32≤122)else false then decide (x<128)else false)
theorem zfX(n:Nat)(x:Int):Le (zdQ n x) (QG x):=by
 unfold zdQ QG
 exact .rfl
def zeD(n:Nat)(x:Int):Option Bool:=
 ze (zdQ n x) fun y1=>
 ze (zn (!y1) (zcG n x) (default:Bool)) fun y2=>
 some (bif bif bif bif y1 then true else y2 then true else x==95 then true else x==45 then true else decide (x≥128))
theorem znk(n:Nat)(x:Int):Le (zeD n x) (QX x):=by
 unfold zeD QX
 exact(.bind (zfX n _) fun _=>(.bind (.cond (zg9 n _)) fun _=> .rfl))
def zhA(n:Nat)(x:Int):Option Bool:=
 some (bif bif x==32 then true else x==9 then true else x==10)
theorem zfZ(n:Nat)(x:Int):Le (zhA n x) (ZA x):=by
 unfold zhA ZA
 exact .rfl
def zam(n:Nat)(x:Int×Int×Int):Option Bool:=
 some (bif decide (x.2.1≤x.1)then decide (x.1≤x.2.2)else false)
theorem zco(n:Nat)(x:Int×Int×Int):Le (zam n x) (Zl x):=by
 unfold zam Zl
 exact .rfl
def zb2(n:Nat)(x:Int):Option Bool:=
 ze (zam n (x,48,57)) fun y1=>
 some y1
theorem zbr(n:Nat)(x:Int):Le (zb2 n x) (Zc x):=by
 unfold zb2 Zc
 exact(.bind (zco n _) fun _=> .rfl)
def zk6(n:Nat)(x:Int):Option Int:=
 ze (zb2 n x) fun y1=>
 bif y1 then
  some (w64 (x - 48))
 else
  ze (zn (x != (-1)) (zam n (ibOr IntKind.i64 x 32,97,102)) (default:Bool)) fun y2=>
  bif bif bif bif x != (-1)then y2 else false then decide (x>64)else false then decide (x<128)else false then
   some (w64 (w64 (ibOr IntKind.i64 x 32 - 97)+10))
  else
   some (-1)
theorem ziL(n:Nat)(x:Int):Le (zk6 n x) (zal x):=by
 unfold zk6 zal
 exact(.bind (zbr n _) fun _=>(.bif .rfl (.bind (.cond (zco n _)) fun _=>(.bif .rfl .rfl))))
def zd6(n:Nat)(x:Int):Option Bool:=
 ze (zam n (ibOr IntKind.i64 x 32,97,122)) fun y1=>
 some (bif bif bif bif y1 then decide (x<128)else false then decide (x>64)else false then true else x==95 then true else decide (x≥128))
theorem zc0(n:Nat)(x:Int):Le (zd6 n x) (Qn x):=by
 unfold zd6 Qn
 exact(.bind (zco n _) fun _=> .rfl)
def zf9(n:Nat)(x:Int):Option Bool:=
 ze (zd6 n x) fun y1=>
 ze (zn (!y1) (zb2 n x) (default:Bool)) fun y2=>
 some (bif bif y1 then true else y2 then true else x==45)
theorem zeL(n:Nat)(x:Int):Le (zf9 n x) (Qe x):=by
 unfold zf9 Qe
 exact(.bind (zc0 n _) fun _=>(.bind (.cond (zbr n _)) fun _=> .rfl))
end Go.Lv.VT
