/- Laws for the plain texts: loops that look for something; bytes. -/
import Derived.Test.YtcdeccnjlkkejaaGreatDoorLf
import Derived.Test.YtcdeccnjlkkejaaGreatDoorTx
set_option linter.unusedSimpArgs false
set_option linter.unusedVariables false
namespace Go.Lv.VT
abbrev big:Nat:=4194304
theorem Xk{i n:Nat}(h:i<n):decide ((i:Int)<(n:Int))=true:=La (by omega)
theorem Hl(n:Nat):decide ((n:Int)<(n:Int))=false:=Ib (by omega)
theorem Qd{i n:Nat}(h:i<n)(hn:n<=big):w64 ((i:Int)+1)=((i+1:Nat):Int):=by rw[w64,Gm (by omega) (by unfold big at hn;omega)];omega
theorem Mm{α:Type}(b:Bool)(v d:α):zu b (some v) d=some (bif b then v else d):=by cases b<;>rfl
theorem mR {α X R:Type} {step:Int->Option (LO Int X R)} {k:X->Option R} (l:List α) (q:α->Option R) (x:X)
  (hg: ∀(i:Nat) (h:i<l.length),step (i:Int)=some (match q l[i]with|some r=> .ret r|none=> .again ((i+1:Nat):Int)))
  (hf:step (l.length:Int)=some (.out x)):ZC step 0 k=match l.findSome? q with|some r=>some r|none=>k x:=by
 have key: ∀(m:List α) (i:Nat),l.drop i=m->i<=l.length-> ∃n,Qs step n (i:Int)=some (match m.findSome? q with|some r=> .ret r|none=> .out x):=by
  intro m
  induction m with
  |nil=>
   intro i hd hi;have:i=l.length:=by have:=Ff.1 hd;omega
   subst this;exact⟨1,by simp only[Qs,hf,List.findSome?_nil]⟩
  |cons v m ih=>
   intro i hd hi;have hlt:i<l.length:=by
    rcases Sc i l.length with h|h
    ·exact h
    ·rw[Pe h]at hd;cases hd
   have hv:l[i]=v:=by have:=Ub hlt;rw[hd]at this;injection this with h1 _;exact h1.symm
   have hs:=hg i hlt;rw[hv]at hs;cases hq:q v with
   |some r=> rw[hq]at hs;exact⟨1,by simp only[Qs,hs,List.findSome?_cons,hq]⟩
   |none=> rw[hq]at hs;obtain⟨n,hn⟩:=ih (i+1) (by rw[Ub hlt]at hd;injection hd) (by omega);refine⟨n+1,?_⟩;simp only[Qs,hs,List.findSome?_cons,hq];exact hn
 obtain⟨n,hn⟩:=key l 0 rfl (by omega);replace hn:Qs step n 0=_:=hn;rw[Wp (Xn hn)];cases l.findSome? q<;>rfl
theorem EI{α R:Type}(p:α->Bool)(r:R): ∀(l:List α),l.findSome? (fun v=>bif p v then none else some r)=bif l.all p then none else some r
 |[]=>rfl
 |v::l=>by
  rw[List.findSome?_cons,Sd];cases p v with
  |false=>rfl
  |true=>exact EI p r l
def idxS{α:Type}(p:α->Bool):List α->Int
 |[]=> -1
 |v::l=>bif p v then 0 else bif decide (idxS p l<0)then -1 else idxS p l+1
set_option maxRecDepth 100000
def ZX(n:Nat)(x:Int):Option Bool:=
 some (bif decide (x>=48)then decide (x<=57)else false)
theorem qp(n:Nat)(x:Int):Le (ZX n x) (zX x):=by unfold ZX zX;exact .rfl
def ou(n:Nat)(x:Int):Option Bool:=
 some (bif bif x==10 then true else x==9 then true else x==32)
theorem JF(n:Nat)(x:Int):Le (ou n x) (qG x):=by unfold ou qG;exact .rfl
def zV(n:Nat)(x:Str×Int):Option Int:=
 bif decide (x.2<(x.1.length:Int))then
  ze (geti x.1 x.2) fun y1=>
  some (y1.toNat:Int)
 else
  some 0
theorem zM(n:Nat)(x:Str×Int):Le (zV n x) (zU x):=by unfold zV zU;exact(.bif (.bind .rfl fun _=> .rfl) .rfl)
def QP(n:Nat)(x:Str×Int):Option Int:=
 Ri n (fun(s1:Int)=>
   ze (zV n (x.1,s1)) fun y2=>
   ze (ou n y2) fun y3=>
   bif y3 then
    some (LO.again (w64 (s1+1)))
   else
    some (LO.out s1):Int->Option (LO (Int) (Int) _)) x.2 fun o4=>
 some o4
theorem wE(n:Nat)(x:Str×Int):Le (QP n x) (qx x):=by unfold QP qx;exact(.loop (fun _=>(.bind (zM n _) fun _=>(.bind (JF n _) fun _=>(.bif .rfl .rfl)))) fun _=> .rfl)
def bE(n:Nat)(x:Unit):Option Str:=
 some [(239:UInt8),(191:UInt8),(189:UInt8)]
theorem OU(n:Nat)(x:Unit):Le (bE n x) (Kq x):=by unfold bE Kq;exact .rfl
def kz(n:Nat)(x:Int):Option Int:=
 bif bif decide (x>=65)then decide (x<=90)else false then
  some (wu8 (wu8 (x - 65)+97))
 else
  some x
theorem kK(n:Nat)(x:Int):Le (kz n x) (qF x):=by unfold kz qF;exact(.bif .rfl .rfl)
def dz(n:Nat)(x:Int):Option Int:=
 ze (ZX n x) fun y1=>
 bif y1 then
  some (w64 (wu8 (x - 48)))
 else
  ze (kz n x) fun y2=>
  bif bif decide (y2>=97)then decide (y2<=102)else false then
   some (w64 (w64 (wu8 (y2 - 97))+10))
  else
   some (-1)
theorem CK(n:Nat)(x:Int):Le (dz n x) (Iq x):=by unfold dz Iq;exact(.bind (qp n _) fun _=>(.bif .rfl (.bind (kK n _) fun _=>(.bif .rfl .rfl))))
def IK(n:Nat)(x:Int):Option Str:=
 bif bif bif x==0 then true else bif decide (x>=55296)then decide (x<=57343)else false then true else decide (x>1114111)then
  ze (bE n ()) fun y1=>
  some y1
 else
  bif decide (x<128)then
   ze (Zv (wu8 x)) fun y2=>
   some [y2]
  else
   bif decide (x<2048)then
    ze (Zv (wu8 (w64 (192+w64 (Int.tdiv x 64))))) fun y3=>
    ze (Zv (wu8 (w64 (128+Int.tmod x 64)))) fun y4=>
    some [y3,y4]
   else
    bif decide (x<65536)then
     ze (Zv (wu8 (w64 (224+w64 (Int.tdiv x 4096))))) fun y5=>
     ze (Zv (wu8 (w64 (128+Int.tmod (w64 (Int.tdiv x 64)) 64)))) fun y6=>
     ze (Zv (wu8 (w64 (128+Int.tmod x 64)))) fun y7=>
     some [y5,y6,y7]
    else
     ze (Zv (wu8 (w64 (240+w64 (Int.tdiv x 262144))))) fun y8=>
     ze (Zv (wu8 (w64 (128+Int.tmod (w64 (Int.tdiv x 4096)) 64)))) fun y9=>
     ze (Zv (wu8 (w64 (128+Int.tmod (w64 (Int.tdiv x 64)) 64)))) fun y10=>
     ze (Zv (wu8 (w64 (128+Int.tmod x 64)))) fun y11=>
     some [y8,y9,y10,y11]
theorem zoR(n:Nat)(x:Int):Le (IK n x) (Xz x):=by unfold IK Xz;exact(.bif (.bind (OU n _) fun _=> .rfl) (.bif (.bind .rfl fun _=> .rfl) (.bif (.bind .rfl fun _=>(.bind .rfl fun _=> .rfl)) (.bif (.bind .rfl fun _=>(.bind .rfl fun _=>(.bind .rfl fun _=> .rfl))) (.bind .rfl fun _=>(.bind .rfl fun _=>(.bind .rfl fun _=>(.bind .rfl fun _=> .rfl))))))))
def Qm(n:Nat)(x:Str×Int):Option (Str×Int):=
 bif decide (w64 (x.2+1)>=(x.1.length:Int))then
  ze (bE n ()) fun y1=>
  some (y1,w64 (x.2+1))
 else
  ze (geti x.1 (w64 (x.2+1))) fun y2=>
  ze (dz n (y2.toNat:Int)) fun y3=>
  bif decide (y3<0)then
   need (decide (0<=w64 (x.2+1))&&(decide (w64 (x.2+1)<=w64 (w64 (x.2+1)+1))&&decide (w64 (w64 (x.2+1)+1)<=(x.1.length:Int))))<|
   some (List.drop (w64 (x.2+1)).toNat (List.take (w64 (w64 (x.2+1)+1)).toNat x.1),w64 (w64 (x.2+1)+1))
  else
   Ri n (fun(s4:Int×Int)=>
     ze (zu (bif decide (s4.2<(x.1.length:Int))then decide (s4.2<w64 (w64 (x.2+1)+6))else false) (geti x.1 s4.2) 0) fun y5=>
     ze (zu (bif decide (s4.2<(x.1.length:Int))then decide (s4.2<w64 (w64 (x.2+1)+6))else false) (dz n (y5.toNat:Int)) (default:Int)) fun y6=>
     bif bif bif decide (s4.2<(x.1.length:Int))then decide (s4.2<w64 (w64 (x.2+1)+6))else false then decide (y6>=0)else false then
      ze (geti x.1 s4.2) fun y7=>
      ze (dz n (y7.toNat:Int)) fun y8=>
      some (LO.again (w64 (w64 (16*s4.1)+y8),w64 (s4.2+1)))
     else
      some (LO.out (s4.1,s4.2)):Int×Int->Option (LO (Int×Int) (Int×Int) _)) (0,w64 (x.2+1)) fun o9=>
   zW (X:=Int) (
     ze (zV n (x.1,o9.2)) fun y10=>
     ze (ou n y10) fun y11=>
     bif y11 then
      some (LX.out (w64 (o9.2+1)))
     else
      some (LX.out o9.2)) fun j12=>
   ze (IK n o9.1) fun y13=>
   some (y13,j12)
theorem RF(n:Nat)(x:Str×Int):Le (Qm n x) (ZI x):=by unfold Qm ZI;exact(.bif (.bind (OU n _) fun _=> .rfl) (.bind .rfl fun _=>(.bind (CK n _) fun _=>(.bif (.need .rfl) (.loop (fun _=>(.bind .rfl fun _=>(.bind (.cond (CK n _)) fun _=>(.bif (.bind .rfl fun _=>(.bind (CK n _) fun _=> .rfl)) .rfl)))) fun _=>(.join (.bind (zM n _) fun _=>(.bind (JF n _) fun _=>(.bif .rfl .rfl))) fun _=>(.bind (zoR n _) fun _=> .rfl)))))))
def gK(n:Nat)(x:Str×Int):Option (zb×Int):=
 ze (geti x.1 x.2) fun y1=>
 Ri n (fun(s2:Int×zb×zb)=>
   bif decide (s2.1<(x.1.length:Int))then
    ze (geti x.1 s2.1) fun y3=>
    bif (y3.toNat:Int)==(y1.toNat:Int)then
     some (LO.ret (s2.2.2,w64 (s2.1+1)))
    else
     ze (geti x.1 s2.1) fun y4=>
     bif (y4.toNat:Int)==10 then
      some (LO.ret ((⟨6,[],0,[],false⟩:zb),s2.1))
     else
      ze (geti x.1 s2.1) fun y5=>
      bif bif (y5.toNat:Int)==92 then w64 (s2.1+1)==(x.1.length:Int)else false then
       some (LO.again (w64 (s2.1+1),s2.2.1,s2.2.2))
      else
       ze (geti x.1 s2.1) fun y6=>
       ze (zu ((y6.toNat:Int)==92) (geti x.1 (w64 (s2.1+1))) 0) fun y7=>
       bif bif (y6.toNat:Int)==92 then(y7.toNat:Int)==10 else false then
        some (LO.again (w64 (s2.1+2),s2.2.1,s2.2.2))
       else
        ze (geti x.1 s2.1) fun y8=>
        bif (y8.toNat:Int)==92 then
         ze (Qm n (x.1,s2.1)) fun y9=>
         need (vg s2.2.2.text.length y9.1.length)<|
         some (LO.again (y9.2,s2.2.1,(⟨s2.2.2.kind,s2.2.2.text++y9.1,s2.2.2.num,s2.2.2.unit,s2.2.2.flag⟩:zb)))
        else
         need (decide (0<=s2.1)&&(decide (s2.1<=w64 (s2.1+1))&&decide (w64 (s2.1+1)<=(x.1.length:Int))))<|
         need (vg s2.2.2.text.length (List.drop s2.1.toNat (List.take (w64 (s2.1+1)).toNat x.1)).length)<|
         some (LO.again (w64 (s2.1+1),s2.2.1,(⟨s2.2.2.kind,s2.2.2.text++List.drop s2.1.toNat (List.take (w64 (s2.1+1)).toNat x.1),s2.2.2.num,s2.2.2.unit,s2.2.2.flag⟩:zb)))
   else
    some (LO.out (s2.1,s2.2.1,s2.2.2)):Int×zb×zb->Option (LO (Int×zb×zb) (Int×zb×zb) _)) (w64 (x.2+1),(⟨0,[],0,[],false⟩:zb),(⟨5,[],0,[],false⟩:zb)) fun o10=>
 some (o10.2.2,o10.1)
theorem zlv(n:Nat)(x:Str×Int):Le (gK n x) (pz x):=by unfold gK pz;exact(.bind .rfl fun _=>(.loop (fun _=>(.bif (.bind .rfl fun _=>(.bif .rfl (.bind .rfl fun _=>(.bif .rfl (.bind .rfl fun _=>(.bif .rfl (.bind .rfl fun _=>(.bind .rfl fun _=>(.bif .rfl (.bind .rfl fun _=>(.bif (.bind (RF n _) fun _=>(.need .rfl)) (.need (.need .rfl))))))))))))) .rfl)) fun _=> .rfl))
def EA(n:Nat)(x:Int):Option Bool:=
 ze (kz n x) fun y1=>
 some (bif bif bif decide (y1>=97)then decide (y1<=122)else false then true else x==95 then true else decide (x>=128))
theorem nK(n:Nat)(x:Int):Le (EA n x) (Qv x):=by unfold EA Qv;exact(.bind (kK n _) fun _=> .rfl)
def DF(n:Nat)(x:Int):Option Bool:=
 ze (EA n x) fun y1=>
 ze (zu (!y1) (ZX n x) (default:Bool)) fun y2=>
 some (bif bif y1 then true else y2 then true else x==45)
theorem FV(n:Nat)(x:Int):Le (DF n x) (Q7 x):=by unfold DF Q7;exact(.bind (nK n _) fun _=>(.bind (.cond (qp n _)) fun _=> .rfl))
def qw(n:Nat)(x:Str×Int):Option Bool:=
 ze (zV n (x.1,x.2)) fun y1=>
 ze (zu (y1==92) (zV n (x.1,w64 (x.2+1))) (default:Int)) fun y2=>
 some (bif y1==92 then y2 != 10 else false)
theorem Qi(n:Nat)(x:Str×Int):Le (qw n x) (Zu x):=by unfold qw Zu;exact(.bind (zM n _) fun _=>(.bind (.cond (zM n _)) fun _=> .rfl))
def pu(n:Nat)(x:Str×Int):Option (Str×Int):=
 Ri n (fun(s1:Int×Str)=>
   ze (zu (decide (s1.1<(x.1.length:Int))) (geti x.1 s1.1) 0) fun y2=>
   ze (zu (decide (s1.1<(x.1.length:Int))) (DF n (y2.toNat:Int)) (default:Bool)) fun y3=>
   bif bif decide (s1.1<(x.1.length:Int))then y3 else false then
    need (decide (0<=s1.1)&&(decide (s1.1<=w64 (s1.1+1))&&decide (w64 (s1.1+1)<=(x.1.length:Int))))<|
    need (vg s1.2.length (List.drop s1.1.toNat (List.take (w64 (s1.1+1)).toNat x.1)).length)<|
    some (LO.again (w64 (s1.1+1),s1.2++List.drop s1.1.toNat (List.take (w64 (s1.1+1)).toNat x.1)))
   else
    ze (zu (decide (s1.1<(x.1.length:Int))) (qw n (x.1,s1.1)) (default:Bool)) fun y4=>
    bif bif decide (s1.1<(x.1.length:Int))then y4 else false then
     ze (Qm n (x.1,s1.1)) fun y5=>
     need (vg s1.2.length y5.1.length)<|
     some (LO.again (y5.2,s1.2++y5.1))
    else
     some (LO.ret (s1.2,s1.1)):Int×Str->Option (LO (Int×Str) (Unit) _)) (x.2,[]) fun o6=>
 none
theorem KF(n:Nat)(x:Str×Int):Le (pu n x) (Qa x):=by unfold pu Qa;exact(.loop (fun _=>(.bind .rfl fun _=>(.bind (.cond (FV n _)) fun _=>(.bif (.need (.need .rfl)) (.bind (.cond (Qi n _)) fun _=>(.bif (.bind (RF n _) fun _=>(.need .rfl)) .rfl)))))) fun _=> .none)
def QO(n:Nat)(x:Str×Int):Option Bool:=
 ze (zV n (x.1,x.2)) fun y1=>
 bif y1==45 then
  ze (zV n (x.1,w64 (x.2+1))) fun y2=>
  ze (EA n y2) fun y3=>
  ze (zu (!y3) (zV n (x.1,w64 (x.2+1))) (default:Int)) fun y4=>
  ze (zu (!(bif y3 then true else y4==45)) (qw n (x.1,w64 (x.2+1))) (default:Bool)) fun y5=>
  some (bif bif y3 then true else y4==45 then true else y5)
 else
  ze (zV n (x.1,x.2)) fun y6=>
  ze (EA n y6) fun y7=>
  ze (zu (!y7) (qw n (x.1,x.2)) (default:Bool)) fun y8=>
  some (bif y7 then true else y8)
theorem xE(n:Nat)(x:Str×Int):Le (QO n x) (qU x):=by unfold QO qU;exact(.bind (zM n _) fun _=>(.bif (.bind (zM n _) fun _=>(.bind (nK n _) fun _=>(.bind (.cond (zM n _)) fun _=>(.bind (.cond (Qi n _)) fun _=> .rfl)))) (.bind (zM n _) fun _=>(.bind (nK n _) fun _=>(.bind (.cond (Qi n _)) fun _=> .rfl)))))
def mK(n:Nat)(x:Str×Int):Option Bool:=
 zW (X:=Int) (
   ze (zV n (x.1,x.2)) fun y1=>
   bif bif y1==43 then true else y1==45 then
    some (LX.out (w64 (x.2+1)))
   else
    some (LX.out x.2)) fun j2=>
 zW (X:=Int) (
   ze (zV n (x.1,j2)) fun y3=>
   bif y3==46 then
    some (LX.out (w64 (j2+1)))
   else
    some (LX.out j2)) fun j4=>
 ze (zV n (x.1,j4)) fun y5=>
 ze (ZX n y5) fun y6=>
 some y6
theorem ziM(n:Nat)(x:Str×Int):Le (mK n x) (GA x):=by unfold mK GA;exact(.join (.bind (zM n _) fun _=>(.bif .rfl .rfl)) fun _=>(.join (.bind (zM n _) fun _=>(.bif .rfl .rfl)) fun _=>(.bind (zM n _) fun _=>(.bind (qp n _) fun _=> .rfl))))
def BA(n:Nat)(x:Str×Int):Option Int:=
 Ri n (fun(s1:Int)=>
   ze (zV n (x.1,s1)) fun y2=>
   ze (ZX n y2) fun y3=>
   bif y3 then
    some (LO.again (w64 (s1+1)))
   else
    some (LO.out s1):Int->Option (LO (Int) (Int) _)) x.2 fun o4=>
 some o4
theorem tK(n:Nat)(x:Str×Int):Le (BA n x) (Q9 x):=by unfold BA Q9;exact(.loop (fun _=>(.bind (zM n _) fun _=>(.bind (qp n _) fun _=>(.bif .rfl .rfl)))) fun _=> .rfl)
def uK(n:Nat)(x:Str×Int):Option (Int×Bool):=
 zW (X:=Int) (
   ze (zV n (x.1,x.2)) fun y1=>
   bif bif y1==43 then true else y1==45 then
    some (LX.out (w64 (x.2+1)))
   else
    some (LX.out x.2)) fun j2=>
 ze (BA n (x.1,j2)) fun y3=>
 zW (X:=Int×Bool) (
   ze (zV n (x.1,y3)) fun y4=>
   ze (zu (y4==46) (zV n (x.1,w64 (y3+1))) (default:Int)) fun y5=>
   ze (zu (y4==46) (ZX n y5) (default:Bool)) fun y6=>
   bif bif y4==46 then y6 else false then
    ze (BA n (x.1,w64 (y3+1))) fun y7=>
    some (LX.out (y7,false))
   else
    some (LX.out (y3,true))) fun j8=>
 zW (X:=Int×Bool) (
   ze (zV n (x.1,j8.1)) fun y9=>
   bif bif y9==101 then true else y9==69 then
    zW (X:=Int×Bool×Int) (
      ze (zV n (x.1,w64 (j8.1+1))) fun y10=>
      bif bif y10==43 then true else y10==45 then
       some (LX.out (j8.1,j8.2,w64 (w64 (j8.1+1)+1)))
      else
       some (LX.out (j8.1,j8.2,w64 (j8.1+1)))) fun j11=>
    ze (zV n (x.1,j11.2.2)) fun y12=>
    ze (ZX n y12) fun y13=>
    bif y13 then
     ze (BA n (x.1,j11.2.2)) fun y14=>
     some (LX.out (y14,false))
    else
     some (LX.out (j11.1,j11.2.1))
   else
    some (LX.out (j8.1,j8.2))) fun j15=>
 some (j15.1,j15.2)
theorem zhS(n:Nat)(x:Str×Int):Le (uK n x) (Q8 x):=by unfold uK Q8;exact(.join (.bind (zM n _) fun _=>(.bif .rfl .rfl)) fun _=>(.bind (tK n _) fun _=>(.join (.bind (zM n _) fun _=>(.bind (.cond (zM n _)) fun _=>(.bind (.cond (qp n _)) fun _=>(.bif (.bind (tK n _) fun _=> .rfl) .rfl)))) fun _=>(.join (.bind (zM n _) fun _=>(.bif (.join (.bind (zM n _) fun _=>(.bif .rfl .rfl)) fun _=>(.bind (zM n _) fun _=>(.bind (qp n _) fun _=>(.bif (.bind (tK n _) fun _=> .rfl) .rfl)))) .rfl)) fun _=> .rfl))))
def yK(n:Nat)(x:Str):Option Int:=
 ze (geti x 0) fun y1=>
 zW (X:=Str×Int×Int) (
   ze (geti x 0) fun y2=>
   bif bif (y2.toNat:Int)==43 then true else(y1.toNat:Int)==45 then
    some (LX.out ([],3,1))
   else
    some (LX.out ([],3,0))) fun j3=>
 Ri n (fun(s4:Str×Int)=>
   ze (zV n (x,s4.2)) fun y5=>
   ze (ZX n y5) fun y6=>
   bif y6 then
    need (decide (0<=s4.2)&&(decide (s4.2<=w64 (s4.2+1))&&decide (w64 (s4.2+1)<=(x.length:Int))))<|
    need (vg s4.1.length (List.drop s4.2.toNat (List.take (w64 (s4.2+1)).toNat x)).length)<|
    some (LO.again (s4.1++List.drop s4.2.toNat (List.take (w64 (s4.2+1)).toNat x),w64 (s4.2+1)))
   else
    some (LO.out (s4.1,s4.2)):Str×Int->Option (LO (Str×Int) (Str×Int) _)) (j3.1,j3.2.2) fun o7=>
 zW (X:=Str×Int×Int) (
   ze (zV n (x,o7.2)) fun y8=>
   bif y8==46 then
    Ri n (fun(s9:Str×Int×Int)=>
      ze (zV n (x,s9.2.2)) fun y10=>
      ze (ZX n y10) fun y11=>
      bif y11 then
       need (decide (0<=s9.2.2)&&(decide (s9.2.2<=w64 (s9.2.2+1))&&decide (w64 (s9.2.2+1)<=(x.length:Int))))<|
       need (vg s9.1.length (List.drop s9.2.2.toNat (List.take (w64 (s9.2.2+1)).toNat x)).length)<|
       some (LO.again (s9.1++List.drop s9.2.2.toNat (List.take (w64 (s9.2.2+1)).toNat x),w64 (s9.2.1 - 1),w64 (s9.2.2+1)))
      else
       some (LO.out (s9.1,s9.2.1,s9.2.2)):Str×Int×Int->Option (LO (Str×Int×Int) (Str×Int×Int) _)) (o7.1,j3.2.1,w64 (o7.2+1)) fun o12=>
    some (LX.out (o12.1,o12.2.1,o12.2.2))
   else
    some (LX.out (o7.1,j3.2.1,o7.2))) fun j13=>
 zW (X:=Int) (
   bif decide (j13.2.2<(x.length:Int))then
    ze (geti x (w64 (j13.2.2+1))) fun y14=>
    zW (X:=Int×Int) (
      ze (geti x (w64 (j13.2.2+1))) fun y15=>
      bif bif (y15.toNat:Int)==43 then true else(y14.toNat:Int)==45 then
       some (LX.out (j13.2.1,w64 (w64 (j13.2.2+1)+1)))
      else
       some (LX.out (j13.2.1,w64 (j13.2.2+1)))) fun j16=>
    Ri n (fun(s17:Int×Int)=>
      bif decide (s17.1<(x.length:Int))then
       ze (geti x s17.1) fun y18=>
       some (LO.again (w64 (s17.1+1),if w64 (w64 (10*s17.2)+w64 (wu8 ((y18.toNat:Int) - 48)))<10000 then w64 (w64 (10*s17.2)+w64 (wu8 ((y18.toNat:Int) - 48)))else 10000))
      else
       some (LO.out s17.2):Int×Int->Option (LO (Int×Int) (Int) _)) (j16.2,0) fun o19=>
    zW (X:=Int×Int) (
      bif (y14.toNat:Int)==45 then
       some (LX.out (j16.1,w64 (0 - o19)))
      else
       some (LX.out (j16.1,o19))) fun j20=>
    some (LX.out (w64 (j20.1+j20.2)))
   else
    some (LX.out j13.2.1)) fun j21=>
 Ri n (fun(s22:Int×Int)=>
   bif bif decide (s22.2<w64 ((j13.1.length:Int)+j21))then decide (s22.2<(j13.1.length:Int))else false then
    ze (geti j13.1 s22.2) fun y23=>
    some (LO.again (if w64 (w64 (10*s22.1)+w64 (wu8 ((y23.toNat:Int) - 48)))<1000000000000 then w64 (w64 (10*s22.1)+w64 (wu8 ((y23.toNat:Int) - 48)))else 1000000000000,w64 (s22.2+1)))
   else
    some (LO.out s22.1):Int×Int->Option (LO (Int×Int) (Int) _)) (0,0) fun o24=>
 Ri n (fun(s25:Int×Int)=>
   bif bif bif decide (s25.1>0)then decide (s25.2>0)else false then decide (s25.2<1000000000000)else false then
    some (LO.again (w64 (s25.1 - 1),if w64 (10*s25.2)<1000000000000 then w64 (10*s25.2)else 1000000000000))
   else
    some (LO.out s25.2):Int×Int->Option (LO (Int×Int) (Int) _)) (j21,o24) fun o26=>
 bif (y1.toNat:Int)==45 then
  some (w64 (0 - o26))
 else
  some o26
theorem zgk(n:Nat)(x:Str):Le (yK n x) (Qn x):=by unfold yK Qn;exact(.bind .rfl fun _=>(.join (.bind .rfl fun _=>(.bif .rfl .rfl)) fun _=>(.loop (fun _=>(.bind (zM n _) fun _=>(.bind (qp n _) fun _=>(.bif (.need (.need .rfl)) .rfl)))) fun _=>(.join (.bind (zM n _) fun _=>(.bif (.loop (fun _=>(.bind (zM n _) fun _=>(.bind (qp n _) fun _=>(.bif (.need (.need .rfl)) .rfl)))) fun _=> .rfl) .rfl)) fun _=>(.join (.bif (.bind .rfl fun _=>(.join (.bind .rfl fun _=>(.bif .rfl .rfl)) fun _=>(.loop (fun _=>(.bif (.bind .rfl fun _=> .rfl) .rfl)) fun _=>(.join (.bif .rfl .rfl) fun _=> .rfl)))) .rfl) fun _=>(.loop (fun _=>(.bif (.bind .rfl fun _=> .rfl) .rfl)) fun _=>(.loop (fun _=>(.bif .rfl .rfl)) fun _=>(.bif .rfl .rfl))))))))
def pK(n:Nat)(x:Str×Int):Option (zb×Int):=
 ze (uK n (x.1,x.2)) fun y1=>
 need (decide (0<=x.2)&&(decide (x.2<=y1.1)&&decide (y1.1<=(x.1.length:Int))))<|
 ze (yK n (List.drop x.2.toNat (List.take y1.1.toNat x.1))) fun y2=>
 zW (X:=Int×zb×zb) (
   ze (QO n (x.1,y1.1)) fun y3=>
   bif y3 then
    ze (pu n (x.1,y1.1)) fun y4=>
    some (LX.out (y4.2,(⟨0,[],0,[],false⟩:zb),(⟨12,[],y2,y4.1,y1.2⟩:zb)))
   else
    ze (zV n (x.1,y1.1)) fun y5=>
    bif y5==37 then
     some (LX.out (w64 (y1.1+1),(⟨0,[],0,[],false⟩:zb),(⟨11,[],y2,[],false⟩:zb)))
    else
     some (LX.out (y1.1,(⟨0,[],0,[],false⟩:zb),(⟨10,[],y2,[],y1.2⟩:zb)))) fun j6=>
 some (j6.2.2,j6.1)
theorem zjW(n:Nat)(x:Str×Int):Le (pK n x) (gz x):=by unfold pK gz;exact(.bind (zhS n _) fun _=>(.need (.bind (zgk n _) fun _=>(.join (.bind (xE n _) fun _=>(.bif (.bind (KF n _) fun _=> .rfl) (.bind (zM n _) fun _=>(.bif .rfl .rfl)))) fun _=> .rfl))))
def TE(n:Nat)(x:Str×Int×Str):Option Bool:=
 need (decide (0<=x.2.1)&&(decide (x.2.1<=w64 (x.2.1+(x.2.2.length:Int)))&&decide (w64 (x.2.1+(x.2.2.length:Int))<=(x.1.length:Int)))|| !(decide (w64 ((x.1.length:Int) - x.2.1)>=(x.2.2.length:Int))))<|
 some (bif decide (w64 ((x.1.length:Int) - x.2.1)>=(x.2.2.length:Int))then List.drop x.2.1.toNat (List.take (w64 (x.2.1+(x.2.2.length:Int))).toNat x.1)==x.2.2 else false)
theorem rT(n:Nat)(x:Str×Int×Str):Le (TE n x) (Iu x):=by unfold TE Iu;exact(.need .rfl)
def kE(n:Nat)(x:Str):Option Str:=
 need (decide (x.length<=maxLen))<|
 Ri n (fun(s1:Int×List UInt8)=>
   bif decide (s1.1<(s1.2.length:Int))then
    need (decide (0<=s1.1)&&decide (s1.1<(s1.2.length:Int)))<|
    ze s1.2[s1.1.toNat]? fun y2=>
    ze (kz n (y2.toNat:Int)) fun y3=>
    need (decide (0<=s1.1)&&decide (s1.1<(s1.2.length:Int)))<|
    ze s1.2[s1.1.toNat]? fun y4=>
    ze (Zv y3) fun y5=>
    some (LO.again (w64 (s1.1+1),List.set s1.2 s1.1.toNat y5))
   else
    some (LO.out s1.2):Int×List UInt8->Option (LO (Int×List UInt8) (List UInt8) _)) (0,x) fun o6=>
 some o6
theorem sU(n:Nat)(x:Str):Le (kE n x) (Q6 x):=by unfold kE Q6;exact(.need (.loop (fun _=>(.bif (.need (.bind .rfl fun _=>(.bind (kK n _) fun _=>(.need (.bind .rfl fun _=>(.bind .rfl fun _=> .rfl)))))) .rfl)) fun _=> .rfl))
def TK(n:Nat)(x:Str×Str):Option Bool:=
 ze (kE n x.1) fun y1=>
 ze (kE n x.2) fun y2=>
 some (y1==y2)
theorem zmR(n:Nat)(x:Str×Str):Le (TK n x) (qE x):=by unfold TK qE;exact(.bind (sU n _) fun _=>(.bind (sU n _) fun _=> .rfl))
def UE(n:Nat)(x:Str×Int):Option (zb×Int):=
 Ri n (fun(s1:Int)=>
   ze (zu (decide (s1<(x.1.length:Int))) (geti x.1 s1) 0) fun y2=>
   bif bif decide (s1<(x.1.length:Int))then(y2.toNat:Int) != 41 else false then
    ze (qw n (x.1,s1)) fun y3=>
    bif y3 then
     ze (Qm n (x.1,s1)) fun y4=>
     some (LO.again y4.2)
    else
     some (LO.again (w64 (s1+1)))
   else
    some (LO.out s1):Int->Option (LO (Int) (Int) _)) x.2 fun o5=>
 some ((⟨8,[],0,[],false⟩:zb),if w64 (o5+1)<(x.1.length:Int)then w64 (o5+1)else(x.1.length:Int))
theorem tT(n:Nat)(x:Str×Int):Le (UE n x) (Nu x):=by unfold UE Nu;exact(.loop (fun _=>(.bind .rfl fun _=>(.bif (.bind (Qi n _) fun _=>(.bif (.bind (RF n _) fun _=> .rfl) .rfl)) .rfl))) fun _=> .rfl)
def xK(n:Nat)(x:Int):Option Bool:=
 some (bif bif bif decide (x<=8)then true else x==11 then true else bif decide (x>=14)then decide (x<=31)else false then true else x==127)
theorem zgl(n:Nat)(x:Int):Le (xK n x) (Qo x):=by unfold xK Qo;exact .rfl
def wJ(n:Nat)(x:Str×Int):Option (zb×Int):=
 ze (QP n (x.1,x.2)) fun y1=>
 Ri n (fun(s2:Int×zb×zb)=>
   ze (zu (decide (s2.1<(x.1.length:Int))) (geti x.1 s2.1) 0) fun y3=>
   bif bif decide (s2.1<(x.1.length:Int))then(y3.toNat:Int) != 41 else false then
    ze (geti x.1 s2.1) fun y4=>
    ze (ou n (y4.toNat:Int)) fun y5=>
    bif y5 then
     ze (QP n (x.1,s2.1)) fun y6=>
     ze (zu (decide (y6<(x.1.length:Int))) (geti x.1 y6) 0) fun y7=>
     bif bif decide (y6<(x.1.length:Int))then(y7.toNat:Int) != 41 else false then
      ze (UE n (x.1,y6)) fun y8=>
      some (LO.ret (y8.1,y8.2))
     else
      some (LO.again (y6,s2.2.1,s2.2.2))
    else
     ze (zu (!(bif bif (y4.toNat:Int)==34 then true else(y4.toNat:Int)==39 then true else(y4.toNat:Int)==40)) (xK n (y4.toNat:Int)) (default:Bool)) fun y9=>
     ze (zu ((y4.toNat:Int)==92&& !(bif bif bif (y4.toNat:Int)==34 then true else(y4.toNat:Int)==39 then true else(y4.toNat:Int)==40 then true else y9)) (qw n (x.1,s2.1)) (default:Bool)) fun y10=>
     bif bif bif bif bif (y4.toNat:Int)==34 then true else(y4.toNat:Int)==39 then true else(y4.toNat:Int)==40 then true else y9 then true else bif (y4.toNat:Int)==92 then !y10 else false then
      ze (UE n (x.1,s2.1)) fun y11=>
      some (LO.ret (y11.1,y11.2))
     else
      bif (y4.toNat:Int)==92 then
       ze (Qm n (x.1,s2.1)) fun y12=>
       need (vg s2.2.2.text.length y12.1.length)<|
       some (LO.again (y12.2,s2.2.1,(⟨s2.2.2.kind,s2.2.2.text++y12.1,s2.2.2.num,s2.2.2.unit,s2.2.2.flag⟩:zb)))
      else
       need (decide (0<=s2.1)&&(decide (s2.1<=w64 (s2.1+1))&&decide (w64 (s2.1+1)<=(x.1.length:Int))))<|
       need (vg s2.2.2.text.length (List.drop s2.1.toNat (List.take (w64 (s2.1+1)).toNat x.1)).length)<|
       some (LO.again (w64 (s2.1+1),s2.2.1,(⟨s2.2.2.kind,s2.2.2.text++List.drop s2.1.toNat (List.take (w64 (s2.1+1)).toNat x.1),s2.2.2.num,s2.2.2.unit,s2.2.2.flag⟩:zb)))
   else
    some (LO.out (s2.1,s2.2.1,s2.2.2)):Int×zb×zb->Option (LO (Int×zb×zb) (Int×zb×zb) _)) (y1,(⟨0,[],0,[],false⟩:zb),(⟨7,[],0,[],false⟩:zb)) fun o13=>
 some (o13.2.2,if w64 (o13.1+1)<(x.1.length:Int)then w64 (o13.1+1)else(x.1.length:Int))
theorem zqN(n:Nat)(x:Str×Int):Le (wJ n x) (Dz x):=by unfold wJ Dz;exact(.bind (wE n _) fun _=>(.loop (fun _=>(.bind .rfl fun _=>(.bif (.bind .rfl fun _=>(.bind (JF n _) fun _=>(.bif (.bind (wE n _) fun _=>(.bind .rfl fun _=>(.bif (.bind (tT n _) fun _=> .rfl) .rfl))) (.bind (.cond (zgl n _)) fun _=>(.bind (.cond (Qi n _)) fun _=>(.bif (.bind (tT n _) fun _=> .rfl) (.bif (.bind (RF n _) fun _=>(.need .rfl)) (.need (.need .rfl))))))))) .rfl))) fun _=> .rfl))
def GK(n:Nat)(x:Str×Int):Option (zb×Int):=
 ze (pu n (x.1,x.2)) fun y1=>
 ze (zV n (x.1,y1.2)) fun y2=>
 bif y2 != 40 then
  some ((⟨1,y1.1,0,[],false⟩:zb),y1.2)
 else
  zW (X:=zb) (
    ze (TK n (y1.1,[117,114,108])) fun y3=>
    bif y3 then
     ze (QP n (x.1,w64 (y1.2+1))) fun y4=>
     ze (zV n (x.1,y4)) fun y5=>
     bif bif y5 != 34 then y5 != 39 else false then
      ze (wJ n (x.1,w64 (y1.2+1))) fun y6=>
      some (LX.ret (y6.1,y6.2))
     else
      some (LX.out (⟨0,[],0,[],false⟩:zb))
    else
     some (LX.out (⟨0,[],0,[],false⟩:zb))) fun j7=>
  some ((⟨2,y1.1,0,[],false⟩:zb),w64 (y1.2+1))
theorem zoS(n:Nat)(x:Str×Int):Le (GK n x) (Nz x):=by unfold GK Nz;exact(.bind (KF n _) fun _=>(.bind (zM n _) fun _=>(.bif .rfl (.join (.bind (zmR n _) fun _=>(.bif (.bind (wE n _) fun _=>(.bind (zM n _) fun _=>(.bif (.bind (zqN n _) fun _=> .rfl) .rfl))) .rfl)) fun _=> .rfl))))
def YE(n:Nat)(x:Int):Option Int:=
 bif x==58 then
  some 16
 else
  bif x==59 then
   some 17
  else
   bif x==44 then
    some 18
   else
    bif x==91 then
     some 19
    else
     bif x==93 then
      some 20
     else
      bif x==40 then
       some 21
      else
       bif x==41 then
        some 22
       else
        bif x==123 then
         some 23
        else
         bif x==125 then
          some 24
         else
          some 0
theorem NU(n:Nat)(x:Int):Le (YE n x) (Vu x):=by unfold YE Vu;exact(.bif .rfl (.bif .rfl (.bif .rfl (.bif .rfl (.bif .rfl (.bif .rfl (.bif .rfl (.bif .rfl (.bif .rfl .rfl)))))))))
def xJ(n:Nat)(x:Str×Int):Option (zb×Int):=
 ze (geti x.1 x.2) fun y1=>
 ze (ou n (y1.toNat:Int)) fun y2=>
 bif y2 then
  ze (QP n (x.1,x.2)) fun y3=>
  some ((⟨13,[],0,[],false⟩:zb),y3)
 else
  bif bif (y1.toNat:Int)==34 then true else(y1.toNat:Int)==39 then
   ze (gK n (x.1,x.2)) fun y4=>
   some (y4.1,y4.2)
  else
   ze (zu (decide (w64 (x.2+1)<(x.1.length:Int))&&(y1.toNat:Int)==35) (geti x.1 (w64 (x.2+1))) 0) fun y5=>
   ze (zu (decide (w64 (x.2+1)<(x.1.length:Int))&&(y1.toNat:Int)==35) (DF n (y5.toNat:Int)) (default:Bool)) fun y6=>
   ze (zu (!(bif decide (w64 (x.2+1)<(x.1.length:Int))then y6 else false)&&(y1.toNat:Int)==35) (qw n (x.1,w64 (x.2+1))) (default:Bool)) fun y7=>
   bif bif (y1.toNat:Int)==35 then bif bif decide (w64 (x.2+1)<(x.1.length:Int))then y6 else false then true else y7 else false then
    ze (pu n (x.1,w64 (x.2+1))) fun y8=>
    ze (QO n (x.1,w64 (x.2+1))) fun y9=>
    some ((⟨4,y8.1,0,[],y9⟩:zb),y8.2)
   else
    ze (mK n (x.1,x.2)) fun y10=>
    bif y10 then
     ze (pK n (x.1,x.2)) fun y11=>
     some (y11.1,y11.2)
    else
     ze (TE n (x.1,x.2,[45,45,62])) fun y12=>
     bif y12 then
      some ((⟨15,[],0,[],false⟩:zb),w64 (x.2+3))
     else
      ze (TE n (x.1,x.2,[60,33,45,45])) fun y13=>
      bif y13 then
       some ((⟨14,[],0,[],false⟩:zb),w64 (x.2+4))
      else
       ze (zu ((y1.toNat:Int)==64) (QO n (x.1,w64 (x.2+1))) (default:Bool)) fun y14=>
       bif bif (y1.toNat:Int)==64 then y14 else false then
        ze (pu n (x.1,w64 (x.2+1))) fun y15=>
        some ((⟨3,y15.1,0,[],false⟩:zb),y15.2)
       else
        ze (QO n (x.1,x.2)) fun y16=>
        bif y16 then
         ze (GK n (x.1,x.2)) fun y17=>
         some (y17.1,y17.2)
        else
         ze (YE n (y1.toNat:Int)) fun y18=>
         bif y18 != 0 then
          ze (YE n (y1.toNat:Int)) fun y19=>
          some ((⟨y19,[],0,[],false⟩:zb),w64 (x.2+1))
         else
          need (decide (0<=x.2)&&(decide (x.2<=w64 (x.2+1))&&decide (w64 (x.2+1)<=(x.1.length:Int))))<|
          some ((⟨9,List.drop x.2.toNat (List.take (w64 (x.2+1)).toNat x.1),0,[],false⟩:zb),w64 (x.2+1))
theorem zqM(n:Nat)(x:Str×Int):Le (xJ n x) (Ez x):=by unfold xJ Ez;exact(.bind .rfl fun _=>(.bind (JF n _) fun _=>(.bif (.bind (wE n _) fun _=> .rfl) (.bif (.bind (zlv n _) fun _=> .rfl) (.bind .rfl fun _=>(.bind (.cond (FV n _)) fun _=>(.bind (.cond (Qi n _)) fun _=>(.bif (.bind (KF n _) fun _=>(.bind (xE n _) fun _=> .rfl)) (.bind (ziM n _) fun _=>(.bif (.bind (zjW n _) fun _=> .rfl) (.bind (rT n _) fun _=>(.bif .rfl (.bind (rT n _) fun _=>(.bif .rfl (.bind (.cond (xE n _)) fun _=>(.bif (.bind (KF n _) fun _=> .rfl) (.bind (xE n _) fun _=>(.bif (.bind (zoS n _) fun _=> .rfl) (.bind (NU n _) fun _=>(.bif (.bind (NU n _) fun _=> .rfl) (.need .rfl)))))))))))))))))))))
def SK(n:Nat)(x:Int):Option Bool:=
 ze (Zv x) fun y1=>
 ze (xJ n ([y1,(10:UInt8)],0)) fun y2=>
 some (bif bif bif bif decide (x>=1)then decide (x<=127)else false then x != 12 else false then x != 13 else false then y2.1.kind==9 else false)
theorem zmS(n:Nat)(x:Int):Le (SK n x) (qH x):=by unfold SK qH;exact(.bind .rfl fun _=>(.bind (zqM n _) fun _=> .rfl))
end Go.Lv.VT
