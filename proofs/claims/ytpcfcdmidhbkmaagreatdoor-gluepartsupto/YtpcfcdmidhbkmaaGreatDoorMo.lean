/- Laws for the plain texts: loops that look for something; bytes. -/
import Derived.Test.YtpcfcdmidhbkmaaGreatDoorLf
import Derived.Test.YtpcfcdmidhbkmaaGreatDoorTx
set_option linter.unusedSimpArgs false
set_option linter.unusedVariables false
namespace Go.Lv.VT
abbrev big:Nat:=4194304
theorem Km{i n:Nat}(h:i<n):decide ((i:Int)<(n:Int))=true:=La (by omega)
theorem AJ(n:Nat):decide ((n:Int)<(n:Int))=false:=Ob (by omega)
theorem Hl{i n:Nat}(h:i<n)(a:n<=big):w64 ((i:Int)+1)=((i+1:Nat):Int):=by rw[w64,Sz (by omega) (by grind)];omega
theorem QF{α:Type}(b:Bool)(v d:α):zu b (some v) d=some (bif b then v else d):=by cases b<;>rfl
theorem FN {α X R:Type} {step:Int->Option (LO Int X R)} {k:X->Option R} (l:List α) (q:α->Option R) (x:X)
  (hg: ∀(i:Nat) (h:i<l.length),step (i:Int)=some (match q l[i]with|some r=> .ret r|none=> .again ((i+1:Nat):Int)))
  (hf:step (l.length:Int)=some (.out x)):ZP step 0 k=match l.findSome? q with|some r=>some r|none=>k x:=by
 have key: ∀(m:List α) (i:Nat),l.drop i=m->i<=l.length-> ∃n,QH step n (i:Int)=some (match m.findSome? q with|some r=> .ret r|none=> .out x):=by
  intro m
  induction m with
  |nil=>
   intro i hd hi;have:i=l.length:=by have:=Ce.1 hd;omega
   subst this;exact⟨1,by simp only[QH,hf,List.findSome?_nil]⟩
  |cons v m ih=>
   intro i hd hi;have hlt:i<l.length:=by
    rcases ic i l.length with h|h
    ·exact h
    ·grind
   have hv:l[i]=v:=by have:=Eb hlt;rw[hd]at this;injection this with h1 _;exact h1.symm
   have hs:=hg i hlt;rw[hv]at hs;cases hq:q v with
   |some r=> rw[hq]at hs;exact⟨1,by simp only[QH,hs,List.findSome?_cons,hq]⟩
   |none=> rw[hq]at hs;obtain⟨n,hn⟩:=ih (i+1) (by rw[Eb hlt]at hd;injection hd) (by omega);refine⟨n+1,?_⟩;simp only[QH,hs,List.findSome?_cons,hq];exact hn
 obtain⟨n,hn⟩:=key l 0 rfl (by omega);replace hn:QH step n 0=_:=hn;rw[gm (jm hn)];cases l.findSome? q<;>rfl
theorem SE{α R:Type}(p:α->Bool)(r:R): ∀(l:List α),l.findSome? (fun v=>bif p v then none else some r)=bif l.all p then none else some r
 |[]=>rfl
 |v::l=>by
  rw[List.findSome?_cons,Ic];cases p v with
  |false=>rfl
  |true=>exact SE p r l
noncomputable section
set_option maxRecDepth 100000
def Qm(n:Nat)(x:Str×Int):Option Int:=
 Qt n (fun(s1:Int)=>
   ze (zQ (x.1,s1)) fun y2=>
   ze (qY y2) fun y3=>
   bif y3 then
    some (LO.again (w64 (s1+1)))
   else
    some (LO.out s1):Int->Option (LO (Int) (Int) _)) x.2 fun o4=>
 some o4
theorem WA(n:Nat)(x:Str×Int):Le (Qm n x) (QB x):=by unfold Qm QB;exact(.loop (fun _=>(.bind .rfl fun _=>(.bind .rfl fun _=>(.bif .rfl .rfl)))) fun _=> .rfl)
def qQ(n:Nat)(x:Str×Int):Option (Str×Int):=
 bif decide (w64 (x.2+1)>=(x.1.length:Int))then
  ze (kz ()) fun y1=>
  some (y1,w64 (x.2+1))
 else
  ze (geti x.1 (w64 (x.2+1))) fun y2=>
  ze (lm (y2.toNat:Int)) fun y3=>
  bif decide (y3<0)then
   need (decide (0<=w64 (x.2+1))&&(decide (w64 (x.2+1)<=w64 (w64 (x.2+1)+1))&&decide (w64 (w64 (x.2+1)+1)<=(x.1.length:Int))))<|
   some (List.drop (w64 (x.2+1)).toNat (List.take (w64 (w64 (x.2+1)+1)).toNat x.1),w64 (w64 (x.2+1)+1))
  else
   Qt n (fun(s4:Int×Int)=>
     ze (zu (bif decide (s4.2<(x.1.length:Int))then decide (s4.2<w64 (w64 (x.2+1)+6))else false) (geti x.1 s4.2) 0) fun y5=>
     ze (zu (bif decide (s4.2<(x.1.length:Int))then decide (s4.2<w64 (w64 (x.2+1)+6))else false) (lm (y5.toNat:Int)) (default:Int)) fun y6=>
     bif bif bif decide (s4.2<(x.1.length:Int))then decide (s4.2<w64 (w64 (x.2+1)+6))else false then decide (y6>=0)else false then
      ze (geti x.1 s4.2) fun y7=>
      ze (lm (y7.toNat:Int)) fun y8=>
      some (LO.again (w64 (w64 (16*s4.1)+y8),w64 (s4.2+1)))
     else
      some (LO.out (s4.1,s4.2)):Int×Int->Option (LO (Int×Int) (Int×Int) _)) (0,w64 (x.2+1)) fun o9=>
   zN (X:=Int) (
     ze (zQ (x.1,o9.2)) fun y10=>
     ze (qY y10) fun y11=>
     bif y11 then
      some (LX.out (w64 (o9.2+1)))
     else
      some (LX.out o9.2)) fun j12=>
   ze (pF o9.1) fun y13=>
   some (y13,j12)
theorem Q7(n:Nat)(x:Str×Int):Le (qQ n x) (qX x):=by unfold qQ qX;exact(.bif (.bind .rfl fun _=> .rfl) (.bind .rfl fun _=>(.bind .rfl fun _=>(.bif (.need .rfl) (.loop (fun _=>(.bind .rfl fun _=>(.bind .rfl fun _=>(.bif (.bind .rfl fun _=>(.bind .rfl fun _=> .rfl)) .rfl)))) fun _=>(.join (.bind .rfl fun _=>(.bind .rfl fun _=>(.bif .rfl .rfl))) fun _=>(.bind .rfl fun _=> .rfl)))))))
def iG(n:Nat)(x:Str×Int):Option (zb×Int):=
 ze (geti x.1 x.2) fun y1=>
 Qt n (fun(s2:Int×zb×zb)=>
   bif decide (s2.1<(x.1.length:Int))then
    ze (geti x.1 s2.1) fun y3=>
    bif (y3.toNat:Int)==(y1.toNat:Int)then
     some (LO.ret (s2.2.2,w64 (s2.1+1)))
    else
     ze (geti x.1 s2.1) fun y4=>
     bif (y4.toNat:Int)==10 then
      some (LO.ret ((⟨6,[],0,[],false⟩:zb),s2.1))
     else
      ze (geti x.1 s2.1) fun y5=>
      bif bif (y5.toNat:Int)==92 then w64 (s2.1+1)==(x.1.length:Int)else false then
       some (LO.again (w64 (s2.1+1),s2.2.1,s2.2.2))
      else
       ze (geti x.1 s2.1) fun y6=>
       ze (zu ((y6.toNat:Int)==92) (geti x.1 (w64 (s2.1+1))) 0) fun y7=>
       bif bif (y6.toNat:Int)==92 then(y7.toNat:Int)==10 else false then
        some (LO.again (w64 (s2.1+2),s2.2.1,s2.2.2))
       else
        ze (geti x.1 s2.1) fun y8=>
        bif (y8.toNat:Int)==92 then
         ze (qQ n (x.1,s2.1)) fun y9=>
         need (Vf s2.2.2.text.length y9.1.length)<|
         some (LO.again (y9.2,s2.2.1,(⟨s2.2.2.kind,s2.2.2.text++y9.1,s2.2.2.num,s2.2.2.unit,s2.2.2.flag⟩:zb)))
        else
         need (decide (0<=s2.1)&&(decide (s2.1<=w64 (s2.1+1))&&decide (w64 (s2.1+1)<=(x.1.length:Int))))<|
         need (Vf s2.2.2.text.length (List.drop s2.1.toNat (List.take (w64 (s2.1+1)).toNat x.1)).length)<|
         some (LO.again (w64 (s2.1+1),s2.2.1,(⟨s2.2.2.kind,s2.2.2.text++List.drop s2.1.toNat (List.take (w64 (s2.1+1)).toNat x.1),s2.2.2.num,s2.2.2.unit,s2.2.2.flag⟩:zb)))
   else
    some (LO.out (s2.1,s2.2.1,s2.2.2)):Int×zb×zb->Option (LO (Int×zb×zb) (Int×zb×zb) _)) (w64 (x.2+1),(⟨0,[],0,[],false⟩:zb),(⟨5,[],0,[],false⟩:zb)) fun o10=>
 some (o10.2.2,o10.1)
theorem Y7(n:Nat)(x:Str×Int):Le (iG n x) (TA x):=by unfold iG TA;exact(.bind .rfl fun _=>(.loop (fun _=>(.bif (.bind .rfl fun _=>(.bif .rfl (.bind .rfl fun _=>(.bif .rfl (.bind .rfl fun _=>(.bif .rfl (.bind .rfl fun _=>(.bind .rfl fun _=>(.bif .rfl (.bind .rfl fun _=>(.bif (.bind (Q7 n _) fun _=>(.need .rfl)) (.need (.need .rfl))))))))))))) .rfl)) fun _=> .rfl))
def QJ(n:Nat)(x:Str×Int):Option (Str×Int):=
 Qt n (fun(s1:Int×Str)=>
   ze (zu (decide (s1.1<(x.1.length:Int))) (geti x.1 s1.1) 0) fun y2=>
   ze (zu (decide (s1.1<(x.1.length:Int))) (xu (y2.toNat:Int)) (default:Bool)) fun y3=>
   bif bif decide (s1.1<(x.1.length:Int))then y3 else false then
    need (decide (0<=s1.1)&&(decide (s1.1<=w64 (s1.1+1))&&decide (w64 (s1.1+1)<=(x.1.length:Int))))<|
    need (Vf s1.2.length (List.drop s1.1.toNat (List.take (w64 (s1.1+1)).toNat x.1)).length)<|
    some (LO.again (w64 (s1.1+1),s1.2++List.drop s1.1.toNat (List.take (w64 (s1.1+1)).toNat x.1)))
   else
    ze (zu (decide (s1.1<(x.1.length:Int))) (ZV (x.1,s1.1)) (default:Bool)) fun y4=>
    bif bif decide (s1.1<(x.1.length:Int))then y4 else false then
     ze (qQ n (x.1,s1.1)) fun y5=>
     need (Vf s1.2.length y5.1.length)<|
     some (LO.again (y5.2,s1.2++y5.1))
    else
     some (LO.ret (s1.2,s1.1)):Int×Str->Option (LO (Int×Str) (Unit) _)) (x.2,[]) fun o6=>
 none
theorem aA(n:Nat)(x:Str×Int):Le (QJ n x) (Bn x):=by unfold QJ Bn;exact(.loop (fun _=>(.bind .rfl fun _=>(.bind .rfl fun _=>(.bif (.need (.need .rfl)) (.bind .rfl fun _=>(.bif (.bind (Q7 n _) fun _=>(.need .rfl)) .rfl)))))) fun _=> .none)
def Q0(n:Nat)(x:Str×Int):Option Int:=
 Qt n (fun(s1:Int)=>
   ze (zQ (x.1,s1)) fun y2=>
   ze (Zd y2) fun y3=>
   bif y3 then
    some (LO.again (w64 (s1+1)))
   else
    some (LO.out s1):Int->Option (LO (Int) (Int) _)) x.2 fun o4=>
 some o4
theorem sG(n:Nat)(x:Str×Int):Le (Q0 n x) (Uq x):=by unfold Q0 Uq;exact(.loop (fun _=>(.bind .rfl fun _=>(.bind .rfl fun _=>(.bif .rfl .rfl)))) fun _=> .rfl)
def yG(n:Nat)(x:Str×Int):Option (Int×Bool):=
 zN (X:=Int) (
   ze (zQ (x.1,x.2)) fun y1=>
   bif bif y1==43 then true else y1==45 then
    some (LX.out (w64 (x.2+1)))
   else
    some (LX.out x.2)) fun j2=>
 ze (Q0 n (x.1,j2)) fun y3=>
 zN (X:=Int×Bool) (
   ze (zQ (x.1,y3)) fun y4=>
   ze (zu (y4==46) (zQ (x.1,w64 (y3+1))) (default:Int)) fun y5=>
   ze (zu (y4==46) (Zd y5) (default:Bool)) fun y6=>
   bif bif y4==46 then y6 else false then
    ze (Q0 n (x.1,w64 (y3+1))) fun y7=>
    some (LX.out (y7,false))
   else
    some (LX.out (y3,true))) fun j8=>
 zN (X:=Int×Bool) (
   ze (zQ (x.1,j8.1)) fun y9=>
   bif bif y9==101 then true else y9==69 then
    zN (X:=Int×Bool×Int) (
      ze (zQ (x.1,w64 (j8.1+1))) fun y10=>
      bif bif y10==43 then true else y10==45 then
       some (LX.out (j8.1,j8.2,w64 (w64 (j8.1+1)+1)))
      else
       some (LX.out (j8.1,j8.2,w64 (j8.1+1)))) fun j11=>
    ze (zQ (x.1,j11.2.2)) fun y12=>
    ze (Zd y12) fun y13=>
    bif y13 then
     ze (Q0 n (x.1,j11.2.2)) fun y14=>
     some (LX.out (y14,false))
    else
     some (LX.out (j11.1,j11.2.1))
   else
    some (LX.out (j8.1,j8.2))) fun j15=>
 some (j15.1,j15.2)
theorem G8(n:Nat)(x:Str×Int):Le (yG n x) (UA x):=by unfold yG UA;exact(.join (.bind .rfl fun _=>(.bif .rfl .rfl)) fun _=>(.bind (sG n _) fun _=>(.join (.bind .rfl fun _=>(.bind .rfl fun _=>(.bind .rfl fun _=>(.bif (.bind (sG n _) fun _=> .rfl) .rfl)))) fun _=>(.join (.bind .rfl fun _=>(.bif (.join (.bind .rfl fun _=>(.bif .rfl .rfl)) fun _=>(.bind .rfl fun _=>(.bind .rfl fun _=>(.bif (.bind (sG n _) fun _=> .rfl) .rfl)))) .rfl)) fun _=> .rfl))))
def wG(n:Nat)(x:Str):Option Int:=
 ze (geti x 0) fun y1=>
 zN (X:=Str×Int×Int) (
   ze (geti x 0) fun y2=>
   bif bif (y2.toNat:Int)==43 then true else(y1.toNat:Int)==45 then
    some (LX.out ([],3,1))
   else
    some (LX.out ([],3,0))) fun j3=>
 Qt n (fun(s4:Str×Int)=>
   ze (zQ (x,s4.2)) fun y5=>
   ze (Zd y5) fun y6=>
   bif y6 then
    need (decide (0<=s4.2)&&(decide (s4.2<=w64 (s4.2+1))&&decide (w64 (s4.2+1)<=(x.length:Int))))<|
    need (Vf s4.1.length (List.drop s4.2.toNat (List.take (w64 (s4.2+1)).toNat x)).length)<|
    some (LO.again (s4.1++List.drop s4.2.toNat (List.take (w64 (s4.2+1)).toNat x),w64 (s4.2+1)))
   else
    some (LO.out (s4.1,s4.2)):Str×Int->Option (LO (Str×Int) (Str×Int) _)) (j3.1,j3.2.2) fun o7=>
 zN (X:=Str×Int×Int) (
   ze (zQ (x,o7.2)) fun y8=>
   bif y8==46 then
    Qt n (fun(s9:Str×Int×Int)=>
      ze (zQ (x,s9.2.2)) fun y10=>
      ze (Zd y10) fun y11=>
      bif y11 then
       need (decide (0<=s9.2.2)&&(decide (s9.2.2<=w64 (s9.2.2+1))&&decide (w64 (s9.2.2+1)<=(x.length:Int))))<|
       need (Vf s9.1.length (List.drop s9.2.2.toNat (List.take (w64 (s9.2.2+1)).toNat x)).length)<|
       some (LO.again (s9.1++List.drop s9.2.2.toNat (List.take (w64 (s9.2.2+1)).toNat x),w64 (s9.2.1 - 1),w64 (s9.2.2+1)))
      else
       some (LO.out (s9.1,s9.2.1,s9.2.2)):Str×Int×Int->Option (LO (Str×Int×Int) (Str×Int×Int) _)) (o7.1,j3.2.1,w64 (o7.2+1)) fun o12=>
    some (LX.out (o12.1,o12.2.1,o12.2.2))
   else
    some (LX.out (o7.1,j3.2.1,o7.2))) fun j13=>
 zN (X:=Int) (
   bif decide (j13.2.2<(x.length:Int))then
    ze (geti x (w64 (j13.2.2+1))) fun y14=>
    zN (X:=Int×Int) (
      ze (geti x (w64 (j13.2.2+1))) fun y15=>
      bif bif (y15.toNat:Int)==43 then true else(y14.toNat:Int)==45 then
       some (LX.out (j13.2.1,w64 (w64 (j13.2.2+1)+1)))
      else
       some (LX.out (j13.2.1,w64 (j13.2.2+1)))) fun j16=>
    Qt n (fun(s17:Int×Int)=>
      bif decide (s17.1<(x.length:Int))then
       ze (geti x s17.1) fun y18=>
       some (LO.again (w64 (s17.1+1),if w64 (w64 (10*s17.2)+w64 (wu8 ((y18.toNat:Int) - 48)))<10000 then w64 (w64 (10*s17.2)+w64 (wu8 ((y18.toNat:Int) - 48)))else 10000))
      else
       some (LO.out s17.2):Int×Int->Option (LO (Int×Int) (Int) _)) (j16.2,0) fun o19=>
    zN (X:=Int×Int) (
      bif (y14.toNat:Int)==45 then
       some (LX.out (j16.1,w64 (0 - o19)))
      else
       some (LX.out (j16.1,o19))) fun j20=>
    some (LX.out (w64 (j20.1+j20.2)))
   else
    some (LX.out j13.2.1)) fun j21=>
 Qt n (fun(s22:Int×Int)=>
   bif bif decide (s22.2<w64 ((j13.1.length:Int)+j21))then decide (s22.2<(j13.1.length:Int))else false then
    ze (geti j13.1 s22.2) fun y23=>
    some (LO.again (if w64 (w64 (10*s22.1)+w64 (wu8 ((y23.toNat:Int) - 48)))<1000000000000 then w64 (w64 (10*s22.1)+w64 (wu8 ((y23.toNat:Int) - 48)))else 1000000000000,w64 (s22.2+1)))
   else
    some (LO.out s22.1):Int×Int->Option (LO (Int×Int) (Int) _)) (0,0) fun o24=>
 Qt n (fun(s25:Int×Int)=>
   bif bif bif decide (s25.1>0)then decide (s25.2>0)else false then decide (s25.2<1000000000000)else false then
    some (LO.again (w64 (s25.1 - 1),if w64 (10*s25.2)<1000000000000 then w64 (10*s25.2)else 1000000000000))
   else
    some (LO.out s25.2):Int×Int->Option (LO (Int×Int) (Int) _)) (j21,o24) fun o26=>
 bif (y1.toNat:Int)==45 then
  some (w64 (0 - o26))
 else
  some o26
theorem G9(n:Nat)(x:Str):Le (wG n x) (QK x):=by unfold wG QK;exact(.bind .rfl fun _=>(.join (.bind .rfl fun _=>(.bif .rfl .rfl)) fun _=>(.loop (fun _=>(.bind .rfl fun _=>(.bind .rfl fun _=>(.bif (.need (.need .rfl)) .rfl)))) fun _=>(.join (.bind .rfl fun _=>(.bif (.loop (fun _=>(.bind .rfl fun _=>(.bind .rfl fun _=>(.bif (.need (.need .rfl)) .rfl)))) fun _=> .rfl) .rfl)) fun _=>(.join (.bif (.bind .rfl fun _=>(.join (.bind .rfl fun _=>(.bif .rfl .rfl)) fun _=>(.loop (fun _=>(.bif (.bind .rfl fun _=> .rfl) .rfl)) fun _=>(.join (.bif .rfl .rfl) fun _=> .rfl)))) .rfl) fun _=>(.loop (fun _=>(.bif (.bind .rfl fun _=> .rfl) .rfl)) fun _=>(.loop (fun _=>(.bif .rfl .rfl)) fun _=>(.bif .rfl .rfl))))))))
def pG(n:Nat)(x:Str×Int):Option (zb×Int):=
 ze (yG n (x.1,x.2)) fun y1=>
 need (decide (0<=x.2)&&(decide (x.2<=y1.1)&&decide (y1.1<=(x.1.length:Int))))<|
 ze (wG n (List.drop x.2.toNat (List.take y1.1.toNat x.1))) fun y2=>
 zN (X:=Int×zb×zb) (
   ze (qC (x.1,y1.1)) fun y3=>
   bif y3 then
    ze (QJ n (x.1,y1.1)) fun y4=>
    some (LX.out (y4.2,(⟨0,[],0,[],false⟩:zb),(⟨12,[],y2,y4.1,y1.2⟩:zb)))
   else
    ze (zQ (x.1,y1.1)) fun y5=>
    bif y5==37 then
     some (LX.out (w64 (y1.1+1),(⟨0,[],0,[],false⟩:zb),(⟨11,[],y2,[],false⟩:zb)))
    else
     some (LX.out (y1.1,(⟨0,[],0,[],false⟩:zb),(⟨10,[],y2,[],y1.2⟩:zb)))) fun j6=>
 some (j6.2.2,j6.1)
theorem E8(n:Nat)(x:Str×Int):Le (pG n x) (GA x):=by unfold pG GA;exact(.bind (G8 n _) fun _=>(.need (.bind (G9 n _) fun _=>(.join (.bind .rfl fun _=>(.bif (.bind (aA n _) fun _=> .rfl) (.bind .rfl fun _=>(.bif .rfl .rfl)))) fun _=> .rfl))))
def IA(n:Nat)(x:Str):Option Str:=
 need (decide (x.length<=maxLen))<|
 Qt n (fun(s1:Int×List UInt8)=>
   bif decide (s1.1<(s1.2.length:Int))then
    need (decide (0<=s1.1)&&decide (s1.1<(s1.2.length:Int)))<|
    ze s1.2[s1.1.toNat]? fun y2=>
    ze (Dn (y2.toNat:Int)) fun y3=>
    need (decide (0<=s1.1)&&decide (s1.1<(s1.2.length:Int)))<|
    ze s1.2[s1.1.toNat]? fun y4=>
    ze (Zq y3) fun y5=>
    some (LO.again (w64 (s1.1+1),List.set s1.2 s1.1.toNat y5))
   else
    some (LO.out s1.2):Int×List UInt8->Option (LO (Int×List UInt8) (List UInt8) _)) (0,x) fun o6=>
 some o6
theorem PO(n:Nat)(x:Str):Le (IA n x) (En x):=by unfold IA En;exact(.need (.loop (fun _=>(.bif (.need (.bind .rfl fun _=>(.bind .rfl fun _=>(.need (.bind .rfl fun _=>(.bind .rfl fun _=> .rfl)))))) .rfl)) fun _=> .rfl))
def aG(n:Nat)(x:Str×Str):Option Bool:=
 ze (IA n x.1) fun y1=>
 ze (IA n x.2) fun y2=>
 some (y1==y2)
theorem P6(n:Nat)(x:Str×Str):Le (aG n x) (qW x):=by unfold aG qW;exact(.bind (PO n _) fun _=>(.bind (PO n _) fun _=> .rfl))
def wz(n:Nat)(x:Str×Int):Option (zb×Int):=
 Qt n (fun(s1:Int)=>
   ze (zu (decide (s1<(x.1.length:Int))) (geti x.1 s1) 0) fun y2=>
   bif bif decide (s1<(x.1.length:Int))then(y2.toNat:Int) != 41 else false then
    ze (ZV (x.1,s1)) fun y3=>
    bif y3 then
     ze (qQ n (x.1,s1)) fun y4=>
     some (LO.again y4.2)
    else
     some (LO.again (w64 (s1+1)))
   else
    some (LO.out s1):Int->Option (LO (Int) (Int) _)) x.2 fun o5=>
 some ((⟨8,[],0,[],false⟩:zb),if w64 (o5+1)<(x.1.length:Int)then w64 (o5+1)else(x.1.length:Int))
theorem kN(n:Nat)(x:Str×Int):Le (wz n x) (Xu x):=by unfold wz Xu;exact(.loop (fun _=>(.bind .rfl fun _=>(.bif (.bind .rfl fun _=>(.bif (.bind (Q7 n _) fun _=> .rfl) .rfl)) .rfl))) fun _=> .rfl)
def OG(n:Nat)(x:Str×Int):Option (zb×Int):=
 ze (Qm n (x.1,x.2)) fun y1=>
 Qt n (fun(s2:Int×zb×zb)=>
   ze (zu (decide (s2.1<(x.1.length:Int))) (geti x.1 s2.1) 0) fun y3=>
   bif bif decide (s2.1<(x.1.length:Int))then(y3.toNat:Int) != 41 else false then
    ze (geti x.1 s2.1) fun y4=>
    ze (qY (y4.toNat:Int)) fun y5=>
    bif y5 then
     ze (Qm n (x.1,s2.1)) fun y6=>
     ze (zu (decide (y6<(x.1.length:Int))) (geti x.1 y6) 0) fun y7=>
     bif bif decide (y6<(x.1.length:Int))then(y7.toNat:Int) != 41 else false then
      ze (wz n (x.1,y6)) fun y8=>
      some (LO.ret (y8.1,y8.2))
     else
      some (LO.again (y6,s2.2.1,s2.2.2))
    else
     ze (zu (!(bif bif (y4.toNat:Int)==34 then true else(y4.toNat:Int)==39 then true else(y4.toNat:Int)==40)) (xG (y4.toNat:Int)) (default:Bool)) fun y9=>
     ze (zu ((y4.toNat:Int)==92&& !(bif bif bif (y4.toNat:Int)==34 then true else(y4.toNat:Int)==39 then true else(y4.toNat:Int)==40 then true else y9)) (ZV (x.1,s2.1)) (default:Bool)) fun y10=>
     bif bif bif bif bif (y4.toNat:Int)==34 then true else(y4.toNat:Int)==39 then true else(y4.toNat:Int)==40 then true else y9 then true else bif (y4.toNat:Int)==92 then !y10 else false then
      ze (wz n (x.1,s2.1)) fun y11=>
      some (LO.ret (y11.1,y11.2))
     else
      bif (y4.toNat:Int)==92 then
       ze (qQ n (x.1,s2.1)) fun y12=>
       need (Vf s2.2.2.text.length y12.1.length)<|
       some (LO.again (y12.2,s2.2.1,(⟨s2.2.2.kind,s2.2.2.text++y12.1,s2.2.2.num,s2.2.2.unit,s2.2.2.flag⟩:zb)))
      else
       need (decide (0<=s2.1)&&(decide (s2.1<=w64 (s2.1+1))&&decide (w64 (s2.1+1)<=(x.1.length:Int))))<|
       need (Vf s2.2.2.text.length (List.drop s2.1.toNat (List.take (w64 (s2.1+1)).toNat x.1)).length)<|
       some (LO.again (w64 (s2.1+1),s2.2.1,(⟨s2.2.2.kind,s2.2.2.text++List.drop s2.1.toNat (List.take (w64 (s2.1+1)).toNat x.1),s2.2.2.num,s2.2.2.unit,s2.2.2.flag⟩:zb)))
   else
    some (LO.out (s2.1,s2.2.1,s2.2.2)):Int×zb×zb->Option (LO (Int×zb×zb) (Int×zb×zb) _)) (y1,(⟨0,[],0,[],false⟩:zb),(⟨7,[],0,[],false⟩:zb)) fun o13=>
 some (o13.2.2,if w64 (o13.1+1)<(x.1.length:Int)then w64 (o13.1+1)else(x.1.length:Int))
theorem HZ(n:Nat)(x:Str×Int):Le (OG n x) (Kz x):=by unfold OG Kz;exact(.bind (WA n _) fun _=>(.loop (fun _=>(.bind .rfl fun _=>(.bif (.bind .rfl fun _=>(.bind .rfl fun _=>(.bif (.bind (WA n _) fun _=>(.bind .rfl fun _=>(.bif (.bind (kN n _) fun _=> .rfl) .rfl))) (.bind .rfl fun _=>(.bind .rfl fun _=>(.bif (.bind (kN n _) fun _=> .rfl) (.bif (.bind (Q7 n _) fun _=>(.need .rfl)) (.need (.need .rfl))))))))) .rfl))) fun _=> .rfl))
def WG(n:Nat)(x:Str×Int):Option (zb×Int):=
 ze (QJ n (x.1,x.2)) fun y1=>
 ze (zQ (x.1,y1.2)) fun y2=>
 bif y2 != 40 then
  some ((⟨1,y1.1,0,[],false⟩:zb),y1.2)
 else
  zN (X:=zb) (
    ze (aG n (y1.1,[117,114,108])) fun y3=>
    bif y3 then
     ze (Qm n (x.1,w64 (y1.2+1))) fun y4=>
     ze (zQ (x.1,y4)) fun y5=>
     bif bif y5 != 34 then y5 != 39 else false then
      ze (OG n (x.1,w64 (y1.2+1))) fun y6=>
      some (LX.ret (y6.1,y6.2))
     else
      some (LX.out (⟨0,[],0,[],false⟩:zb))
    else
     some (LX.out (⟨0,[],0,[],false⟩:zb))) fun j7=>
  some ((⟨2,y1.1,0,[],false⟩:zb),w64 (y1.2+1))
theorem U1(n:Nat)(x:Str×Int):Le (WG n x) (gz x):=by unfold WG gz;exact(.bind (aA n _) fun _=>(.bind .rfl fun _=>(.bif .rfl (.join (.bind (P6 n _) fun _=>(.bif (.bind (WA n _) fun _=>(.bind .rfl fun _=>(.bif (.bind (HZ n _) fun _=> .rfl) .rfl))) .rfl)) fun _=> .rfl))))
def PG(n:Nat)(x:Str×Int):Option (zb×Int):=
 ze (geti x.1 x.2) fun y1=>
 ze (qY (y1.toNat:Int)) fun y2=>
 bif y2 then
  ze (Qm n (x.1,x.2)) fun y3=>
  some ((⟨13,[],0,[],false⟩:zb),y3)
 else
  bif bif (y1.toNat:Int)==34 then true else(y1.toNat:Int)==39 then
   ze (iG n (x.1,x.2)) fun y4=>
   some (y4.1,y4.2)
  else
   ze (zu (decide (w64 (x.2+1)<(x.1.length:Int))&&(y1.toNat:Int)==35) (geti x.1 (w64 (x.2+1))) 0) fun y5=>
   ze (zu (decide (w64 (x.2+1)<(x.1.length:Int))&&(y1.toNat:Int)==35) (xu (y5.toNat:Int)) (default:Bool)) fun y6=>
   ze (zu (!(bif decide (w64 (x.2+1)<(x.1.length:Int))then y6 else false)&&(y1.toNat:Int)==35) (ZV (x.1,w64 (x.2+1))) (default:Bool)) fun y7=>
   bif bif (y1.toNat:Int)==35 then bif bif decide (w64 (x.2+1)<(x.1.length:Int))then y6 else false then true else y7 else false then
    ze (QJ n (x.1,w64 (x.2+1))) fun y8=>
    ze (qC (x.1,w64 (x.2+1))) fun y9=>
    some ((⟨4,y8.1,0,[],y9⟩:zb),y8.2)
   else
    ze (jG (x.1,x.2)) fun y10=>
    bif y10 then
     ze (pG n (x.1,x.2)) fun y11=>
     some (y11.1,y11.2)
    else
     ze (Wu (x.1,x.2,[45,45,62])) fun y12=>
     bif y12 then
      some ((⟨15,[],0,[],false⟩:zb),w64 (x.2+3))
     else
      ze (Wu (x.1,x.2,[60,33,45,45])) fun y13=>
      bif y13 then
       some ((⟨14,[],0,[],false⟩:zb),w64 (x.2+4))
      else
       ze (zu ((y1.toNat:Int)==64) (qC (x.1,w64 (x.2+1))) (default:Bool)) fun y14=>
       bif bif (y1.toNat:Int)==64 then y14 else false then
        ze (QJ n (x.1,w64 (x.2+1))) fun y15=>
        some ((⟨3,y15.1,0,[],false⟩:zb),y15.2)
       else
        ze (qC (x.1,x.2)) fun y16=>
        bif y16 then
         ze (WG n (x.1,x.2)) fun y17=>
         some (y17.1,y17.2)
        else
         ze (su (y1.toNat:Int)) fun y18=>
         bif y18 != 0 then
          ze (su (y1.toNat:Int)) fun y19=>
          some ((⟨y19,[],0,[],false⟩:zb),w64 (x.2+1))
         else
          need (decide (0<=x.2)&&(decide (x.2<=w64 (x.2+1))&&decide (w64 (x.2+1)<=(x.1.length:Int))))<|
          some ((⟨9,List.drop x.2.toNat (List.take (w64 (x.2+1)).toNat x.1),0,[],false⟩:zb),w64 (x.2+1))
theorem IZ(n:Nat)(x:Str×Int):Le (PG n x) (Nz x):=by unfold PG Nz;exact(.bind .rfl fun _=>(.bind .rfl fun _=>(.bif (.bind (WA n _) fun _=> .rfl) (.bif (.bind (Y7 n _) fun _=> .rfl) (.bind .rfl fun _=>(.bind .rfl fun _=>(.bind .rfl fun _=>(.bif (.bind (aA n _) fun _=>(.bind .rfl fun _=> .rfl)) (.bind .rfl fun _=>(.bif (.bind (E8 n _) fun _=> .rfl) (.bind .rfl fun _=>(.bif .rfl (.bind .rfl fun _=>(.bif .rfl (.bind .rfl fun _=>(.bif (.bind (aA n _) fun _=> .rfl) (.bind .rfl fun _=>(.bif (.bind (U1 n _) fun _=> .rfl) (.bind .rfl fun _=>(.bif (.bind .rfl fun _=> .rfl) (.need .rfl)))))))))))))))))))))
def YG(n:Nat)(x:Int):Option Bool:=
 ze (Zq x) fun y1=>
 ze (PG n ([y1,(10:UInt8)],0)) fun y2=>
 some (bif bif bif bif decide (x>=1)then decide (x<=127)else false then x != 12 else false then x != 13 else false then y2.1.kind==9 else false)
theorem O6(n:Nat)(x:Int):Le (YG n x) (qH x):=by unfold YG qH;exact(.bind .rfl fun _=>(.bind (IZ n _) fun _=> .rfl))
def KA(n:Nat)(x:Str):Option Str:=
 need (decide (x.length<=maxLen))<|
 Qt n (fun(s1:Int×List UInt8)=>
   bif decide (s1.1<(x.length:Int))then
    zN (X:=Int×List UInt8) (
      need (decide (0<=s1.1)&&decide (s1.1<(s1.2.length:Int)))<|
      ze s1.2[s1.1.toNat]? fun y2=>
      bif bif decide (65<=(y2.toNat:Int))then decide ((y2.toNat:Int)<=90)else false then
       need (decide (0<=s1.1)&&decide (s1.1<(s1.2.length:Int)))<|
       ze s1.2[s1.1.toNat]? fun y3=>
       need (decide (0<=s1.1)&&decide (s1.1<(s1.2.length:Int)))<|
       ze s1.2[s1.1.toNat]? fun y4=>
       ze (Zq (ibOr IntKind.u8 (y3.toNat:Int) 32)) fun y5=>
       some (LX.out (s1.1,List.set s1.2 s1.1.toNat y5))
      else
       some (LX.out (s1.1,s1.2))) fun j6=>
    some (LO.again (w64 (j6.1+1),j6.2))
   else
    some (LO.out s1.2):Int×List UInt8->Option (LO (Int×List UInt8) (List UInt8) _)) (0,x) fun o7=>
 some o7
theorem RO(n:Nat)(x:Str):Le (KA n x) (Jn x):=by unfold KA Jn;exact(.need (.loop (fun _=>(.bif (.join (.need (.bind .rfl fun _=>(.bif (.need (.bind .rfl fun _=>(.need (.bind .rfl fun _=>(.bind .rfl fun _=> .rfl))))) .rfl))) fun _=> .rfl) .rfl)) fun _=> .rfl))
def LA(n:Nat)(x:Str×Str):Option Bool:=
 ze (KA n x.1) fun y1=>
 ze (KA n x.2) fun y2=>
 some (y1==y2)
theorem WO(n:Nat)(x:Str×Str):Le (LA n x) (Kn x):=by unfold LA Kn;exact(.bind (RO n _) fun _=>(.bind (RO n _) fun _=> .rfl))
def SA(n:Nat)(x:List zb):Option Int:=
 ze (geti x 0) fun y1=>
 bif bif y1.kind==9 then y1.text==[92]else false then
  ze (Zp ((1,13),x)) fun y2=>
  bif !y2 then
   some 0
  else
   some 2
 else
  ze (zu (y1.kind==2) (LA n (y1.text,[117,114,108])) (default:Bool)) fun y3=>
  bif bif y1.kind==2 then y3 else false then
   zN (X:=Int) (
     ze (Zp ((1,13),x)) fun y4=>
     bif y4 then
      some (LX.out 2)
     else
      some (LX.out 1)) fun j5=>
   ze (Zp ((j5,5),x)) fun y6=>
   bif !y6 then
    some 0
   else
    some (w64 (j5+1))
  else
   some 1
theorem tN(n:Nat)(x:List zb):Le (SA n x) (Qh x):=by unfold SA Qh;exact(.bind .rfl fun _=>(.bif (.bind .rfl fun _=>(.bif .rfl .rfl)) (.bind (.cond (WO n _)) fun _=>(.bif (.join (.bind .rfl fun _=>(.bif .rfl .rfl)) fun _=>(.bind .rfl fun _=>(.bif .rfl .rfl))) .rfl))))
def dG(n:Nat)(x:List zb):Option Int:=
 bif decide ((x.length:Int)>1500)then
  some 4
 else
  Qt n (fun(s1:Int)=>
    bif decide (s1<(x.length:Int))then
     ze (geti x s1) fun y2=>
     ze (bu y2) fun y3=>
     need (decide (0<=s1)&&decide (s1<=(x.length:Int))|| !(!(!y3)))<|
     ze (zu (!(!y3)) (SA n (List.drop s1.toNat x)) (default:Int)) fun y4=>
     bif bif !y3 then true else y4==0 then
      some (LO.ret 8)
     else
      some (LO.again (w64 (s1+1)))
    else
     some (LO.out ()):Int->Option (LO (Int) (Unit) _)) 0 fun o5=>
  some 0
theorem mG(n:Nat)(x:List zb):Le (dG n x) (Kl x):=by unfold dG Kl;exact(.bif .rfl (.loop (fun _=>(.bif (.bind .rfl fun _=>(.bind .rfl fun _=>(.need (.bind (.cond (tN n _)) fun _=>(.bif .rfl .rfl))))) .rfl)) fun _=> .rfl))
def qx(n:Nat)(x:(Str×Int)×List UInt8):Option (List UInt8):=
 Qt n (fun(s1:Int×List UInt8)=>
   bif decide (s1.1<(x.1.1.length:Int))then
    zN (X:=Int×List UInt8) (
      ze (geti x.1.1 s1.1) fun y2=>
      ze (Rn (y2.toNat:Int)) fun y3=>
      ze (zu (!(decide (s1.1>=x.1.2))&&y3) (Qg (y2.toNat:Int)) (default:Bool)) fun y4=>
      bif bif bif y3 then bif decide (s1.1>=x.1.2)then true else !y4 else false then bif x.1.2==0 then true else !(x.1.1==[45])else false then
       ze (Zq (y2.toNat:Int)) fun y5=>
       need (zR s1.2.length 1 1)<|
       some (LX.out (s1.1,s1.2++[y5]))
      else
       ze (Zt ((y2.toNat:Int),s1.2)) fun y6=>
       some (LX.out (s1.1,y6))) fun j7=>
    some (LO.again (w64 (j7.1+1),j7.2))
   else
    some (LO.out s1.2):Int×List UInt8->Option (LO (Int×List UInt8) (List UInt8) _)) (0,x.2) fun o8=>
 some o8
theorem Qj(n:Nat)(x:(Str×Int)×List UInt8):Le (qx n x) (ZY x):=by unfold qx ZY;exact(.loop (fun _=>(.bif (.join (.bind .rfl fun _=>(.bind .rfl fun _=>(.bind .rfl fun _=>(.bif (.bind .rfl fun _=>(.need .rfl)) (.bind .rfl fun _=> .rfl))))) fun _=> .rfl) .rfl)) fun _=> .rfl)
def nG(n:Nat)(x:zb×List UInt8):Option (List UInt8):=
 bif x.1.kind==1 then
  ze (Z8 x.1.text) fun y1=>
  ze (qx n ((x.1.text,y1),x.2)) fun y2=>
  some y2
 else
  bif x.1.kind==2 then
   ze (Z8 x.1.text) fun y3=>
   ze (qx n ((x.1.text,y3),x.2)) fun y4=>
   need (zR y4.length 1 1)<|
   some (y4++[(40:UInt8)])
  else
   bif x.1.kind==3 then
    need (zR x.2.length 1 1)<|
    ze (Z8 x.1.text) fun y5=>
    ze (qx n ((x.1.text,y5),x.2++[(64:UInt8)])) fun y6=>
    some y6
   else
    bif x.1.kind==4 then
     zN (X:=Int×List UInt8) (
       bif x.1.flag then
        ze (Z8 x.1.text) fun y7=>
        some (LX.out (y7,x.2))
       else
        some (LX.out (0,x.2))) fun j8=>
     need (zR j8.2.length 1 1)<|
     ze (qx n ((x.1.text,j8.1),j8.2++[(35:UInt8)])) fun y9=>
     some y9
    else
     bif x.1.kind==5 then
      need (zR x.2.length 1 1)<|
      need (decide (x.1.text.length<=maxLen))<|
      Qt n (fun(s10:Int×List UInt8)=>
        bif decide (s10.1<(x.1.text.length:Int))then
         zN (X:=Int×List UInt8) (
           need (decide (0<=s10.1)&&decide (s10.1<(x.1.text.length:Int)))<|
           ze x.1.text[s10.1.toNat]? fun y11=>
           ze (strings_IndexByte ([10,12,13,34,92],(y11.toNat:Int))) fun y12=>
           bif decide (y12>=0)then
            ze (Zt ((y11.toNat:Int),s10.2)) fun y13=>
            some (LX.out (s10.1,y13))
           else
            ze (Zq (y11.toNat:Int)) fun y14=>
            need (zR s10.2.length 1 1)<|
            some (LX.out (s10.1,s10.2++[y14]))) fun j15=>
         some (LO.again (w64 (j15.1+1),j15.2))
        else
         some (LO.out s10.2):Int×List UInt8->Option (LO (Int×List UInt8) (List UInt8) _)) (0,x.2++[(34:UInt8)]) fun o16=>
      need (zR o16.length 1 1)<|
      some (o16++[(34:UInt8)])
     else
      bif x.1.kind==7 then
       need (zR x.2.length ([117,114,108,40]:Str).length 1)<|
       need (decide (x.1.text.length<=maxLen))<|
       Qt n (fun(s17:Int×List UInt8)=>
         bif decide (s17.1<(x.1.text.length:Int))then
          zN (X:=Int×List UInt8) (
            need (decide (0<=s17.1)&&decide (s17.1<(x.1.text.length:Int)))<|
            ze x.1.text[s17.1.toNat]? fun y18=>
            ze (zu (!(decide ((y18.toNat:Int)<=32))) (strings_IndexByte ([34,39,40,41,92,127],(y18.toNat:Int))) (default:Int)) fun y19=>
            bif bif decide ((y18.toNat:Int)<=32)then true else decide (y19>=0)then
             ze (Zt ((y18.toNat:Int),s17.2)) fun y20=>
             some (LX.out (s17.1,y20))
            else
             ze (Zq (y18.toNat:Int)) fun y21=>
             need (zR s17.2.length 1 1)<|
             some (LX.out (s17.1,s17.2++[y21]))) fun j22=>
          some (LO.again (w64 (j22.1+1),j22.2))
         else
          some (LO.out s17.2):Int×List UInt8->Option (LO (Int×List UInt8) (List UInt8) _)) (0,x.2++([117,114,108,40]:Str)) fun o23=>
       need (zR o23.length 1 1)<|
       some (o23++[(41:UInt8)])
      else
       bif x.1.kind==9 then
        need (zR x.2.length x.1.text.length 1)<|
        some (x.2++x.1.text)
       else
        bif x.1.kind==10 then
         ze (Z6 ((x.1.num, !x.1.flag),x.2)) fun y24=>
         some y24
        else
         bif x.1.kind==11 then
          ze (Z6 ((x.1.num,false),x.2)) fun y25=>
          need (zR y25.length 1 1)<|
          some (y25++[(37:UInt8)])
         else
          bif x.1.kind==12 then
           ze (Z6 ((x.1.num, !x.1.flag),x.2)) fun y26=>
           ze (geti x.1.unit 0) fun y27=>
           need (decide (1<=(x.1.unit.length:Int))|| !(ibOr IntKind.u8 (y27.toNat:Int) 32==101))<|
           ze (zu (ibOr IntKind.u8 (y27.toNat:Int) 32==101) (Wq (List.drop 1 x.1.unit)) (default:Bool)) fun y28=>
           need (decide (1<=(x.1.unit.length:Int))|| !(bif ibOr IntKind.u8 (y27.toNat:Int) 32==101 then y28 else false))<|
           ze (zu (bif ibOr IntKind.u8 (y27.toNat:Int) 32==101 then y28 else false) (strings_HasPrefix (List.drop 1 x.1.unit,[45,45])) (default:Bool)) fun y29=>
           bif bif bif ibOr IntKind.u8 (y27.toNat:Int) 32==101 then y28 else false then !y29 else false then
            ze (geti x.1.unit 0) fun y30=>
            ze (Zt ((y30.toNat:Int),y26)) fun y31=>
            need (decide (1<=(x.1.unit.length:Int)))<|
            ze (qx n ((List.drop 1 x.1.unit,0),y31)) fun y32=>
            some y32
           else
            ze (Z8 x.1.unit) fun y33=>
            ze (qx n ((x.1.unit,y33),y26)) fun y34=>
            some y34
          else
           ze (lu ()) fun y35=>
           ze (geti [y35.e0,y35.e1,y35.e2,y35.e3,y35.e4,y35.e5,y35.e6,y35.e7,y35.e8,y35.e9,y35.e10,y35.e11] (wu8 (x.1.kind - 13))) fun y36=>
           need (zR x.2.length y36.length 1)<|
           some (x.2++y36)
theorem R6(n:Nat)(x:zb×List UInt8):Le (nG n x) (Nn x):=by unfold nG Nn;exact(.bif (.bind .rfl fun _=>(.bind (Qj n _) fun _=> .rfl)) (.bif (.bind .rfl fun _=>(.bind (Qj n _) fun _=>(.need .rfl))) (.bif (.need (.bind .rfl fun _=>(.bind (Qj n _) fun _=> .rfl))) (.bif (.join (.bif (.bind .rfl fun _=> .rfl) .rfl) fun _=>(.need (.bind (Qj n _) fun _=> .rfl))) (.bif (.need (.need (.loop (fun _=>(.bif (.join (.need (.bind .rfl fun _=>(.bind .rfl fun _=>(.bif (.bind .rfl fun _=> .rfl) (.bind .rfl fun _=>(.need .rfl)))))) fun _=> .rfl) .rfl)) fun _=>(.need .rfl)))) (.bif (.need (.need (.loop (fun _=>(.bif (.join (.need (.bind .rfl fun _=>(.bind .rfl fun _=>(.bif (.bind .rfl fun _=> .rfl) (.bind .rfl fun _=>(.need .rfl)))))) fun _=> .rfl) .rfl)) fun _=>(.need .rfl)))) (.bif (.need .rfl) (.bif (.bind .rfl fun _=> .rfl) (.bif (.bind .rfl fun _=>(.need .rfl)) (.bif (.bind .rfl fun _=>(.bind .rfl fun _=>(.need (.bind .rfl fun _=>(.need (.bind .rfl fun _=>(.bif (.bind .rfl fun _=>(.bind .rfl fun _=>(.need (.bind (Qj n _) fun _=> .rfl)))) (.bind .rfl fun _=>(.bind (Qj n _) fun _=> .rfl))))))))) (.bind .rfl fun _=>(.bind .rfl fun _=>(.need .rfl)))))))))))))
def ZW(n:Nat)(x:za):Option za:=
 Qt n (fun(s1:za)=>
   need (decide (0<=s1.at_)&&decide (s1.at_<=(s1.s.length:Int)))<|
   ze (strings_HasPrefix (List.drop s1.at_.toNat s1.s,[47,42])) fun y2=>
   bif y2 then
    need (decide (0<=w64 (s1.at_+2))&&decide (w64 (s1.at_+2)<=(s1.s.length:Int)))<|
    ze (Sk (List.drop (w64 (s1.at_+2)).toNat s1.s,[42,47])) fun y3=>
    bif decide (y3<0)then
     some (LO.ret (⟨s1.s,(s1.s.length:Int)⟩:za))
    else
     some (LO.again (⟨s1.s,w64 (s1.at_+w64 (y3+4))⟩:za))
   else
    some (LO.out s1):za->Option (LO (za) (za) _)) x fun o4=>
 some o4
theorem QV(n:Nat)(x:za):Le (ZW n x) (z8 x):=by unfold ZW z8;exact(.loop (fun _=>(.need (.bind .rfl fun _=>(.bif (.need (.bind .rfl fun _=>(.bif .rfl .rfl))) .rfl)))) fun _=> .rfl)
def Zz(n:Nat)(x:za):Option za:=
 Qt n (fun(s1:za)=>
   ze (zf (0,s1)) fun y2=>
   ze (ZZ y2) fun y3=>
   bif y3 then
    some (LO.again (⟨s1.s,w64 (s1.at_+1)⟩:za))
   else
    some (LO.out s1):za->Option (LO (za) (za) _)) x fun o4=>
 some o4
theorem qj(n:Nat)(x:za):Le (Zz n x) (zY x):=by unfold Zz zY;exact(.loop (fun _=>(.bind .rfl fun _=>(.bind .rfl fun _=>(.bif .rfl .rfl)))) fun _=> .rfl)
def qJ(n:Nat)(x:za):Option (za×List UInt8):=
 ze (zf (0,(⟨x.s,w64 (x.at_+1)⟩:za))) fun y1=>
 bif y1==(-1)then
  ze (ZB 65533) fun y2=>
  some ((⟨x.s,w64 (x.at_+1)⟩:za),y2)
 else
  ze (Q4 y1) fun y3=>
  bif decide (y3<0)then
   ze (Zq (wu8 y1)) fun y4=>
   need (zR 0 1 1)<|
   some ((⟨x.s,w64 (w64 (x.at_+1)+1)⟩:za),[y4])
  else
   Qt n (fun(s5:(Int×Int)×za)=>
     bif decide (s5.1.2<6)then
      ze (zf (0,s5.2)) fun y6=>
      ze (Q4 y6) fun y7=>
      bif decide (y7<0)then
       some (LO.out (s5.1.1,s5.2))
      else
       some (LO.again ((ibOr IntKind.i64 (Yl IntKind.i64 s5.1.1 4) y7,w64 (s5.1.2+1)),(⟨s5.2.s,w64 (s5.2.at_+1)⟩:za)))
     else
      some (LO.out (s5.1.1,s5.2)):(Int×Int)×za->Option (LO ((Int×Int)×za) (Int×za) _)) ((0,0),(⟨x.s,w64 (x.at_+1)⟩:za)) fun o8=>
   zN (X:=Int×za) (
     ze (zf (0,o8.2)) fun y9=>
     ze (ZZ y9) fun y10=>
     bif y10 then
      some (LX.out (o8.1,(⟨o8.2.s,w64 (o8.2.at_+1)⟩:za)))
     else
      some (LX.out (o8.1,o8.2))) fun j11=>
   zN (X:=Int) (
     bif j11.1==0 then
      some (LX.out 65533)
     else
      some (LX.out j11.1)) fun j12=>
   ze (ZB (w32 j12)) fun y13=>
   some (j11.2,y13)
theorem zbT(n:Nat)(x:za):Le (qJ n x) (Zk x):=by unfold qJ Zk;exact(.bind .rfl fun _=>(.bif (.bind .rfl fun _=> .rfl) (.bind .rfl fun _=>(.bif (.bind .rfl fun _=>(.need .rfl)) (.loop (fun _=>(.bif (.bind .rfl fun _=>(.bind .rfl fun _=>(.bif .rfl .rfl))) .rfl)) fun _=>(.join (.bind .rfl fun _=>(.bind .rfl fun _=>(.bif .rfl .rfl))) fun _=>(.join (.bif .rfl .rfl) fun _=>(.bind .rfl fun _=> .rfl))))))))
def Zr(n:Nat)(x:za×List UInt8):Option (za×List UInt8):=
 ze (zf (0,(⟨x.1.s,w64 (x.1.at_+1)⟩:za))) fun y1=>
 bif y1==(-1)then
  ze (ZC (65533,x.2)) fun y2=>
  some ((⟨x.1.s,w64 (x.1.at_+1)⟩:za),y2)
 else
  ze (Q4 y1) fun y3=>
  bif decide (y3<0)then
   ze (Zq (wu8 y1)) fun y4=>
   need (zR x.2.length 1 1)<|
   some ((⟨x.1.s,w64 (w64 (x.1.at_+1)+1)⟩:za),x.2++[y4])
  else
   Qt n (fun(s5:(Int×Int)×za)=>
     bif decide (s5.1.2<6)then
      ze (zf (0,s5.2)) fun y6=>
      ze (Q4 y6) fun y7=>
      bif decide (y7<0)then
       some (LO.out (s5.1.1,s5.2))
      else
       some (LO.again ((ibOr IntKind.i64 (Yl IntKind.i64 s5.1.1 4) y7,w64 (s5.1.2+1)),(⟨s5.2.s,w64 (s5.2.at_+1)⟩:za)))
     else
      some (LO.out (s5.1.1,s5.2)):(Int×Int)×za->Option (LO ((Int×Int)×za) (Int×za) _)) ((0,0),(⟨x.1.s,w64 (x.1.at_+1)⟩:za)) fun o8=>
   zN (X:=Int×za×List UInt8) (
     ze (zf (0,o8.2)) fun y9=>
     ze (ZZ y9) fun y10=>
     bif y10 then
      some (LX.out (o8.1,(⟨o8.2.s,w64 (o8.2.at_+1)⟩:za),x.2))
     else
      some (LX.out (o8.1,o8.2,x.2))) fun j11=>
   zN (X:=Int×List UInt8) (
     bif j11.1==0 then
      some (LX.out (65533,j11.2.2))
     else
      some (LX.out (j11.1,j11.2.2))) fun j12=>
   ze (ZC (w32 j12.1,j12.2)) fun y13=>
   some (j11.2.1,y13)
theorem qm(n:Nat)(x:za×List UInt8):Le (Zr n x) (zX x):=by unfold Zr zX;exact(.bind .rfl fun _=>(.bif (.bind .rfl fun _=> .rfl) (.bind .rfl fun _=>(.bif (.bind .rfl fun _=>(.need .rfl)) (.loop (fun _=>(.bif (.bind .rfl fun _=>(.bind .rfl fun _=>(.bif .rfl .rfl))) .rfl)) fun _=>(.join (.bind .rfl fun _=>(.bind .rfl fun _=>(.bif .rfl .rfl))) fun _=>(.join (.bif .rfl .rfl) fun _=>(.bind .rfl fun _=> .rfl))))))))
def Qp(n:Nat)(x:za):Option (zb×za):=
 ze (zf (0,x)) fun y1=>
 Qt n (fun(s2:za×zb×List UInt8)=>
   ze (zf (0,s2.1)) fun y3=>
   bif y3==(-1)then
    some (LO.out (s2.1,s2.2.1,s2.2.2))
   else
    bif y3==y1 then
     some (LO.out ((⟨s2.1.s,w64 (s2.1.at_+1)⟩:za),s2.2.1,s2.2.2))
    else
     bif y3==10 then
      some (LO.ret ((⟨6,[],0,[],false⟩:zb),s2.1))
     else
      ze (zu (y3==92) (zf (1,s2.1)) (default:Int)) fun y4=>
      ze (zu (!(y4==(-1))&&y3==92) (zf (1,s2.1)) (default:Int)) fun y5=>
      bif bif y3==92 then bif y4==(-1)then true else y5==10 else false then
       some (LO.again ((⟨s2.1.s,if(s2.1.s.length:Int)<w64 (s2.1.at_+2)then(s2.1.s.length:Int)else w64 (s2.1.at_+2)⟩:za),s2.2.1,s2.2.2))
      else
       bif y3==92 then
        ze (Zr n (s2.1,s2.2.2)) fun y6=>
        some (LO.again (y6.1,s2.2.1,y6.2))
       else
        ze (Zq (wu8 y3)) fun y7=>
        need (zR s2.2.2.length 1 1)<|
        some (LO.again ((⟨s2.1.s,w64 (s2.1.at_+1)⟩:za),s2.2.1,s2.2.2++[y7])):za×zb×List UInt8->Option (LO (za×zb×List UInt8) (za×zb×List UInt8) _)) ((⟨x.s,w64 (x.at_+1)⟩:za),(⟨0,[],0,[],false⟩:zb),[]) fun o8=>
 some ((⟨5,o8.2.2,0,[],false⟩:zb),o8.1)
theorem zc3(n:Nat)(x:za):Le (Qp n x) (ZL x):=by unfold Qp ZL;exact(.bind .rfl fun _=>(.loop (fun _=>(.bind .rfl fun _=>(.bif .rfl (.bif .rfl (.bif .rfl (.bind .rfl fun _=>(.bind .rfl fun _=>(.bif .rfl (.bif (.bind (qm n _) fun _=> .rfl) (.bind .rfl fun _=>(.need .rfl))))))))))) fun _=> .rfl))
def ZM(n:Nat)(x:za):Option (Str×za):=
 Qt n (fun(s1:za×List UInt8)=>
   ze (zf (0,s1.1)) fun y2=>
   ze (Tq y2) fun y3=>
   bif y3 then
    ze (Zq (wu8 y2)) fun y4=>
    need (zR s1.2.length 1 1)<|
    some (LO.again ((⟨s1.1.s,w64 (s1.1.at_+1)⟩:za),s1.2++[y4]))
   else
    ze (zu (y2 != (-1)) (zC (0,s1.1)) (default:Bool)) fun y5=>
    bif bif y2 != (-1)then y5 else false then
     ze (Zr n (s1.1,s1.2)) fun y6=>
     some (LO.again (y6.1,y6.2))
    else
     some (LO.ret (s1.2,s1.1)):za×List UInt8->Option (LO (za×List UInt8) (Unit) _)) (x,[]) fun o7=>
 none
theorem qz(n:Nat)(x:za):Le (ZM n x) (zS x):=by unfold ZM zS;exact(.loop (fun _=>(.bind .rfl fun _=>(.bind .rfl fun _=>(.bif (.bind .rfl fun _=>(.need .rfl)) (.bind .rfl fun _=>(.bif (.bind (qm n _) fun _=> .rfl) .rfl)))))) fun _=> .none)
def ZK(n:Nat)(x:za):Option za:=
 Qt n (fun(s1:za)=>
   ze (zf (0,s1)) fun y2=>
   ze (ZI y2) fun y3=>
   bif y3 then
    some (LO.again (⟨s1.s,w64 (s1.at_+1)⟩:za))
   else
    some (LO.out s1):za->Option (LO (za) (za) _)) x fun o4=>
 some o4
theorem qN(n:Nat)(x:za):Le (ZK n x) (zO x):=by unfold ZK zO;exact(.loop (fun _=>(.bind .rfl fun _=>(.bind .rfl fun _=>(.bif .rfl .rfl)))) fun _=> .rfl)
def qZ(n:Nat)(x:za):Option (Bool×za):=
 zN (X:=za) (
   ze (zf (0,x)) fun y1=>
   bif bif y1==43 then true else y1==45 then
    some (LX.out (⟨x.s,w64 (x.at_+1)⟩:za))
   else
    some (LX.out x)) fun j2=>
 ze (ZK n j2) fun y3=>
 zN (X:=Bool×za) (
   ze (zf (0,y3)) fun y4=>
   ze (zu (y4==46) (zf (1,y3)) (default:Int)) fun y5=>
   ze (zu (y4==46) (ZI y5) (default:Bool)) fun y6=>
   bif bif y4==46 then y6 else false then
    ze (ZK n (⟨y3.s,w64 (y3.at_+1)⟩:za)) fun y7=>
    some (LX.out (false,y7))
   else
    some (LX.out (true,y3))) fun j8=>
 zN (X:=Bool×za) (
   ze (zf (0,j8.2)) fun y9=>
   ze (zu (!(y9==101)) (zf (0,j8.2)) (default:Int)) fun y10=>
   bif bif y9==101 then true else y10==69 then
    zN (X:=(Bool×Int)×za) (
      ze (zf (1,j8.2)) fun y11=>
      bif bif y11==43 then true else y11==45 then
       some (LX.out ((j8.1,2),j8.2))
      else
       some (LX.out ((j8.1,1),j8.2))) fun j12=>
    ze (zf (j12.1.2,j12.2)) fun y13=>
    ze (ZI y13) fun y14=>
    bif y14 then
     ze (ZK n (⟨j12.2.s,w64 (j12.2.at_+j12.1.2)⟩:za)) fun y15=>
     some (LX.out (false,y15))
    else
     some (LX.out (j12.1.1,j12.2))
   else
    some (LX.out (j8.1,j8.2))) fun j16=>
 some (j16.1,j16.2)
theorem zcA(n:Nat)(x:za):Le (qZ n x) (Zy x):=by unfold qZ Zy;exact(.join (.bind .rfl fun _=>(.bif .rfl .rfl)) fun _=>(.bind (qN n _) fun _=>(.join (.bind .rfl fun _=>(.bind .rfl fun _=>(.bind .rfl fun _=>(.bif (.bind (qN n _) fun _=> .rfl) .rfl)))) fun _=>(.join (.bind .rfl fun _=>(.bind .rfl fun _=>(.bif (.join (.bind .rfl fun _=>(.bif .rfl .rfl)) fun _=>(.bind .rfl fun _=>(.bind .rfl fun _=>(.bif (.bind (qN n _) fun _=> .rfl) .rfl)))) .rfl))) fun _=> .rfl))))
def uG(n:Nat)(x:Str):Option Int:=
 ze (geti x 0) fun y1=>
 ze (Wh (x,[43,45])) fun y2=>
 zN (X:=Str×Int) (
   ze (Qw (y2,[101,69])) fun y3=>
   bif decide (y3>=0)then
    need (decide (0<=w64 (y3+1))&&decide (w64 (y3+1)<=(y2.length:Int)))<|
    ze (Wh (List.drop (w64 (y3+1)).toNat y2,[43,45])) fun y4=>
    need (decide (y4.length<=maxLen))<|
    Qt n (fun(s5:Int×Int)=>
      bif decide (s5.2<(y4.length:Int))then
       need (decide (0<=s5.2)&&decide (s5.2<(y4.length:Int)))<|
       ze y4[s5.2.toNat]? fun y6=>
       some (LO.again (if 1048576<w64 (w64 (10*s5.1)+w64 (wu8 ((y6.toNat:Int) - 48)))then 1048576 else w64 (w64 (10*s5.1)+w64 (wu8 ((y6.toNat:Int) - 48))),w64 (s5.2+1)))
      else
       some (LO.out s5.1):Int×Int->Option (LO (Int×Int) (Int) _)) (0,0) fun o7=>
    zN (X:=Str×Int×Int) (
      ze (geti y2 (w64 (y3+1))) fun y8=>
      bif (y8.toNat:Int)==45 then
       some (LX.out (y2,3,w64 (0 - o7)))
      else
       some (LX.out (y2,3,o7))) fun j9=>
    need (decide (0<=y3)&&decide (y3<=(j9.1.length:Int)))<|
    some (LX.out (List.take y3.toNat j9.1,w64 (j9.2.1+j9.2.2)))
   else
    some (LX.out (y2,3))) fun j10=>
 ze (cutF (j10.1,[46])) fun y11=>
 need (Vf y11.1.length y11.2.1.length)<|
 zN (X:=Str×Int) (
   bif decide (w64 (j10.2 - (y11.2.1.length:Int))<0)then
    need (decide (0<=(if w64 (((y11.1++y11.2.1).length:Int)+w64 (j10.2 - (y11.2.1.length:Int)))>0 then w64 (((y11.1++y11.2.1).length:Int)+w64 (j10.2 - (y11.2.1.length:Int)))else 0))&&decide ((if w64 (((y11.1++y11.2.1).length:Int)+w64 (j10.2 - (y11.2.1.length:Int)))>0 then w64 (((y11.1++y11.2.1).length:Int)+w64 (j10.2 - (y11.2.1.length:Int)))else 0)<=((y11.1++y11.2.1).length:Int)))<|
    some (LX.out (List.take (if w64 (((y11.1++y11.2.1).length:Int)+w64 (j10.2 - (y11.2.1.length:Int)))>0 then w64 (((y11.1++y11.2.1).length:Int)+w64 (j10.2 - (y11.2.1.length:Int)))else 0).toNat (y11.1++y11.2.1),w64 (j10.2 - (y11.2.1.length:Int))))
   else
    some (LX.out (y11.1++y11.2.1,w64 (j10.2 - (y11.2.1.length:Int))))) fun j12=>
 need (decide (j12.1.length<=maxLen))<|
 Qt n (fun(s13:Int×Int)=>
   bif decide (s13.2<(j12.1.length:Int))then
    need (decide (0<=s13.2)&&decide (s13.2<(j12.1.length:Int)))<|
    ze j12.1[s13.2.toNat]? fun y14=>
    some (LO.again (if 1000000000000<w64 (w64 (10*s13.1)+w64 (wu8 ((y14.toNat:Int) - 48)))then 1000000000000 else w64 (w64 (10*s13.1)+w64 (wu8 ((y14.toNat:Int) - 48))),w64 (s13.2+1)))
   else
    some (LO.out s13.1):Int×Int->Option (LO (Int×Int) (Int) _)) (0,0) fun o15=>
 Qt n (fun(s16:Int×Int)=>
   bif bif bif decide (s16.1>0)then decide (s16.2>0)else false then decide (s16.2<1000000000000)else false then
    some (LO.again (w64 (s16.1 - 1),if 1000000000000<w64 (10*s16.2)then 1000000000000 else w64 (10*s16.2)))
   else
    some (LO.out s16.2):Int×Int->Option (LO (Int×Int) (Int) _)) (j12.2,o15) fun o17=>
 zN (X:=Int) (
   bif (y1.toNat:Int)==45 then
    some (LX.out (w64 (0 - o17)))
   else
    some (LX.out o17)) fun j18=>
 some j18
theorem E9(n:Nat)(x:Str):Le (uG n x) (Zl x):=by unfold uG Zl;exact(.bind .rfl fun _=>(.bind .rfl fun _=>(.join (.bind .rfl fun _=>(.bif (.need (.bind .rfl fun _=>(.need (.loop (fun _=>(.bif (.need (.bind .rfl fun _=> .rfl)) .rfl)) fun _=>(.join (.bind .rfl fun _=>(.bif .rfl .rfl)) fun _=>(.need .rfl)))))) .rfl)) fun _=>(.bind .rfl fun _=>(.need (.join (.bif (.need .rfl) .rfl) fun _=>(.need (.loop (fun _=>(.bif (.need (.bind .rfl fun _=> .rfl)) .rfl)) fun _=>(.loop (fun _=>(.bif .rfl .rfl)) fun _=>(.join (.bif .rfl .rfl) fun _=> .rfl))))))))))
def Qa(n:Nat)(x:za):Option (zb×za):=
 ze (qZ n x) fun y1=>
 need (decide (0<=x.at_)&&(decide (x.at_<=y1.2.at_)&&decide (y1.2.at_<=(y1.2.s.length:Int))))<|
 ze (uG n (List.drop x.at_.toNat (List.take y1.2.at_.toNat y1.2.s))) fun y2=>
 zN (X:=za×zb×zb) (
   ze (zH (0,y1.2)) fun y3=>
   bif y3 then
    ze (ZM n y1.2) fun y4=>
    some (LX.out (y4.2,(⟨0,[],0,[],false⟩:zb),(⟨12,[],y2,y4.1,y1.1⟩:zb)))
   else
    ze (zf (0,y1.2)) fun y5=>
    bif y5==37 then
     some (LX.out ((⟨y1.2.s,w64 (y1.2.at_+1)⟩:za),(⟨0,[],0,[],false⟩:zb),(⟨11,[],y2,[],false⟩:zb)))
    else
     some (LX.out (y1.2,(⟨0,[],0,[],false⟩:zb),(⟨10,[],y2,[],y1.1⟩:zb)))) fun j6=>
 some (j6.2.2,j6.1)
theorem zcB(n:Nat)(x:za):Le (Qa n x) (Zj x):=by unfold Qa Zj;exact(.bind (zcA n _) fun _=>(.need (.bind (E9 n _) fun _=>(.join (.bind .rfl fun _=>(.bif (.bind (qz n _) fun _=> .rfl) (.bind .rfl fun _=>(.bif .rfl .rfl)))) fun _=> .rfl))))
def qi(n:Nat)(x:za):Option (zb×za):=
 Qt n (fun(s1:za×zb)=>
   ze (zf (0,s1.1)) fun y2=>
   bif y2==(-1)then
    some (LO.ret ((⟨8,[],0,[],false⟩:zb),s1.1))
   else
    ze (zC (0,s1.1)) fun y3=>
    bif y3 then
     ze (qJ n s1.1) fun y4=>
     some (LO.again (y4.1,s1.2))
    else
     ze (geti s1.1.s (w64 (w64 (s1.1.at_+1) - 1))) fun y5=>
     bif (y5.toNat:Int)==41 then
      some (LO.ret ((⟨8,[],0,[],false⟩:zb),(⟨s1.1.s,w64 (s1.1.at_+1)⟩:za)))
     else
      some (LO.again ((⟨s1.1.s,w64 (s1.1.at_+1)⟩:za),s1.2)):za×zb->Option (LO (za×zb) (Unit) _)) (x,(⟨0,[],0,[],false⟩:zb)) fun o6=>
 none
theorem QP(n:Nat)(x:za):Le (qi n x) (Zx x):=by unfold qi Zx;exact(.loop (fun _=>(.bind .rfl fun _=>(.bif .rfl (.bind .rfl fun _=>(.bif (.bind (zbT n _) fun _=> .rfl) (.bind .rfl fun _=>(.bif .rfl .rfl))))))) fun _=> .none)
def vG(n:Nat)(x:za):Option (zb×za):=
 ze (Zz n x) fun y1=>
 Qt n (fun(s2:za×zb×List UInt8)=>
   ze (zf (0,s2.1)) fun y3=>
   zN (X:=Int×za×zb×List UInt8) (
     ze (ZZ y3) fun y4=>
     bif y4 then
      ze (Zz n s2.1) fun y5=>
      ze (zf (0,y5)) fun y6=>
      bif bif y6 != 41 then y6 != (-1)else false then
       ze (qi n y5) fun y7=>
       some (LX.ret (LO.ret (y7.1,y7.2)))
      else
       some (LX.out (y6,y5,s2.2.1,s2.2.2))
     else
      some (LX.out (y3,s2.1,s2.2.1,s2.2.2))) fun j8=>
   bif j8.1==(-1)then
    some (LO.ret ((⟨7,j8.2.2.2,0,[],false⟩:zb),j8.2.1))
   else
    bif j8.1==41 then
     some (LO.ret ((⟨7,j8.2.2.2,0,[],false⟩:zb),(⟨j8.2.1.s,w64 (j8.2.1.at_+1)⟩:za)))
    else
     ze (zu (!(bif bif bif bif j8.1==34 then true else j8.1==39 then true else j8.1==40 then true else decide (j8.1<=8)then true else j8.1==11)) (qD (j8.1,14,31)) (default:Bool)) fun y9=>
     bif bif bif bif bif bif bif j8.1==34 then true else j8.1==39 then true else j8.1==40 then true else decide (j8.1<=8)then true else j8.1==11 then true else y9 then true else j8.1==127 then
      ze (qi n j8.2.1) fun y10=>
      some (LO.ret (y10.1,y10.2))
     else
      bif j8.1 != 92 then
       ze (Zq (wu8 j8.1)) fun y11=>
       need (zR j8.2.2.2.length 1 1)<|
       some (LO.again ((⟨j8.2.1.s,w64 (j8.2.1.at_+1)⟩:za),j8.2.2.1,j8.2.2.2++[y11]))
      else
       ze (zC (0,j8.2.1)) fun y12=>
       bif y12 then
        ze (Zr n (j8.2.1,j8.2.2.2)) fun y13=>
        some (LO.again (y13.1,j8.2.2.1,y13.2))
       else
        ze (qi n j8.2.1) fun y14=>
        some (LO.ret (y14.1,y14.2)):za×zb×List UInt8->Option (LO (za×zb×List UInt8) (Unit) _)) (y1,(⟨0,[],0,[],false⟩:zb),[]) fun o15=>
 none
theorem F9(n:Nat)(x:za):Le (vG n x) (qb x):=by unfold vG qb;exact(.bind (qj n _) fun _=>(.loop (fun _=>(.bind .rfl fun _=>(.join (.bind .rfl fun _=>(.bif (.bind (qj n _) fun _=>(.bind .rfl fun _=>(.bif (.bind (QP n _) fun _=> .rfl) .rfl))) .rfl)) fun _=>(.bif .rfl (.bif .rfl (.bind .rfl fun _=>(.bif (.bind (QP n _) fun _=> .rfl) (.bif (.bind .rfl fun _=>(.need .rfl)) (.bind .rfl fun _=>(.bif (.bind (qm n _) fun _=> .rfl) (.bind (QP n _) fun _=> .rfl))))))))))) fun _=> .none))
def QD(n:Nat)(x:za):Option (zb×za):=
 ze (ZM n x) fun y1=>
 ze (zf (0,y1.2)) fun y2=>
 bif y2 != 40 then
  some ((⟨1,y1.1,0,[],false⟩:zb),y1.2)
 else
  zN (X:=za×zb) (
    ze (LA n (y1.1,[117,114,108])) fun y3=>
    bif y3 then
     ze (Zz n (⟨y1.2.s,w64 (y1.2.at_+1)⟩:za)) fun y4=>
     ze (zf (0,y4)) fun y5=>
     bif bif y5 != 34 then y5 != 39 else false then
      ze (vG n (⟨y1.2.s,w64 (y1.2.at_+1)⟩:za)) fun y6=>
      some (LX.ret (y6.1,y6.2))
     else
      some (LX.out ((⟨y1.2.s,w64 (y1.2.at_+1)⟩:za),(⟨0,[],0,[],false⟩:zb)))
    else
     some (LX.out ((⟨y1.2.s,w64 (y1.2.at_+1)⟩:za),(⟨0,[],0,[],false⟩:zb)))) fun j7=>
  some ((⟨2,y1.1,0,[],false⟩:zb),j7.1)
theorem T9(n:Nat)(x:za):Le (QD n x) (Zi x):=by unfold QD Zi;exact(.bind (qz n _) fun _=>(.bind .rfl fun _=>(.bif .rfl (.join (.bind (WO n _) fun _=>(.bif (.bind (qj n _) fun _=>(.bind .rfl fun _=>(.bif (.bind (F9 n _) fun _=> .rfl) .rfl))) .rfl)) fun _=> .rfl))))
def QT(n:Nat)(x:za):Option (zb×za):=
 ze (zf (0,x)) fun y1=>
 need (decide (0<=x.at_)&&decide (x.at_<=(x.s.length:Int)))<|
 ze (ZZ y1) fun y2=>
 bif y2 then
  ze (Zz n x) fun y3=>
  some ((⟨13,[],0,[],false⟩:zb),y3)
 else
  bif bif y1==34 then true else y1==39 then
   ze (Qp n x) fun y4=>
   some (y4.1,y4.2)
  else
   ze (zu (y1==35) (zf (1,x)) (default:Int)) fun y5=>
   ze (zu (y1==35) (Tq y5) (default:Bool)) fun y6=>
   ze (zu (!y6&&y1==35) (zC (1,x)) (default:Bool)) fun y7=>
   bif bif y1==35 then bif y6 then true else y7 else false then
    ze (zH (1,x)) fun y8=>
    ze (ZM n (⟨x.s,w64 (x.at_+1)⟩:za)) fun y9=>
    some ((⟨4,y9.1,0,[],y8⟩:zb),y9.2)
   else
    ze (Zo x) fun y10=>
    bif y10 then
     ze (Qa n x) fun y11=>
     some (y11.1,y11.2)
    else
     ze (strings_HasPrefix (List.drop x.at_.toNat x.s,[45,45,62])) fun y12=>
     bif y12 then
      some ((⟨15,[],0,[],false⟩:zb),(⟨x.s,w64 (x.at_+3)⟩:za))
     else
      ze (strings_HasPrefix (List.drop x.at_.toNat x.s,[60,33,45,45])) fun y13=>
      bif y13 then
       some ((⟨14,[],0,[],false⟩:zb),(⟨x.s,w64 (x.at_+4)⟩:za))
      else
       ze (zu (y1==64) (zH (1,x)) (default:Bool)) fun y14=>
       bif bif y1==64 then y14 else false then
        ze (ZM n (⟨x.s,w64 (x.at_+1)⟩:za)) fun y15=>
        some ((⟨3,y15.1,0,[],false⟩:zb),y15.2)
       else
        ze (zH (0,x)) fun y16=>
        bif y16 then
         ze (QD n x) fun y17=>
         some (y17.1,y17.2)
        else
         ze (strings_IndexByte ([58,59,44,91,93,40,41,123,125],wu8 y1)) fun y18=>
         bif decide (y18>=0)then
          some ((⟨wu8 (16+wu8 y18),[],0,[],false⟩:zb),(⟨x.s,w64 (x.at_+1)⟩:za))
         else
          need (decide (1<=((List.drop x.at_.toNat x.s).length:Int)))<|
          some ((⟨9,List.take 1 (List.drop x.at_.toNat x.s),0,[],false⟩:zb),(⟨x.s,w64 (x.at_+1)⟩:za))
theorem d9(n:Nat)(x:za):Le (QT n x) (ZJ x):=by unfold QT ZJ;exact(.bind .rfl fun _=>(.need (.bind .rfl fun _=>(.bif (.bind (qj n _) fun _=> .rfl) (.bif (.bind (zc3 n _) fun _=> .rfl) (.bind .rfl fun _=>(.bind .rfl fun _=>(.bind .rfl fun _=>(.bif (.bind .rfl fun _=>(.bind (qz n _) fun _=> .rfl)) (.bind .rfl fun _=>(.bif (.bind (zcB n _) fun _=> .rfl) (.bind .rfl fun _=>(.bif .rfl (.bind .rfl fun _=>(.bif .rfl (.bind .rfl fun _=>(.bif (.bind (qz n _) fun _=> .rfl) (.bind .rfl fun _=>(.bif (.bind (T9 n _) fun _=> .rfl) (.bind .rfl fun _=>(.bif .rfl (.need .rfl))))))))))))))))))))))
def eG(n:Nat)(x:Str):Option (Int×List zb):=
 ze (Rj x) fun y1=>
 bif y1.2 != 0 then
  some (y1.2,[])
 else
  ze (ZW n (⟨y1.1,0⟩:za)) fun y2=>
  Qt n (fun(s3:Int×List zb×za)=>
    bif decide (s3.2.2.at_<(y1.1.length:Int))then
     bif decide (w64 (s3.1+1)>1500)then
      some (LO.ret (4,s3.2.1))
     else
      ze (QT n s3.2.2) fun y4=>
      ze (Qd ((y4.1,s3.2.2.at_,y4.2.at_),s3.2.1)) fun y5=>
      ze (ZW n y4.2) fun y6=>
      some (LO.again (w64 (s3.1+1),y5,y6))
    else
     some (LO.out (s3.2.1,s3.2.2)):Int×List zb×za->Option (LO (Int×List zb×za) (List zb×za) _)) (0,[],y2) fun o7=>
  some (0,o7.1)
theorem V7(n:Nat)(x:Str):Le (eG n x) (Sq x):=by unfold eG Sq;exact(.bind .rfl fun _=>(.bif .rfl (.bind (QV n _) fun _=>(.loop (fun _=>(.bif (.bif .rfl (.bind (d9 n _) fun _=>(.bind .rfl fun _=>(.bind (QV n _) fun _=> .rfl)))) .rfl)) fun _=> .rfl))))
def fG(n:Nat)(x:Str):Option (List zb×Int):=
 ze (eG n x) fun y1=>
 bif y1.1 != 0 then
  some ([],y1.1)
 else
  some (y1.2,0)
theorem X7(n:Nat)(x:Str):Le (fG n x) (qU x):=by unfold fG qU;exact(.bind (V7 n _) fun _=>(.bif .rfl .rfl))
def QS(n:Nat)(x:List zb×List zb):Option Bool:=
 bif (x.1.length:Int) != (x.2.length:Int)then
  some false
 else
  Qt n (fun(s1:Int)=>
    bif decide (s1<(x.1.length:Int))then
     ze (geti x.1 s1) fun y2=>
     ze (geti x.2 s1) fun y3=>
     bif !(y2.kind==y3.kind&&(y2.text==y3.text&&(y2.num==y3.num&&(y2.unit==y3.unit&&(y2.flag==y3.flag&&true)))))then
      some (LO.ret false)
     else
      some (LO.again (w64 (s1+1)))
    else
     some (LO.out ()):Int->Option (LO (Int) (Unit) _)) 0 fun o4=>
  some true
theorem l9(n:Nat)(x:List zb×List zb):Le (QS n x) (ZH x):=by unfold QS ZH;exact(.bif .rfl (.loop (fun _=>(.bif (.bind .rfl fun _=>(.bind .rfl fun _=>(.bif .rfl .rfl))) .rfl)) fun _=> .rfl))
def bG(n:Nat)(x:List zb):Option (Str×Int):=
 ze (dG n x) fun y1=>
 bif y1 != 0 then
  some ([],y1)
 else
  Qt n (fun(s2:Int×List UInt8×List zq)=>
    bif decide (s2.1<(x.length:Int))then
     need (decide (0<=s2.1)&&decide (s2.1<=(x.length:Int)))<|
     ze (SA n (List.drop s2.1.toNat x)) fun y3=>
     need (decide (0<=s2.1)&&(decide (s2.1<=w64 (s2.1+y3))&&decide (w64 (s2.1+y3)<=(x.length:Int))))<|
     Qt n (fun(s4:Int×List UInt8)=>
       bif decide (s4.1<((List.drop s2.1.toNat (List.take (w64 (s2.1+y3)).toNat x)).length:Int))then
        ze (geti (List.drop s2.1.toNat (List.take (w64 (s2.1+y3)).toNat x)) s4.1) fun y5=>
        ze (nG n (y5,s4.2)) fun y6=>
        some (LO.again (w64 (s4.1+1),y6))
       else
        some (LO.out s4.2):Int×List UInt8->Option (LO (Int×List UInt8) (List UInt8) _)) (0,[]) fun o7=>
     zN (X:=Int×List UInt8×List zq×List UInt8) (
       ze (geti x s2.1) fun y8=>
       bif bif y8.kind==9 then y3==2 else false then
        some (LX.out (s2.1,s2.2.1,s2.2.2,[(92:UInt8),(10:UInt8)]))
       else
        some (LX.out (s2.1,s2.2.1,s2.2.2,o7))) fun j9=>
     zN (X:=Int×List UInt8×List zq×zq) (
       bif decide (w64 ((j9.2.2.1.length:Int) - 4)>=0)then
        need (decide (0<=w64 ((j9.2.2.1.length:Int) - 4))&&decide (w64 ((j9.2.2.1.length:Int) - 4)<(j9.2.2.1.length:Int)))<|
        ze (j9.2.2.1[(w64 ((j9.2.2.1.length:Int) - 4)).toNat]?) fun y10=>
        some (LX.out (j9.1,j9.2.1,j9.2.2.1,y10))
       else
        some (LX.out (j9.1,j9.2.1,j9.2.2.1,(⟨0,0⟩:zq)))) fun j11=>
     need (decide (0<=j11.2.2.2.at_)&&decide (j11.2.2.2.at_<=(j11.2.1.length:Int)))<|
     need (decide (j11.2.2.2.at_.toNat+(j11.2.1.length - j11.2.2.2.at_.toNat)<=j11.2.1.length))<|
     need (Vf (List.take (j11.2.1.length - j11.2.2.2.at_.toNat) (List.drop j11.2.2.2.at_.toNat j11.2.1)).length j9.2.2.2.length)<|
     ze (fG n (List.take (j11.2.1.length - j11.2.2.2.at_.toNat) (List.drop j11.2.2.2.at_.toNat j11.2.1)++j9.2.2.2)) fun y12=>
     zN (X:=Int×List zq×List UInt8) (
       need (decide (0<=j11.2.2.2.token)&&(decide (j11.2.2.2.token<=w64 (j11.1+y3))&&decide (w64 (j11.1+y3)<=(x.length:Int)))|| !(!(y12.2 != 0)))<|
       ze (zu (!(y12.2 != 0)) (QS n (y12.1,List.drop j11.2.2.2.token.toNat (List.take (w64 (j11.1+y3)).toNat x))) (default:Bool)) fun y13=>
       bif bif y12.2 != 0 then true else !y13 then
        need (zR j11.2.1.length ([47,42,42,47]:Str).length 1)<|
        some (LX.out (j11.1,j11.2.2.1,j11.2.1++([47,42,42,47]:Str)))
       else
        some (LX.out (j11.1,j11.2.2.1,j11.2.1))) fun j14=>
     need (zR j14.2.1.length 1 16)<|
     need (zR j14.2.2.length j9.2.2.2.length 1)<|
     bif decide (((j14.2.2++j9.2.2.2).length:Int)>4000)then
      some (LO.ret ([],28))
     else
      some (LO.again (w64 (j14.1+y3),j14.2.2++j9.2.2.2,j14.2.1++[(⟨j14.1,(j14.2.2.length:Int)⟩:zq)]))
    else
     some (LO.out s2.2.1):Int×List UInt8×List zq->Option (LO (Int×List UInt8×List zq) (List UInt8) _)) (0,[],[]) fun o15=>
  some (o15,0)
theorem Y1(n:Nat)(x:List zb):Le (bG n x) (QG x):=by unfold bG QG;exact(.bind (mG n _) fun _=>(.bif .rfl (.loop (fun _=>(.bif (.need (.bind (tN n _) fun _=>(.need (.loop (fun _=>(.bif (.bind .rfl fun _=>(.bind (R6 n _) fun _=> .rfl)) .rfl)) fun _=>(.join (.bind .rfl fun _=>(.bif .rfl .rfl)) fun _=>(.join (.bif (.need (.bind .rfl fun _=> .rfl)) .rfl) fun _=>(.need (.need (.need (.bind (X7 n _) fun _=>(.join (.need (.bind (.cond (l9 n _)) fun _=>(.bif (.need .rfl) .rfl))) fun _=>(.need (.need (.bif .rfl .rfl)))))))))))))) .rfl)) fun _=> .rfl)))
def XO(n:Nat)(x:Str×List zb):Option Bool:=
 ze (bG n x.2) fun y1=>
 some (bif y1.2==0 then y1.1==x.1 else false)
theorem ZT(n:Nat)(x:Str×List zb):Le (XO n x) (zW x):=by unfold XO zW;exact(.bind (Y1 n _) fun _=> .rfl)
end
end Go.Lv.VT
