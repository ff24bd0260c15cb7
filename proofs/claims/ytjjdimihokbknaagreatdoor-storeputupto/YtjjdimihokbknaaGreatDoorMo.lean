/- Laws for the plain texts: loops that look for something; bytes. -/
import Derived.Test.YtjjdimihokbknaaGreatDoorLf
import Derived.Test.YtjjdimihokbknaaGreatDoorTx
set_option linter.unusedSimpArgs false
set_option linter.unusedVariables false
namespace Go.Lv.VT
abbrev big:Nat:=4194304
theorem zO{i n:Nat}(h:i<n):decide ((i:Int)<(n:Int))=true:=Ma (by omega)
theorem zR(n:Nat):decide ((n:Int)<(n:Int))=false:=Na (by omega)
theorem zH{i n:Nat}(h:i<n)(a:n<=big):w64 ((i:Int)+1)=((i+1:Nat):Int):=by rw[w64,qz (by omega) (by grind)];omega
theorem zP{α:Type}(b:Bool)(v d:α):zA b (some v) d=some (bif b then v else d):=by cases b<;>rfl
theorem ZZ {α X R:Type} {step:Int->Option (LO Int X R)} {k:X->Option R} (l:List α) (q:α->Option R) (x:X)
  (hg: ∀(i:Nat) (h:i<l.length),step (i:Int)=some (match q l[i]with|some r=> .ret r|none=> .again ((i+1:Nat):Int)))
  (hf:step (l.length:Int)=some (.out x)):zZ step 0 k=match l.findSome? q with|some r=>some r|none=>k x:=by
 have key: ∀(m:List α) (i:Nat),l.drop i=m->i<=l.length-> ∃n,qj step n (i:Int)=some (match m.findSome? q with|some r=> .ret r|none=> .out x):=by
  intro m
  induction m with
  |nil=>
   intro i hd hi;have:i=l.length:=by have:=Jc.1 hd;omega
   subst this;exact⟨1,by simp only[qj,hf,List.findSome?_nil]⟩
  |cons v m ih=>
   intro i hd hi;have hlt:i<l.length:=by
    rcases De i l.length with h|h
    ·exact h
    ·grind
   have hv:l[i]=v:=by have:=Ua hlt;rw[hd]at this;injection this with h1 _;exact h1.symm
   have hs:=hg i hlt;rw[hv]at hs;cases hq:q v with
   |some r=> rw[hq]at hs;exact⟨1,by simp only[qj,hs,List.findSome?_cons,hq]⟩
   |none=> rw[hq]at hs;obtain⟨n,hn⟩:=ih (i+1) (by rw[Ua hlt]at hd;injection hd) (by omega);refine⟨n+1,?_⟩;simp only[qj,hs,List.findSome?_cons,hq];exact hn
 obtain⟨n,hn⟩:=key l 0 rfl (by omega);replace hn:qj step n 0=_:=hn;rw[Ph (Fh hn)];cases l.findSome? q<;>rfl
theorem Q9{α R:Type}(p:α->Bool)(r:R): ∀(l:List α),l.findSome? (fun v=>bif p v then none else some r)=bif l.all p then none else some r
 |[]=>rfl
 |v::l=>by
  rw[List.findSome?_cons,List.all_cons];cases p v with
  |false=>rfl
  |true=>exact Q9 p r l
theorem NE{α R:Type}(p:α->Bool)(r:R): ∀(l:List α),l.findSome? (fun v=>bif p v then some r else none)=bif l.any p then some r else none
 |[]=>rfl
 |v::l=>by
  rw[List.findSome?_cons,Ue];cases p v with
  |true=>rfl
  |false=>exact NE p r l
def idxS{α:Type}(p:α->Bool):List α->Int
 |[]=> -1
 |v::l=>bif p v then 0 else bif decide (idxS p l<0)then -1 else idxS p l+1
theorem Ii{α:Type}(p:α->Bool): ∀(l:List α),decide (idxS p l>=0)=l.any p
 |[]=>rfl
 |v::l=>by
  have a:=Ii p l;rw[Ue,idxS]
  grind
theorem JS{α:Type}(p:α->Bool): ∀(l:List α), -1<=idxS p l/\idxS p l<l.length
 |[]=>by simp[idxS]
 |v::l=>by
  have:=JS p l;rw[idxS,Db]
  grind
theorem Gi {α:Type} {step:Int->Option (LO Int Unit Int)} (l:List α) (p:α->Bool) (hn:l.length<=big)
  (hg: ∀(i:Nat) (h:i<l.length),step (i:Int)=bif p l[i]then some (.ret (i:Int))else some (.again (w64 ((i:Int)+1))))
  (hf:step (l.length:Int)=some (.out ())):zZ step 0 (fun _=>some (-1))=some (idxS p l):=by
 have key: ∀(m:List α) (i:Nat),l.drop i=m->i<=l.length-> ∃n,qj step n (i:Int)=some (bif decide (idxS p m<0)then .out ()else .ret ((i:Int)+idxS p m)):=by
  intro m
  induction m with
  |nil=>
   intro i hd hi;have:i=l.length:=by have:=Jc.1 hd;omega
   subst this;exact⟨1,by simp only[qj,hf];rfl⟩
  |cons v m ih=>
   intro i hd hi;have hlt:i<l.length:=by
    rcases De i l.length with h|h
    ·exact h
    ·grind
   have hv:l[i]=v:=by have:=Ua hlt;rw[hd]at this;injection this with h1 _;exact h1.symm
   have hs:=hg i hlt;rw[hv]at hs;cases hq:p v with
   |true=> rw[hq]at hs;refine⟨1,?_⟩;simp only[qj,hs,Da,idxS,hq];simp
   |false=>
    rw[hq,Ca,zH hlt hn]at hs;obtain⟨n,hn'⟩:=ih (i+1) (by rw[Ua hlt]at hd;injection hd) (by omega);refine⟨n+1,?_⟩;simp only[qj,hs,idxS,hq,Ca]
    grind
 obtain⟨n,hn'⟩:=key l 0 rfl (by omega);replace hn':qj step n 0=_:=hn';rw[Ph (Fh hn')];have hb:=JS p l;by_cases h0:idxS p l<0
 ·rw[Ma h0];show some (-1)=_;congr 1;omega
 ·rw[Na h0];simp_all
noncomputable section
set_option maxRecDepth 100000
def bA(n:Nat)(x:Str):Option Str:=
 need (decide (x.length<=maxLen))<|
 Pg n (fun(s1:Int×List UInt8)=>
   bif decide (s1.1<(s1.2.length:Int))then
    need (decide (0<=s1.1)&&decide (s1.1<(s1.2.length:Int)))<|
    za s1.2[s1.1.toNat]? fun y2=>
    za (Dm (y2.toNat:Int)) fun y3=>
    need (decide (0<=s1.1)&&decide (s1.1<(s1.2.length:Int)))<|
    za s1.2[s1.1.toNat]? fun y4=>
    za (Qc y3) fun y5=>
    some (LO.again (w64 (s1.1+1),List.set s1.2 s1.1.toNat y5))
   else
    some (LO.out s1.2):Int×List UInt8->Option (LO (Int×List UInt8) (List UInt8) _)) (0,x) fun o6=>
 some o6
theorem SN(n:Nat)(x:Str):Le (bA n x) (Qy x):=by unfold bA Qy;exact(.need (.loop (fun _=>(.bif (.need (.bind .rfl fun _=>(.bind .rfl fun _=>(.need (.bind .rfl fun _=>(.bind .rfl fun _=> .rfl)))))) .rfl)) fun _=> .rfl))
def Kq(n:Nat)(x:Str×Int):Option Int:=
 Pg n (fun(s1:Int)=>
   za (Zt (x.1,s1)) fun y2=>
   za (Tj y2) fun y3=>
   bif y3 then
    some (LO.again (w64 (s1+1)))
   else
    some (LO.out s1):Int->Option (LO (Int) (Int) _)) x.2 fun o4=>
 some o4
theorem iB(n:Nat)(x:Str×Int):Le (Kq n x) (Gm x):=by unfold Kq Gm;exact(.loop (fun _=>(.bind .rfl fun _=>(.bind .rfl fun _=>(.bif .rfl .rfl)))) fun _=> .rfl)
def Iq(n:Nat)(x:Str×Int):Option (Str×Int):=
 bif decide (w64 (x.2+1)>=(x.1.length:Int))then
  za (Py ()) fun y1=>
  some (y1,w64 (x.2+1))
 else
  za (geti x.1 (w64 (x.2+1))) fun y2=>
  za (il (y2.toNat:Int)) fun y3=>
  bif decide (y3<0)then
   need (decide (0<=w64 (x.2+1))&&(decide (w64 (x.2+1)<=w64 (w64 (x.2+1)+1))&&decide (w64 (w64 (x.2+1)+1)<=(x.1.length:Int))))<|
   some (List.drop (w64 (x.2+1)).toNat (List.take (w64 (w64 (x.2+1)+1)).toNat x.1),w64 (w64 (x.2+1)+1))
  else
   Pg n (fun(s4:Int×Int)=>
     za (zA (bif decide (s4.2<(x.1.length:Int))then decide (s4.2<w64 (w64 (x.2+1)+6))else false) (geti x.1 s4.2) 0) fun y5=>
     za (zA (bif decide (s4.2<(x.1.length:Int))then decide (s4.2<w64 (w64 (x.2+1)+6))else false) (il (y5.toNat:Int)) (default:Int)) fun y6=>
     bif bif bif decide (s4.2<(x.1.length:Int))then decide (s4.2<w64 (w64 (x.2+1)+6))else false then decide (y6>=0)else false then
      za (geti x.1 s4.2) fun y7=>
      za (il (y7.toNat:Int)) fun y8=>
      some (LO.again (w64 (w64 (16*s4.1)+y8),w64 (s4.2+1)))
     else
      some (LO.out (s4.1,s4.2)):Int×Int->Option (LO (Int×Int) (Int×Int) _)) (0,w64 (x.2+1)) fun o9=>
   zW (X:=Int) (
     za (Zt (x.1,o9.2)) fun y10=>
     za (Tj y10) fun y11=>
     bif y11 then
      some (LX.out (w64 (o9.2+1)))
     else
      some (LX.out o9.2)) fun j12=>
   za (VF o9.1) fun y13=>
   some (y13,j12)
theorem IC(n:Nat)(x:Str×Int):Le (Iq n x) (Im x):=by unfold Iq Im;exact(.bif (.bind .rfl fun _=> .rfl) (.bind .rfl fun _=>(.bind .rfl fun _=>(.bif (.need .rfl) (.loop (fun _=>(.bind .rfl fun _=>(.bind .rfl fun _=>(.bif (.bind .rfl fun _=>(.bind .rfl fun _=> .rfl)) .rfl)))) fun _=>(.join (.bind .rfl fun _=>(.bind .rfl fun _=>(.bif .rfl .rfl))) fun _=>(.bind .rfl fun _=> .rfl)))))))
def rG(n:Nat)(x:Str×Int):Option (zk×Int):=
 za (geti x.1 x.2) fun y1=>
 Pg n (fun(s2:Int×zk×zk)=>
   bif decide (s2.1<(x.1.length:Int))then
    za (geti x.1 s2.1) fun y3=>
    bif (y3.toNat:Int)==(y1.toNat:Int)then
     some (LO.ret (s2.2.2,w64 (s2.1+1)))
    else
     za (geti x.1 s2.1) fun y4=>
     bif (y4.toNat:Int)==10 then
      some (LO.ret ((⟨6,[],0,[],false⟩:zk),s2.1))
     else
      za (geti x.1 s2.1) fun y5=>
      bif bif (y5.toNat:Int)==92 then w64 (s2.1+1)==(x.1.length:Int)else false then
       some (LO.again (w64 (s2.1+1),s2.2.1,s2.2.2))
      else
       za (geti x.1 s2.1) fun y6=>
       za (zA ((y6.toNat:Int)==92) (geti x.1 (w64 (s2.1+1))) 0) fun y7=>
       bif bif (y6.toNat:Int)==92 then(y7.toNat:Int)==10 else false then
        some (LO.again (w64 (s2.1+2),s2.2.1,s2.2.2))
       else
        za (geti x.1 s2.1) fun y8=>
        bif (y8.toNat:Int)==92 then
         za (Iq n (x.1,s2.1)) fun y9=>
         need (Tf s2.2.2.text.length y9.1.length)<|
         some (LO.again (y9.2,s2.2.1,(⟨s2.2.2.kind,s2.2.2.text++y9.1,s2.2.2.num,s2.2.2.unit,s2.2.2.flag⟩:zk)))
        else
         need (decide (0<=s2.1)&&(decide (s2.1<=w64 (s2.1+1))&&decide (w64 (s2.1+1)<=(x.1.length:Int))))<|
         need (Tf s2.2.2.text.length (List.drop s2.1.toNat (List.take (w64 (s2.1+1)).toNat x.1)).length)<|
         some (LO.again (w64 (s2.1+1),s2.2.1,(⟨s2.2.2.kind,s2.2.2.text++List.drop s2.1.toNat (List.take (w64 (s2.1+1)).toNat x.1),s2.2.2.num,s2.2.2.unit,s2.2.2.flag⟩:zk)))
   else
    some (LO.out (s2.1,s2.2.1,s2.2.2)):Int×zk×zk->Option (LO (Int×zk×zk) (Int×zk×zk) _)) (w64 (x.2+1),(⟨0,[],0,[],false⟩:zk),(⟨5,[],0,[],false⟩:zk)) fun o10=>
 some (o10.2.2,o10.1)
theorem V5(n:Nat)(x:Str×Int):Le (rG n x) (kz x):=by unfold rG kz;exact(.bind .rfl fun _=>(.loop (fun _=>(.bif (.bind .rfl fun _=>(.bif .rfl (.bind .rfl fun _=>(.bif .rfl (.bind .rfl fun _=>(.bif .rfl (.bind .rfl fun _=>(.bind .rfl fun _=>(.bif .rfl (.bind .rfl fun _=>(.bif (.bind (IC n _) fun _=>(.need .rfl)) (.need (.need .rfl))))))))))))) .rfl)) fun _=> .rfl))
def Fq(n:Nat)(x:Str×Int):Option (Str×Int):=
 Pg n (fun(s1:Int×Str)=>
   za (zA (decide (s1.1<(x.1.length:Int))) (geti x.1 s1.1) 0) fun y2=>
   za (zA (decide (s1.1<(x.1.length:Int))) (Nu (y2.toNat:Int)) (default:Bool)) fun y3=>
   bif bif decide (s1.1<(x.1.length:Int))then y3 else false then
    need (decide (0<=s1.1)&&(decide (s1.1<=w64 (s1.1+1))&&decide (w64 (s1.1+1)<=(x.1.length:Int))))<|
    need (Tf s1.2.length (List.drop s1.1.toNat (List.take (w64 (s1.1+1)).toNat x.1)).length)<|
    some (LO.again (w64 (s1.1+1),s1.2++List.drop s1.1.toNat (List.take (w64 (s1.1+1)).toNat x.1)))
   else
    za (zA (decide (s1.1<(x.1.length:Int))) (qQ (x.1,s1.1)) (default:Bool)) fun y4=>
    bif bif decide (s1.1<(x.1.length:Int))then y4 else false then
     za (Iq n (x.1,s1.1)) fun y5=>
     need (Tf s1.2.length y5.1.length)<|
     some (LO.again (y5.2,s1.2++y5.1))
    else
     some (LO.ret (s1.2,s1.1)):Int×Str->Option (LO (Int×Str) (Unit) _)) (x.2,[]) fun o6=>
 none
theorem IB(n:Nat)(x:Str×Int):Le (Fq n x) (Cm x):=by unfold Fq Cm;exact(.loop (fun _=>(.bind .rfl fun _=>(.bind .rfl fun _=>(.bif (.need (.need .rfl)) (.bind .rfl fun _=>(.bif (.bind (IC n _) fun _=>(.need .rfl)) .rfl)))))) fun _=> .none)
def gu(n:Nat)(x:Str×Int):Option Int:=
 Pg n (fun(s1:Int)=>
   za (Zt (x.1,s1)) fun y2=>
   za (ZQ y2) fun y3=>
   bif y3 then
    some (LO.again (w64 (s1+1)))
   else
    some (LO.out s1):Int->Option (LO (Int) (Int) _)) x.2 fun o4=>
 some o4
theorem NH(n:Nat)(x:Str×Int):Le (gu n x) (Tp x):=by unfold gu Tp;exact(.loop (fun _=>(.bind .rfl fun _=>(.bind .rfl fun _=>(.bif .rfl .rfl)))) fun _=> .rfl)
def kH(n:Nat)(x:Str×Int):Option (Int×Bool):=
 zW (X:=Int) (
   za (Zt (x.1,x.2)) fun y1=>
   bif bif y1==43 then true else y1==45 then
    some (LX.out (w64 (x.2+1)))
   else
    some (LX.out x.2)) fun j2=>
 za (gu n (x.1,j2)) fun y3=>
 zW (X:=Int×Bool) (
   za (Zt (x.1,y3)) fun y4=>
   za (zA (y4==46) (Zt (x.1,w64 (y3+1))) (default:Int)) fun y5=>
   za (zA (y4==46) (ZQ y5) (default:Bool)) fun y6=>
   bif bif y4==46 then y6 else false then
    za (gu n (x.1,w64 (y3+1))) fun y7=>
    some (LX.out (y7,false))
   else
    some (LX.out (y3,true))) fun j8=>
 zW (X:=Int×Bool) (
   za (Zt (x.1,j8.1)) fun y9=>
   bif bif y9==101 then true else y9==69 then
    zW (X:=Int×Bool×Int) (
      za (Zt (x.1,w64 (j8.1+1))) fun y10=>
      bif bif y10==43 then true else y10==45 then
       some (LX.out (j8.1,j8.2,w64 (w64 (j8.1+1)+1)))
      else
       some (LX.out (j8.1,j8.2,w64 (j8.1+1)))) fun j11=>
    za (Zt (x.1,j11.2.2)) fun y12=>
    za (ZQ y12) fun y13=>
    bif y13 then
     za (gu n (x.1,j11.2.2)) fun y14=>
     some (LX.out (y14,false))
    else
     some (LX.out (j11.1,j11.2.1))
   else
    some (LX.out (j8.1,j8.2))) fun j15=>
 some (j15.1,j15.2)
theorem zoJ(n:Nat)(x:Str×Int):Le (kH n x) (eB x):=by unfold kH eB;exact(.join (.bind .rfl fun _=>(.bif .rfl .rfl)) fun _=>(.bind (NH n _) fun _=>(.join (.bind .rfl fun _=>(.bind .rfl fun _=>(.bind .rfl fun _=>(.bif (.bind (NH n _) fun _=> .rfl) .rfl)))) fun _=>(.join (.bind .rfl fun _=>(.bif (.join (.bind .rfl fun _=>(.bif .rfl .rfl)) fun _=>(.bind .rfl fun _=>(.bind .rfl fun _=>(.bif (.bind (NH n _) fun _=> .rfl) .rfl)))) .rfl)) fun _=> .rfl))))
def uH(n:Nat)(x:Str):Option Int:=
 za (geti x 0) fun y1=>
 zW (X:=Str×Int×Int) (
   za (geti x 0) fun y2=>
   bif bif (y2.toNat:Int)==43 then true else(y1.toNat:Int)==45 then
    some (LX.out ([],3,1))
   else
    some (LX.out ([],3,0))) fun j3=>
 Pg n (fun(s4:Str×Int)=>
   za (Zt (x,s4.2)) fun y5=>
   za (ZQ y5) fun y6=>
   bif y6 then
    need (decide (0<=s4.2)&&(decide (s4.2<=w64 (s4.2+1))&&decide (w64 (s4.2+1)<=(x.length:Int))))<|
    need (Tf s4.1.length (List.drop s4.2.toNat (List.take (w64 (s4.2+1)).toNat x)).length)<|
    some (LO.again (s4.1++List.drop s4.2.toNat (List.take (w64 (s4.2+1)).toNat x),w64 (s4.2+1)))
   else
    some (LO.out (s4.1,s4.2)):Str×Int->Option (LO (Str×Int) (Str×Int) _)) (j3.1,j3.2.2) fun o7=>
 zW (X:=Str×Int×Int) (
   za (Zt (x,o7.2)) fun y8=>
   bif y8==46 then
    Pg n (fun(s9:Str×Int×Int)=>
      za (Zt (x,s9.2.2)) fun y10=>
      za (ZQ y10) fun y11=>
      bif y11 then
       need (decide (0<=s9.2.2)&&(decide (s9.2.2<=w64 (s9.2.2+1))&&decide (w64 (s9.2.2+1)<=(x.length:Int))))<|
       need (Tf s9.1.length (List.drop s9.2.2.toNat (List.take (w64 (s9.2.2+1)).toNat x)).length)<|
       some (LO.again (s9.1++List.drop s9.2.2.toNat (List.take (w64 (s9.2.2+1)).toNat x),w64 (s9.2.1 - 1),w64 (s9.2.2+1)))
      else
       some (LO.out (s9.1,s9.2.1,s9.2.2)):Str×Int×Int->Option (LO (Str×Int×Int) (Str×Int×Int) _)) (o7.1,j3.2.1,w64 (o7.2+1)) fun o12=>
    some (LX.out (o12.1,o12.2.1,o12.2.2))
   else
    some (LX.out (o7.1,j3.2.1,o7.2))) fun j13=>
 zW (X:=Int) (
   bif decide (j13.2.2<(x.length:Int))then
    za (geti x (w64 (j13.2.2+1))) fun y14=>
    zW (X:=Int×Int) (
      za (geti x (w64 (j13.2.2+1))) fun y15=>
      bif bif (y15.toNat:Int)==43 then true else(y14.toNat:Int)==45 then
       some (LX.out (j13.2.1,w64 (w64 (j13.2.2+1)+1)))
      else
       some (LX.out (j13.2.1,w64 (j13.2.2+1)))) fun j16=>
    Pg n (fun(s17:Int×Int)=>
      bif decide (s17.1<(x.length:Int))then
       za (geti x s17.1) fun y18=>
       some (LO.again (w64 (s17.1+1),if w64 (w64 (10*s17.2)+w64 (wu8 ((y18.toNat:Int) - 48)))<10000 then w64 (w64 (10*s17.2)+w64 (wu8 ((y18.toNat:Int) - 48)))else 10000))
      else
       some (LO.out s17.2):Int×Int->Option (LO (Int×Int) (Int) _)) (j16.2,0) fun o19=>
    zW (X:=Int×Int) (
      bif (y14.toNat:Int)==45 then
       some (LX.out (j16.1,w64 (0 - o19)))
      else
       some (LX.out (j16.1,o19))) fun j20=>
    some (LX.out (w64 (j20.1+j20.2)))
   else
    some (LX.out j13.2.1)) fun j21=>
 Pg n (fun(s22:Int×Int)=>
   bif bif decide (s22.2<w64 ((j13.1.length:Int)+j21))then decide (s22.2<(j13.1.length:Int))else false then
    za (geti j13.1 s22.2) fun y23=>
    some (LO.again (if w64 (w64 (10*s22.1)+w64 (wu8 ((y23.toNat:Int) - 48)))<1000000000000 then w64 (w64 (10*s22.1)+w64 (wu8 ((y23.toNat:Int) - 48)))else 1000000000000,w64 (s22.2+1)))
   else
    some (LO.out s22.1):Int×Int->Option (LO (Int×Int) (Int) _)) (0,0) fun o24=>
 Pg n (fun(s25:Int×Int)=>
   bif bif bif decide (s25.1>0)then decide (s25.2>0)else false then decide (s25.2<1000000000000)else false then
    some (LO.again (w64 (s25.1 - 1),if w64 (10*s25.2)<1000000000000 then w64 (10*s25.2)else 1000000000000))
   else
    some (LO.out s25.2):Int×Int->Option (LO (Int×Int) (Int) _)) (j21,o24) fun o26=>
 bif (y1.toNat:Int)==45 then
  some (w64 (0 - o26))
 else
  some o26
theorem zmy(n:Nat)(x:Str):Le (uH n x) (jC x):=by unfold uH jC;exact(.bind .rfl fun _=>(.join (.bind .rfl fun _=>(.bif .rfl .rfl)) fun _=>(.loop (fun _=>(.bind .rfl fun _=>(.bind .rfl fun _=>(.bif (.need (.need .rfl)) .rfl)))) fun _=>(.join (.bind .rfl fun _=>(.bif (.loop (fun _=>(.bind .rfl fun _=>(.bind .rfl fun _=>(.bif (.need (.need .rfl)) .rfl)))) fun _=> .rfl) .rfl)) fun _=>(.join (.bif (.bind .rfl fun _=>(.join (.bind .rfl fun _=>(.bif .rfl .rfl)) fun _=>(.loop (fun _=>(.bif (.bind .rfl fun _=> .rfl) .rfl)) fun _=>(.join (.bif .rfl .rfl) fun _=> .rfl)))) .rfl) fun _=>(.loop (fun _=>(.bif (.bind .rfl fun _=> .rfl) .rfl)) fun _=>(.loop (fun _=>(.bif .rfl .rfl)) fun _=>(.bif .rfl .rfl))))))))
def SH(n:Nat)(x:Str×Int):Option (zk×Int):=
 za (kH n (x.1,x.2)) fun y1=>
 need (decide (0<=x.2)&&(decide (x.2<=y1.1)&&decide (y1.1<=(x.1.length:Int))))<|
 za (uH n (List.drop x.2.toNat (List.take y1.1.toNat x.1))) fun y2=>
 zW (X:=Int×zk×zk) (
   za (QP (x.1,y1.1)) fun y3=>
   bif y3 then
    za (Fq n (x.1,y1.1)) fun y4=>
    some (LX.out (y4.2,(⟨0,[],0,[],false⟩:zk),(⟨12,[],y2,y4.1,y1.2⟩:zk)))
   else
    za (Zt (x.1,y1.1)) fun y5=>
    bif y5==37 then
     some (LX.out (w64 (y1.1+1),(⟨0,[],0,[],false⟩:zk),(⟨11,[],y2,[],false⟩:zk)))
    else
     some (LX.out (y1.1,(⟨0,[],0,[],false⟩:zk),(⟨10,[],y2,[],y1.2⟩:zk)))) fun j6=>
 some (j6.2.2,j6.1)
theorem P9(n:Nat)(x:Str×Int):Le (SH n x) (aA x):=by unfold SH aA;exact(.bind (zoJ n _) fun _=>(.need (.bind (zmy n _) fun _=>(.join (.bind .rfl fun _=>(.bif (.bind (IB n _) fun _=> .rfl) (.bind .rfl fun _=>(.bif .rfl .rfl)))) fun _=> .rfl))))
def gG(n:Nat)(x:Str×Str):Option Bool:=
 za (bA n x.1) fun y1=>
 za (bA n x.2) fun y2=>
 some (y1==y2)
theorem nZ(n:Nat)(x:Str×Str):Le (gG n x) (Uj x):=by unfold gG Uj;exact(.bind (SN n _) fun _=>(.bind (SN n _) fun _=> .rfl))
def Oz(n:Nat)(x:Str×Int):Option (zk×Int):=
 Pg n (fun(s1:Int)=>
   za (zA (decide (s1<(x.1.length:Int))) (geti x.1 s1) 0) fun y2=>
   bif bif decide (s1<(x.1.length:Int))then(y2.toNat:Int) != 41 else false then
    za (qQ (x.1,s1)) fun y3=>
    bif y3 then
     za (Iq n (x.1,s1)) fun y4=>
     some (LO.again y4.2)
    else
     some (LO.again (w64 (s1+1)))
   else
    some (LO.out s1):Int->Option (LO (Int) (Int) _)) x.2 fun o5=>
 some ((⟨8,[],0,[],false⟩:zk),if w64 (o5+1)<(x.1.length:Int)then w64 (o5+1)else(x.1.length:Int))
theorem EM(n:Nat)(x:Str×Int):Le (Oz n x) (Gt x):=by unfold Oz Gt;exact(.loop (fun _=>(.bind .rfl fun _=>(.bif (.bind .rfl fun _=>(.bif (.bind (IC n _) fun _=> .rfl) .rfl)) .rfl))) fun _=> .rfl)
def tF(n:Nat)(x:Str×Int):Option (zk×Int):=
 za (Kq n (x.1,x.2)) fun y1=>
 Pg n (fun(s2:Int×zk×zk)=>
   za (zA (decide (s2.1<(x.1.length:Int))) (geti x.1 s2.1) 0) fun y3=>
   bif bif decide (s2.1<(x.1.length:Int))then(y3.toNat:Int) != 41 else false then
    za (geti x.1 s2.1) fun y4=>
    za (Tj (y4.toNat:Int)) fun y5=>
    bif y5 then
     za (Kq n (x.1,s2.1)) fun y6=>
     za (zA (decide (y6<(x.1.length:Int))) (geti x.1 y6) 0) fun y7=>
     bif bif decide (y6<(x.1.length:Int))then(y7.toNat:Int) != 41 else false then
      za (Oz n (x.1,y6)) fun y8=>
      some (LO.ret (y8.1,y8.2))
     else
      some (LO.again (y6,s2.2.1,s2.2.2))
    else
     za (zA (!(bif bif (y4.toNat:Int)==34 then true else(y4.toNat:Int)==39 then true else(y4.toNat:Int)==40)) (jH (y4.toNat:Int)) (default:Bool)) fun y9=>
     za (zA ((y4.toNat:Int)==92&& !(bif bif bif (y4.toNat:Int)==34 then true else(y4.toNat:Int)==39 then true else(y4.toNat:Int)==40 then true else y9)) (qQ (x.1,s2.1)) (default:Bool)) fun y10=>
     bif bif bif bif bif (y4.toNat:Int)==34 then true else(y4.toNat:Int)==39 then true else(y4.toNat:Int)==40 then true else y9 then true else bif (y4.toNat:Int)==92 then !y10 else false then
      za (Oz n (x.1,s2.1)) fun y11=>
      some (LO.ret (y11.1,y11.2))
     else
      bif (y4.toNat:Int)==92 then
       za (Iq n (x.1,s2.1)) fun y12=>
       need (Tf s2.2.2.text.length y12.1.length)<|
       some (LO.again (y12.2,s2.2.1,(⟨s2.2.2.kind,s2.2.2.text++y12.1,s2.2.2.num,s2.2.2.unit,s2.2.2.flag⟩:zk)))
      else
       need (decide (0<=s2.1)&&(decide (s2.1<=w64 (s2.1+1))&&decide (w64 (s2.1+1)<=(x.1.length:Int))))<|
       need (Tf s2.2.2.text.length (List.drop s2.1.toNat (List.take (w64 (s2.1+1)).toNat x.1)).length)<|
       some (LO.again (w64 (s2.1+1),s2.2.1,(⟨s2.2.2.kind,s2.2.2.text++List.drop s2.1.toNat (List.take (w64 (s2.1+1)).toNat x.1),s2.2.2.num,s2.2.2.unit,s2.2.2.flag⟩:zk)))
   else
    some (LO.out (s2.1,s2.2.1,s2.2.2)):Int×zk×zk->Option (LO (Int×zk×zk) (Int×zk×zk) _)) (y1,(⟨0,[],0,[],false⟩:zk),(⟨7,[],0,[],false⟩:zk)) fun o13=>
 some (o13.2.2,if w64 (o13.1+1)<(x.1.length:Int)then w64 (o13.1+1)else(x.1.length:Int))
theorem zCb(n:Nat)(x:Str×Int):Le (tF n x) (Fx x):=by unfold tF Fx;exact(.bind (iB n _) fun _=>(.loop (fun _=>(.bind .rfl fun _=>(.bif (.bind .rfl fun _=>(.bind .rfl fun _=>(.bif (.bind (iB n _) fun _=>(.bind .rfl fun _=>(.bif (.bind (EM n _) fun _=> .rfl) .rfl))) (.bind .rfl fun _=>(.bind .rfl fun _=>(.bif (.bind (EM n _) fun _=> .rfl) (.bif (.bind (IC n _) fun _=>(.need .rfl)) (.need (.need .rfl))))))))) .rfl))) fun _=> .rfl))
def UG(n:Nat)(x:Str×Int):Option (zk×Int):=
 za (Fq n (x.1,x.2)) fun y1=>
 za (Zt (x.1,y1.2)) fun y2=>
 bif y2 != 40 then
  some ((⟨1,y1.1,0,[],false⟩:zk),y1.2)
 else
  zW (X:=zk) (
    za (gG n (y1.1,[117,114,108])) fun y3=>
    bif y3 then
     za (Kq n (x.1,w64 (y1.2+1))) fun y4=>
     za (Zt (x.1,y4)) fun y5=>
     bif bif y5 != 34 then y5 != 39 else false then
      za (tF n (x.1,w64 (y1.2+1))) fun y6=>
      some (LX.ret (y6.1,y6.2))
     else
      some (LX.out (⟨0,[],0,[],false⟩:zk))
    else
     some (LX.out (⟨0,[],0,[],false⟩:zk))) fun j7=>
  some ((⟨2,y1.1,0,[],false⟩:zk),w64 (y1.2+1))
theorem yU(n:Nat)(x:Str×Int):Le (UG n x) (Oy x):=by unfold UG Oy;exact(.bind (IB n _) fun _=>(.bind .rfl fun _=>(.bif .rfl (.join (.bind (nZ n _) fun _=>(.bif (.bind (iB n _) fun _=>(.bind .rfl fun _=>(.bif (.bind (zCb n _) fun _=> .rfl) .rfl))) .rfl)) fun _=> .rfl))))
def uF(n:Nat)(x:Str×Int):Option (zk×Int):=
 za (geti x.1 x.2) fun y1=>
 za (Tj (y1.toNat:Int)) fun y2=>
 bif y2 then
  za (Kq n (x.1,x.2)) fun y3=>
  some ((⟨13,[],0,[],false⟩:zk),y3)
 else
  bif bif (y1.toNat:Int)==34 then true else(y1.toNat:Int)==39 then
   za (rG n (x.1,x.2)) fun y4=>
   some (y4.1,y4.2)
  else
   za (zA (decide (w64 (x.2+1)<(x.1.length:Int))&&(y1.toNat:Int)==35) (geti x.1 (w64 (x.2+1))) 0) fun y5=>
   za (zA (decide (w64 (x.2+1)<(x.1.length:Int))&&(y1.toNat:Int)==35) (Nu (y5.toNat:Int)) (default:Bool)) fun y6=>
   za (zA (!(bif decide (w64 (x.2+1)<(x.1.length:Int))then y6 else false)&&(y1.toNat:Int)==35) (qQ (x.1,w64 (x.2+1))) (default:Bool)) fun y7=>
   bif bif (y1.toNat:Int)==35 then bif bif decide (w64 (x.2+1)<(x.1.length:Int))then y6 else false then true else y7 else false then
    za (Fq n (x.1,w64 (x.2+1))) fun y8=>
    za (QP (x.1,w64 (x.2+1))) fun y9=>
    some ((⟨4,y8.1,0,[],y9⟩:zk),y8.2)
   else
    za (sG (x.1,x.2)) fun y10=>
    bif y10 then
     za (SH n (x.1,x.2)) fun y11=>
     some (y11.1,y11.2)
    else
     za (Et (x.1,x.2,[45,45,62])) fun y12=>
     bif y12 then
      some ((⟨15,[],0,[],false⟩:zk),w64 (x.2+3))
     else
      za (Et (x.1,x.2,[60,33,45,45])) fun y13=>
      bif y13 then
       some ((⟨14,[],0,[],false⟩:zk),w64 (x.2+4))
      else
       za (zA ((y1.toNat:Int)==64) (QP (x.1,w64 (x.2+1))) (default:Bool)) fun y14=>
       bif bif (y1.toNat:Int)==64 then y14 else false then
        za (Fq n (x.1,w64 (x.2+1))) fun y15=>
        some ((⟨3,y15.1,0,[],false⟩:zk),y15.2)
       else
        za (QP (x.1,x.2)) fun y16=>
        bif y16 then
         za (UG n (x.1,x.2)) fun y17=>
         some (y17.1,y17.2)
        else
         za (Yt (y1.toNat:Int)) fun y18=>
         bif y18 != 0 then
          za (Yt (y1.toNat:Int)) fun y19=>
          some ((⟨y19,[],0,[],false⟩:zk),w64 (x.2+1))
         else
          need (decide (0<=x.2)&&(decide (x.2<=w64 (x.2+1))&&decide (w64 (x.2+1)<=(x.1.length:Int))))<|
          some ((⟨9,List.drop x.2.toNat (List.take (w64 (x.2+1)).toNat x.1),0,[],false⟩:zk),w64 (x.2+1))
theorem zCa(n:Nat)(x:Str×Int):Le (uF n x) (Gx x):=by unfold uF Gx;exact(.bind .rfl fun _=>(.bind .rfl fun _=>(.bif (.bind (iB n _) fun _=> .rfl) (.bif (.bind (V5 n _) fun _=> .rfl) (.bind .rfl fun _=>(.bind .rfl fun _=>(.bind .rfl fun _=>(.bif (.bind (IB n _) fun _=>(.bind .rfl fun _=> .rfl)) (.bind .rfl fun _=>(.bif (.bind (P9 n _) fun _=> .rfl) (.bind .rfl fun _=>(.bif .rfl (.bind .rfl fun _=>(.bif .rfl (.bind .rfl fun _=>(.bif (.bind (IB n _) fun _=> .rfl) (.bind .rfl fun _=>(.bif (.bind (yU n _) fun _=> .rfl) (.bind .rfl fun _=>(.bif (.bind .rfl fun _=> .rfl) (.need .rfl)))))))))))))))))))))
def fG(n:Nat)(x:Int):Option Bool:=
 za (Qc x) fun y1=>
 za (uF n ([y1,(10:UInt8)],0)) fun y2=>
 some (bif bif bif bif decide (x>=1)then decide (x<=127)else false then x != 12 else false then x != 13 else false then y2.1.kind==9 else false)
theorem mZ(n:Nat)(x:Int):Le (fG n x) (Q5 x):=by unfold fG Q5;exact(.bind .rfl fun _=>(.bind (zCa n _) fun _=> .rfl))
end
end Go.Lv.VT
