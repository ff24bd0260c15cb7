/- Laws for the plain texts: loops that look for something; bytes. -/
import Derived.Test.YtanfjibdgcalfaaGreatDoorLf
import Derived.Test.YtanfjibdgcalfaaGreatDoorTx
set_option linter.unusedSimpArgs false
set_option linter.unusedVariables false
namespace Go.Lv.VT
abbrev big:Nat:=4194304
theorem zY{i n:Nat}(h:i<n):decide ((i:Int)<(n:Int))=true:=Ha (by omega)
theorem zV(n:Nat):decide ((n:Int)<(n:Int))=false:=Oa (by omega)
theorem zK{i n:Nat}(h:i<n)(a:n<=big):w64 ((i:Int)+1)=((i+1:Nat):Int):=by rw[w64,Z6 (by omega) (by grind)];omega
theorem zM{α:Type}(b:Bool)(v d:α):zA b (some v) d=some (bif b then v else d):=by cases b<;>rfl
theorem Z9 {α X R:Type} {step:Int->Option (LO Int X R)} {k:X->Option R} (l:List α) (q:α->Option R) (x:X)
  (hg: ∀(i:Nat) (h:i<l.length),step (i:Int)=some (match q l[i]with|some r=> .ret r|none=> .again ((i+1:Nat):Int)))
  (hf:step (l.length:Int)=some (.out x)):Zc step 0 k=match l.findSome? q with|some r=>some r|none=>k x:=by
 have key: ∀(m:List α) (i:Nat),l.drop i=m->i<=l.length-> ∃n,qz step n (i:Int)=some (match m.findSome? q with|some r=> .ret r|none=> .out x):=by
  intro m
  induction m with
  |nil=>
   intro i hd hi;have:i=l.length:=by have:=Cc.1 hd;omega
   subst this;exact⟨1,by simp only[qz,hf,List.findSome?_nil]⟩
  |cons v m ih=>
   intro i hd hi;have hlt:i<l.length:=by
    rcases Fe i l.length with h|h
    ·exact h
    ·grind
   have hv:l[i]=v:=by have:=Xa hlt;rw[hd]at this;injection this with h1 _;exact h1.symm
   have hs:=hg i hlt;rw[hv]at hs;cases hq:q v with
   |some r=> rw[hq]at hs;exact⟨1,by simp only[qz,hs,List.findSome?_cons,hq]⟩
   |none=> rw[hq]at hs;obtain⟨n,hn⟩:=ih (i+1) (by rw[Xa hlt]at hd;injection hd) (by omega);refine⟨n+1,?_⟩;simp only[qz,hs,List.findSome?_cons,hq];exact hn
 obtain⟨n,hn⟩:=key l 0 rfl (by omega);replace hn:qz step n 0=_:=hn;rw[Wh (Jh hn)];cases l.findSome? q<;>rfl
theorem Pg{α R:Type}(p:α->Bool)(r:R): ∀(l:List α),l.findSome? (fun v=>bif p v then none else some r)=bif l.all p then none else some r
 |[]=>rfl
 |v::l=>by
  rw[List.findSome?_cons,List.all_cons];cases p v with
  |false=>rfl
  |true=>exact Pg p r l
theorem JL{α R:Type}(p:α->Bool)(r:R): ∀(l:List α),l.findSome? (fun v=>bif p v then some r else none)=bif l.any p then some r else none
 |[]=>rfl
 |v::l=>by
  rw[List.findSome?_cons,Xe];cases p v with
  |true=>rfl
  |false=>exact JL p r l
def idxS{α:Type}(p:α->Bool):List α->Int
 |[]=> -1
 |v::l=>bif p v then 0 else bif decide (idxS p l<0)then -1 else idxS p l+1
theorem Ki{α:Type}(p:α->Bool): ∀(l:List α),decide (idxS p l>=0)=l.any p
 |[]=>rfl
 |v::l=>by
  have a:=Ki p l;rw[Xe,idxS]
  grind
theorem IU{α:Type}(p:α->Bool): ∀(l:List α), -1<=idxS p l/\idxS p l<l.length
 |[]=>by simp[idxS]
 |v::l=>by
  have:=IU p l;rw[idxS,Pb]
  grind
theorem Kj {α:Type} {step:Int->Option (LO Int Unit Int)} (l:List α) (p:α->Bool) (hn:l.length<=big)
  (hg: ∀(i:Nat) (h:i<l.length),step (i:Int)=bif p l[i]then some (.ret (i:Int))else some (.again (w64 ((i:Int)+1))))
  (hf:step (l.length:Int)=some (.out ())):Zc step 0 (fun _=>some (-1))=some (idxS p l):=by
 have key: ∀(m:List α) (i:Nat),l.drop i=m->i<=l.length-> ∃n,qz step n (i:Int)=some (bif decide (idxS p m<0)then .out ()else .ret ((i:Int)+idxS p m)):=by
  intro m
  induction m with
  |nil=>
   intro i hd hi;have:i=l.length:=by have:=Cc.1 hd;omega
   subst this;exact⟨1,by simp only[qz,hf];rfl⟩
  |cons v m ih=>
   intro i hd hi;have hlt:i<l.length:=by
    rcases Fe i l.length with h|h
    ·exact h
    ·grind
   have hv:l[i]=v:=by have:=Xa hlt;rw[hd]at this;injection this with h1 _;exact h1.symm
   have hs:=hg i hlt;rw[hv]at hs;cases hq:p v with
   |true=> rw[hq]at hs;refine⟨1,?_⟩;simp only[qz,hs,Da,idxS,hq];simp
   |false=>
    rw[hq,Ca,zK hlt hn]at hs;obtain⟨n,hn'⟩:=ih (i+1) (by rw[Xa hlt]at hd;injection hd) (by omega);refine⟨n+1,?_⟩;simp only[qz,hs,idxS,hq,Ca]
    grind
 obtain⟨n,hn'⟩:=key l 0 rfl (by omega);replace hn':qz step n 0=_:=hn';rw[Wh (Jh hn')];have hb:=IU p l;by_cases h0:idxS p l<0
 ·rw[Ha h0];show some (-1)=_;congr 1;omega
 ·rw[Oa h0];simp_all
noncomputable section
set_option maxRecDepth 100000
def iA(n:Nat)(x:Str):Option Str:=
 need (decide (x.length<=maxLen))<|
 Vg n (fun(s1:Int×List UInt8)=>
   bif decide (s1.1<(s1.2.length:Int))then
    need (decide (0<=s1.1)&&decide (s1.1<(s1.2.length:Int)))<|
    za s1.2[s1.1.toNat]? fun y2=>
    za (Sm (y2.toNat:Int)) fun y3=>
    need (decide (0<=s1.1)&&decide (s1.1<(s1.2.length:Int)))<|
    za s1.2[s1.1.toNat]? fun y4=>
    za (qE y3) fun y5=>
    some (LO.again (w64 (s1.1+1),List.set s1.2 s1.1.toNat y5))
   else
    some (LO.out s1.2):Int×List UInt8->Option (LO (Int×List UInt8) (List UInt8) _)) (0,x) fun o6=>
 some o6
theorem wO(n:Nat)(x:Str):Le (iA n x) (QK x):=by unfold iA QK;exact(.need (.loop (fun _=>(.bif (.need (.bind .rfl fun _=>(.bind .rfl fun _=>(.need (.bind .rfl fun _=>(.bind .rfl fun _=> .rfl)))))) .rfl)) fun _=> .rfl))
def Yq(n:Nat)(x:Str×Int):Option Int:=
 Vg n (fun(s1:Int)=>
   za (Zw (x.1,s1)) fun y2=>
   za (aj y2) fun y3=>
   bif y3 then
    some (LO.again (w64 (s1+1)))
   else
    some (LO.out s1):Int->Option (LO (Int) (Int) _)) x.2 fun o4=>
 some o4
theorem KC(n:Nat)(x:Str×Int):Le (Yq n x) (Vm x):=by unfold Yq Vm;exact(.loop (fun _=>(.bind .rfl fun _=>(.bind .rfl fun _=>(.bif .rfl .rfl)))) fun _=> .rfl)
def oq(n:Nat)(x:Str×Int):Option (Str×Int):=
 bif decide (w64 (x.2+1)>=(x.1.length:Int))then
  za (Xy ()) fun y1=>
  some (y1,w64 (x.2+1))
 else
  za (geti x.1 (w64 (x.2+1))) fun y2=>
  za (Im (y2.toNat:Int)) fun y3=>
  bif decide (y3<0)then
   need (decide (0<=w64 (x.2+1))&&(decide (w64 (x.2+1)<=w64 (w64 (x.2+1)+1))&&decide (w64 (w64 (x.2+1)+1)<=(x.1.length:Int))))<|
   some (List.drop (w64 (x.2+1)).toNat (List.take (w64 (w64 (x.2+1)+1)).toNat x.1),w64 (w64 (x.2+1)+1))
  else
   Vg n (fun(s4:Int×Int)=>
     za (zA (bif decide (s4.2<(x.1.length:Int))then decide (s4.2<w64 (w64 (x.2+1)+6))else false) (geti x.1 s4.2) 0) fun y5=>
     za (zA (bif decide (s4.2<(x.1.length:Int))then decide (s4.2<w64 (w64 (x.2+1)+6))else false) (Im (y5.toNat:Int)) (default:Int)) fun y6=>
     bif bif bif decide (s4.2<(x.1.length:Int))then decide (s4.2<w64 (w64 (x.2+1)+6))else false then decide (y6>=0)else false then
      za (geti x.1 s4.2) fun y7=>
      za (Im (y7.toNat:Int)) fun y8=>
      some (LO.again (w64 (w64 (16*s4.1)+y8),w64 (s4.2+1)))
     else
      some (LO.out (s4.1,s4.2)):Int×Int->Option (LO (Int×Int) (Int×Int) _)) (0,w64 (x.2+1)) fun o9=>
   zO (X:=Int) (
     za (Zw (x.1,o9.2)) fun y10=>
     za (aj y10) fun y11=>
     bif y11 then
      some (LX.out (w64 (o9.2+1)))
     else
      some (LX.out o9.2)) fun j12=>
   za (CG o9.1) fun y13=>
   some (y13,j12)
theorem XC(n:Nat)(x:Str×Int):Le (oq n x) (Ym x):=by unfold oq Ym;exact(.bif (.bind .rfl fun _=> .rfl) (.bind .rfl fun _=>(.bind .rfl fun _=>(.bif (.need .rfl) (.loop (fun _=>(.bind .rfl fun _=>(.bind .rfl fun _=>(.bif (.bind .rfl fun _=>(.bind .rfl fun _=> .rfl)) .rfl)))) fun _=>(.join (.bind .rfl fun _=>(.bind .rfl fun _=>(.bif .rfl .rfl))) fun _=>(.bind .rfl fun _=> .rfl)))))))
def VH(n:Nat)(x:Str×Int):Option (zk×Int):=
 za (geti x.1 x.2) fun y1=>
 Vg n (fun(s2:Int×zk×zk)=>
   bif decide (s2.1<(x.1.length:Int))then
    za (geti x.1 s2.1) fun y3=>
    bif (y3.toNat:Int)==(y1.toNat:Int)then
     some (LO.ret (s2.2.2,w64 (s2.1+1)))
    else
     za (geti x.1 s2.1) fun y4=>
     bif (y4.toNat:Int)==10 then
      some (LO.ret ((⟨6,[],0,[],false⟩:zk),s2.1))
     else
      za (geti x.1 s2.1) fun y5=>
      bif bif (y5.toNat:Int)==92 then w64 (s2.1+1)==(x.1.length:Int)else false then
       some (LO.again (w64 (s2.1+1),s2.2.1,s2.2.2))
      else
       za (geti x.1 s2.1) fun y6=>
       za (zA ((y6.toNat:Int)==92) (geti x.1 (w64 (s2.1+1))) 0) fun y7=>
       bif bif (y6.toNat:Int)==92 then(y7.toNat:Int)==10 else false then
        some (LO.again (w64 (s2.1+2),s2.2.1,s2.2.2))
       else
        za (geti x.1 s2.1) fun y8=>
        bif (y8.toNat:Int)==92 then
         za (oq n (x.1,s2.1)) fun y9=>
         need (QV s2.2.2.text.length y9.1.length)<|
         some (LO.again (y9.2,s2.2.1,(⟨s2.2.2.kind,s2.2.2.text++y9.1,s2.2.2.num,s2.2.2.unit,s2.2.2.flag⟩:zk)))
        else
         need (decide (0<=s2.1)&&(decide (s2.1<=w64 (s2.1+1))&&decide (w64 (s2.1+1)<=(x.1.length:Int))))<|
         need (QV s2.2.2.text.length (List.drop s2.1.toNat (List.take (w64 (s2.1+1)).toNat x.1)).length)<|
         some (LO.again (w64 (s2.1+1),s2.2.1,(⟨s2.2.2.kind,s2.2.2.text++List.drop s2.1.toNat (List.take (w64 (s2.1+1)).toNat x.1),s2.2.2.num,s2.2.2.unit,s2.2.2.flag⟩:zk)))
   else
    some (LO.out (s2.1,s2.2.1,s2.2.2)):Int×zk×zk->Option (LO (Int×zk×zk) (Int×zk×zk) _)) (w64 (x.2+1),(⟨0,[],0,[],false⟩:zk),(⟨5,[],0,[],false⟩:zk)) fun o10=>
 some (o10.2.2,o10.1)
theorem V8(n:Nat)(x:Str×Int):Le (VH n x) (RA x):=by unfold VH RA;exact(.bind .rfl fun _=>(.loop (fun _=>(.bif (.bind .rfl fun _=>(.bif .rfl (.bind .rfl fun _=>(.bif .rfl (.bind .rfl fun _=>(.bif .rfl (.bind .rfl fun _=>(.bind .rfl fun _=>(.bif .rfl (.bind .rfl fun _=>(.bif (.bind (XC n _) fun _=>(.need .rfl)) (.need (.need .rfl))))))))))))) .rfl)) fun _=> .rfl))
def gq(n:Nat)(x:Str×Int):Option (Str×Int):=
 Vg n (fun(s1:Int×Str)=>
   za (zA (decide (s1.1<(x.1.length:Int))) (geti x.1 s1.1) 0) fun y2=>
   za (zA (decide (s1.1<(x.1.length:Int))) (bu (y2.toNat:Int)) (default:Bool)) fun y3=>
   bif bif decide (s1.1<(x.1.length:Int))then y3 else false then
    need (decide (0<=s1.1)&&(decide (s1.1<=w64 (s1.1+1))&&decide (w64 (s1.1+1)<=(x.1.length:Int))))<|
    need (QV s1.2.length (List.drop s1.1.toNat (List.take (w64 (s1.1+1)).toNat x.1)).length)<|
    some (LO.again (w64 (s1.1+1),s1.2++List.drop s1.1.toNat (List.take (w64 (s1.1+1)).toNat x.1)))
   else
    za (zA (decide (s1.1<(x.1.length:Int))) (Qe (x.1,s1.1)) (default:Bool)) fun y4=>
    bif bif decide (s1.1<(x.1.length:Int))then y4 else false then
     za (oq n (x.1,s1.1)) fun y5=>
     need (QV s1.2.length y5.1.length)<|
     some (LO.again (y5.2,s1.2++y5.1))
    else
     some (LO.ret (s1.2,s1.1)):Int×Str->Option (LO (Int×Str) (Unit) _)) (x.2,[]) fun o6=>
 none
theorem SB(n:Nat)(x:Str×Int):Le (gq n x) (Rm x):=by unfold gq Rm;exact(.loop (fun _=>(.bind .rfl fun _=>(.bind .rfl fun _=>(.bif (.need (.need .rfl)) (.bind .rfl fun _=>(.bif (.bind (XC n _) fun _=>(.need .rfl)) .rfl)))))) fun _=> .none)
def yu(n:Nat)(x:Str×Int):Option Int:=
 Vg n (fun(s1:Int)=>
   za (Zw (x.1,s1)) fun y2=>
   za (ZT y2) fun y3=>
   bif y3 then
    some (LO.again (w64 (s1+1)))
   else
    some (LO.out s1):Int->Option (LO (Int) (Int) _)) x.2 fun o4=>
 some o4
theorem wH(n:Nat)(x:Str×Int):Le (yu n x) (Uq x):=by unfold yu Uq;exact(.loop (fun _=>(.bind .rfl fun _=>(.bind .rfl fun _=>(.bif .rfl .rfl)))) fun _=> .rfl)
def MI(n:Nat)(x:Str×Int):Option (Int×Bool):=
 zO (X:=Int) (
   za (Zw (x.1,x.2)) fun y1=>
   bif bif y1==43 then true else y1==45 then
    some (LX.out (w64 (x.2+1)))
   else
    some (LX.out x.2)) fun j2=>
 za (yu n (x.1,j2)) fun y3=>
 zO (X:=Int×Bool) (
   za (Zw (x.1,y3)) fun y4=>
   za (zA (y4==46) (Zw (x.1,w64 (y3+1))) (default:Int)) fun y5=>
   za (zA (y4==46) (ZT y5) (default:Bool)) fun y6=>
   bif bif y4==46 then y6 else false then
    za (yu n (x.1,w64 (y3+1))) fun y7=>
    some (LX.out (y7,false))
   else
    some (LX.out (y3,true))) fun j8=>
 zO (X:=Int×Bool) (
   za (Zw (x.1,j8.1)) fun y9=>
   bif bif y9==101 then true else y9==69 then
    zO (X:=Int×Bool×Int) (
      za (Zw (x.1,w64 (j8.1+1))) fun y10=>
      bif bif y10==43 then true else y10==45 then
       some (LX.out (j8.1,j8.2,w64 (w64 (j8.1+1)+1)))
      else
       some (LX.out (j8.1,j8.2,w64 (j8.1+1)))) fun j11=>
    za (Zw (x.1,j11.2.2)) fun y12=>
    za (ZT y12) fun y13=>
    bif y13 then
     za (yu n (x.1,j11.2.2)) fun y14=>
     some (LX.out (y14,false))
    else
     some (LX.out (j11.1,j11.2.1))
   else
    some (LX.out (j8.1,j8.2))) fun j15=>
 some (j15.1,j15.2)
theorem zpR(n:Nat)(x:Str×Int):Le (MI n x) (FC x):=by unfold MI FC;exact(.join (.bind .rfl fun _=>(.bif .rfl .rfl)) fun _=>(.bind (wH n _) fun _=>(.join (.bind .rfl fun _=>(.bind .rfl fun _=>(.bind .rfl fun _=>(.bif (.bind (wH n _) fun _=> .rfl) .rfl)))) fun _=>(.join (.bind .rfl fun _=>(.bif (.join (.bind .rfl fun _=>(.bif .rfl .rfl)) fun _=>(.bind .rfl fun _=>(.bind .rfl fun _=>(.bif (.bind (wH n _) fun _=> .rfl) .rfl)))) .rfl)) fun _=> .rfl))))
def fI(n:Nat)(x:Str):Option Int:=
 za (geti x 0) fun y1=>
 zO (X:=Str×Int×Int) (
   za (geti x 0) fun y2=>
   bif bif (y2.toNat:Int)==43 then true else(y1.toNat:Int)==45 then
    some (LX.out ([],3,1))
   else
    some (LX.out ([],3,0))) fun j3=>
 Vg n (fun(s4:Str×Int)=>
   za (Zw (x,s4.2)) fun y5=>
   za (ZT y5) fun y6=>
   bif y6 then
    need (decide (0<=s4.2)&&(decide (s4.2<=w64 (s4.2+1))&&decide (w64 (s4.2+1)<=(x.length:Int))))<|
    need (QV s4.1.length (List.drop s4.2.toNat (List.take (w64 (s4.2+1)).toNat x)).length)<|
    some (LO.again (s4.1++List.drop s4.2.toNat (List.take (w64 (s4.2+1)).toNat x),w64 (s4.2+1)))
   else
    some (LO.out (s4.1,s4.2)):Str×Int->Option (LO (Str×Int) (Str×Int) _)) (j3.1,j3.2.2) fun o7=>
 zO (X:=Str×Int×Int) (
   za (Zw (x,o7.2)) fun y8=>
   bif y8==46 then
    Vg n (fun(s9:Str×Int×Int)=>
      za (Zw (x,s9.2.2)) fun y10=>
      za (ZT y10) fun y11=>
      bif y11 then
       need (decide (0<=s9.2.2)&&(decide (s9.2.2<=w64 (s9.2.2+1))&&decide (w64 (s9.2.2+1)<=(x.length:Int))))<|
       need (QV s9.1.length (List.drop s9.2.2.toNat (List.take (w64 (s9.2.2+1)).toNat x)).length)<|
       some (LO.again (s9.1++List.drop s9.2.2.toNat (List.take (w64 (s9.2.2+1)).toNat x),w64 (s9.2.1 - 1),w64 (s9.2.2+1)))
      else
       some (LO.out (s9.1,s9.2.1,s9.2.2)):Str×Int×Int->Option (LO (Str×Int×Int) (Str×Int×Int) _)) (o7.1,j3.2.1,w64 (o7.2+1)) fun o12=>
    some (LX.out (o12.1,o12.2.1,o12.2.2))
   else
    some (LX.out (o7.1,j3.2.1,o7.2))) fun j13=>
 zO (X:=Int) (
   bif decide (j13.2.2<(x.length:Int))then
    za (geti x (w64 (j13.2.2+1))) fun y14=>
    zO (X:=Int×Int) (
      za (geti x (w64 (j13.2.2+1))) fun y15=>
      bif bif (y15.toNat:Int)==43 then true else(y14.toNat:Int)==45 then
       some (LX.out (j13.2.1,w64 (w64 (j13.2.2+1)+1)))
      else
       some (LX.out (j13.2.1,w64 (j13.2.2+1)))) fun j16=>
    Vg n (fun(s17:Int×Int)=>
      bif decide (s17.1<(x.length:Int))then
       za (geti x s17.1) fun y18=>
       some (LO.again (w64 (s17.1+1),if w64 (w64 (10*s17.2)+w64 (wu8 ((y18.toNat:Int) - 48)))<10000 then w64 (w64 (10*s17.2)+w64 (wu8 ((y18.toNat:Int) - 48)))else 10000))
      else
       some (LO.out s17.2):Int×Int->Option (LO (Int×Int) (Int) _)) (j16.2,0) fun o19=>
    zO (X:=Int×Int) (
      bif (y14.toNat:Int)==45 then
       some (LX.out (j16.1,w64 (0 - o19)))
      else
       some (LX.out (j16.1,o19))) fun j20=>
    some (LX.out (w64 (j20.1+j20.2)))
   else
    some (LX.out j13.2.1)) fun j21=>
 Vg n (fun(s22:Int×Int)=>
   bif bif decide (s22.2<w64 ((j13.1.length:Int)+j21))then decide (s22.2<(j13.1.length:Int))else false then
    za (geti j13.1 s22.2) fun y23=>
    some (LO.again (if w64 (w64 (10*s22.1)+w64 (wu8 ((y23.toNat:Int) - 48)))<1000000000000 then w64 (w64 (10*s22.1)+w64 (wu8 ((y23.toNat:Int) - 48)))else 1000000000000,w64 (s22.2+1)))
   else
    some (LO.out s22.1):Int×Int->Option (LO (Int×Int) (Int) _)) (0,0) fun o24=>
 Vg n (fun(s25:Int×Int)=>
   bif bif bif decide (s25.1>0)then decide (s25.2>0)else false then decide (s25.2<1000000000000)else false then
    some (LO.again (w64 (s25.1 - 1),if w64 (10*s25.2)<1000000000000 then w64 (10*s25.2)else 1000000000000))
   else
    some (LO.out s25.2):Int×Int->Option (LO (Int×Int) (Int) _)) (j21,o24) fun o26=>
 bif (y1.toNat:Int)==45 then
  some (w64 (0 - o26))
 else
  some o26
theorem znB(n:Nat)(x:Str):Le (fI n x) (oC x):=by unfold fI oC;exact(.bind .rfl fun _=>(.join (.bind .rfl fun _=>(.bif .rfl .rfl)) fun _=>(.loop (fun _=>(.bind .rfl fun _=>(.bind .rfl fun _=>(.bif (.need (.need .rfl)) .rfl)))) fun _=>(.join (.bind .rfl fun _=>(.bif (.loop (fun _=>(.bind .rfl fun _=>(.bind .rfl fun _=>(.bif (.need (.need .rfl)) .rfl)))) fun _=> .rfl) .rfl)) fun _=>(.join (.bif (.bind .rfl fun _=>(.join (.bind .rfl fun _=>(.bif .rfl .rfl)) fun _=>(.loop (fun _=>(.bif (.bind .rfl fun _=> .rfl) .rfl)) fun _=>(.join (.bif .rfl .rfl) fun _=> .rfl)))) .rfl) fun _=>(.loop (fun _=>(.bif (.bind .rfl fun _=> .rfl) .rfl)) fun _=>(.loop (fun _=>(.bif .rfl .rfl)) fun _=>(.bif .rfl .rfl))))))))
def nH(n:Nat)(x:Str×Int):Option (zk×Int):=
 za (MI n (x.1,x.2)) fun y1=>
 need (decide (0<=x.2)&&(decide (x.2<=y1.1)&&decide (y1.1<=(x.1.length:Int))))<|
 za (fI n (List.drop x.2.toNat (List.take y1.1.toNat x.1))) fun y2=>
 zO (X:=Int×zk×zk) (
   za (Q5 (x.1,y1.1)) fun y3=>
   bif y3 then
    za (gq n (x.1,y1.1)) fun y4=>
    some (LX.out (y4.2,(⟨0,[],0,[],false⟩:zk),(⟨12,[],y2,y4.1,y1.2⟩:zk)))
   else
    za (Zw (x.1,y1.1)) fun y5=>
    bif y5==37 then
     some (LX.out (w64 (y1.1+1),(⟨0,[],0,[],false⟩:zk),(⟨11,[],y2,[],false⟩:zk)))
    else
     some (LX.out (y1.1,(⟨0,[],0,[],false⟩:zk),(⟨10,[],y2,[],y1.2⟩:zk)))) fun j6=>
 some (j6.2.2,j6.1)
theorem zsW(n:Nat)(x:Str×Int):Le (nH n x) (fA x):=by unfold nH fA;exact(.bind (zpR n _) fun _=>(.need (.bind (znB n _) fun _=>(.join (.bind .rfl fun _=>(.bif (.bind (SB n _) fun _=> .rfl) (.bind .rfl fun _=>(.bif .rfl .rfl)))) fun _=> .rfl))))
def OH(n:Nat)(x:Str×Str):Option Bool:=
 za (iA n x.1) fun y1=>
 za (iA n x.2) fun y2=>
 some (y1==y2)
theorem xY(n:Nat)(x:Str×Str):Le (OH n x) (sj x):=by unfold OH sj;exact(.bind (wO n _) fun _=>(.bind (wO n _) fun _=> .rfl))
def Uz(n:Nat)(x:Str×Int):Option (zk×Int):=
 Vg n (fun(s1:Int)=>
   za (zA (decide (s1<(x.1.length:Int))) (geti x.1 s1) 0) fun y2=>
   bif bif decide (s1<(x.1.length:Int))then(y2.toNat:Int) != 41 else false then
    za (Qe (x.1,s1)) fun y3=>
    bif y3 then
     za (oq n (x.1,s1)) fun y4=>
     some (LO.again y4.2)
    else
     some (LO.again (w64 (s1+1)))
   else
    some (LO.out s1):Int->Option (LO (Int) (Int) _)) x.2 fun o5=>
 some ((⟨8,[],0,[],false⟩:zk),if w64 (o5+1)<(x.1.length:Int)then w64 (o5+1)else(x.1.length:Int))
theorem NN(n:Nat)(x:Str×Int):Le (Uz n x) (Mt x):=by unfold Uz Mt;exact(.loop (fun _=>(.bind .rfl fun _=>(.bif (.bind .rfl fun _=>(.bif (.bind (XC n _) fun _=> .rfl) .rfl)) .rfl))) fun _=> .rfl)
def KG(n:Nat)(x:Str×Int):Option (zk×Int):=
 za (Yq n (x.1,x.2)) fun y1=>
 Vg n (fun(s2:Int×zk×zk)=>
   za (zA (decide (s2.1<(x.1.length:Int))) (geti x.1 s2.1) 0) fun y3=>
   bif bif decide (s2.1<(x.1.length:Int))then(y3.toNat:Int) != 41 else false then
    za (geti x.1 s2.1) fun y4=>
    za (aj (y4.toNat:Int)) fun y5=>
    bif y5 then
     za (Yq n (x.1,s2.1)) fun y6=>
     za (zA (decide (y6<(x.1.length:Int))) (geti x.1 y6) 0) fun y7=>
     bif bif decide (y6<(x.1.length:Int))then(y7.toNat:Int) != 41 else false then
      za (Uz n (x.1,y6)) fun y8=>
      some (LO.ret (y8.1,y8.2))
     else
      some (LO.again (y6,s2.2.1,s2.2.2))
    else
     za (zA (!(bif bif (y4.toNat:Int)==34 then true else(y4.toNat:Int)==39 then true else(y4.toNat:Int)==40)) (KI (y4.toNat:Int)) (default:Bool)) fun y9=>
     za (zA ((y4.toNat:Int)==92&& !(bif bif bif (y4.toNat:Int)==34 then true else(y4.toNat:Int)==39 then true else(y4.toNat:Int)==40 then true else y9)) (Qe (x.1,s2.1)) (default:Bool)) fun y10=>
     bif bif bif bif bif (y4.toNat:Int)==34 then true else(y4.toNat:Int)==39 then true else(y4.toNat:Int)==40 then true else y9 then true else bif (y4.toNat:Int)==92 then !y10 else false then
      za (Uz n (x.1,s2.1)) fun y11=>
      some (LO.ret (y11.1,y11.2))
     else
      bif (y4.toNat:Int)==92 then
       za (oq n (x.1,s2.1)) fun y12=>
       need (QV s2.2.2.text.length y12.1.length)<|
       some (LO.again (y12.2,s2.2.1,(⟨s2.2.2.kind,s2.2.2.text++y12.1,s2.2.2.num,s2.2.2.unit,s2.2.2.flag⟩:zk)))
      else
       need (decide (0<=s2.1)&&(decide (s2.1<=w64 (s2.1+1))&&decide (w64 (s2.1+1)<=(x.1.length:Int))))<|
       need (QV s2.2.2.text.length (List.drop s2.1.toNat (List.take (w64 (s2.1+1)).toNat x.1)).length)<|
       some (LO.again (w64 (s2.1+1),s2.2.1,(⟨s2.2.2.kind,s2.2.2.text++List.drop s2.1.toNat (List.take (w64 (s2.1+1)).toNat x.1),s2.2.2.num,s2.2.2.unit,s2.2.2.flag⟩:zk)))
   else
    some (LO.out (s2.1,s2.2.1,s2.2.2)):Int×zk×zk->Option (LO (Int×zk×zk) (Int×zk×zk) _)) (y1,(⟨0,[],0,[],false⟩:zk),(⟨7,[],0,[],false⟩:zk)) fun o13=>
 some (o13.2.2,if w64 (o13.1+1)<(x.1.length:Int)then w64 (o13.1+1)else(x.1.length:Int))
theorem zDr(n:Nat)(x:Str×Int):Le (KG n x) (Wx x):=by unfold KG Wx;exact(.bind (KC n _) fun _=>(.loop (fun _=>(.bind .rfl fun _=>(.bif (.bind .rfl fun _=>(.bind .rfl fun _=>(.bif (.bind (KC n _) fun _=>(.bind .rfl fun _=>(.bif (.bind (NN n _) fun _=> .rfl) .rfl))) (.bind .rfl fun _=>(.bind .rfl fun _=>(.bif (.bind (NN n _) fun _=> .rfl) (.bif (.bind (XC n _) fun _=>(.need .rfl)) (.need (.need .rfl))))))))) .rfl))) fun _=> .rfl))
def lG(n:Nat)(x:Str×Int):Option (zk×Int):=
 za (gq n (x.1,x.2)) fun y1=>
 za (Zw (x.1,y1.2)) fun y2=>
 bif y2 != 40 then
  some ((⟨1,y1.1,0,[],false⟩:zk),y1.2)
 else
  zO (X:=zk) (
    za (OH n (y1.1,[117,114,108])) fun y3=>
    bif y3 then
     za (Yq n (x.1,w64 (y1.2+1))) fun y4=>
     za (Zw (x.1,y4)) fun y5=>
     bif bif y5 != 34 then y5 != 39 else false then
      za (KG n (x.1,w64 (y1.2+1))) fun y6=>
      some (LX.ret (y6.1,y6.2))
     else
      some (LX.out (⟨0,[],0,[],false⟩:zk))
    else
     some (LX.out (⟨0,[],0,[],false⟩:zk))) fun j7=>
  some ((⟨2,y1.1,0,[],false⟩:zk),w64 (y1.2+1))
theorem zAO(n:Nat)(x:Str×Int):Le (lG n x) (Wy x):=by unfold lG Wy;exact(.bind (SB n _) fun _=>(.bind .rfl fun _=>(.bif .rfl (.join (.bind (xY n _) fun _=>(.bif (.bind (KC n _) fun _=>(.bind .rfl fun _=>(.bif (.bind (zDr n _) fun _=> .rfl) .rfl))) .rfl)) fun _=> .rfl))))
def LG(n:Nat)(x:Str×Int):Option (zk×Int):=
 za (geti x.1 x.2) fun y1=>
 za (aj (y1.toNat:Int)) fun y2=>
 bif y2 then
  za (Yq n (x.1,x.2)) fun y3=>
  some ((⟨13,[],0,[],false⟩:zk),y3)
 else
  bif bif (y1.toNat:Int)==34 then true else(y1.toNat:Int)==39 then
   za (VH n (x.1,x.2)) fun y4=>
   some (y4.1,y4.2)
  else
   za (zA (decide (w64 (x.2+1)<(x.1.length:Int))&&(y1.toNat:Int)==35) (geti x.1 (w64 (x.2+1))) 0) fun y5=>
   za (zA (decide (w64 (x.2+1)<(x.1.length:Int))&&(y1.toNat:Int)==35) (bu (y5.toNat:Int)) (default:Bool)) fun y6=>
   za (zA (!(bif decide (w64 (x.2+1)<(x.1.length:Int))then y6 else false)&&(y1.toNat:Int)==35) (Qe (x.1,w64 (x.2+1))) (default:Bool)) fun y7=>
   bif bif (y1.toNat:Int)==35 then bif bif decide (w64 (x.2+1)<(x.1.length:Int))then y6 else false then true else y7 else false then
    za (gq n (x.1,w64 (x.2+1))) fun y8=>
    za (Q5 (x.1,w64 (x.2+1))) fun y9=>
    some ((⟨4,y8.1,0,[],y9⟩:zk),y8.2)
   else
    za (WH (x.1,x.2)) fun y10=>
    bif y10 then
     za (nH n (x.1,x.2)) fun y11=>
     some (y11.1,y11.2)
    else
     za (Lt (x.1,x.2,[45,45,62])) fun y12=>
     bif y12 then
      some ((⟨15,[],0,[],false⟩:zk),w64 (x.2+3))
     else
      za (Lt (x.1,x.2,[60,33,45,45])) fun y13=>
      bif y13 then
       some ((⟨14,[],0,[],false⟩:zk),w64 (x.2+4))
      else
       za (zA ((y1.toNat:Int)==64) (Q5 (x.1,w64 (x.2+1))) (default:Bool)) fun y14=>
       bif bif (y1.toNat:Int)==64 then y14 else false then
        za (gq n (x.1,w64 (x.2+1))) fun y15=>
        some ((⟨3,y15.1,0,[],false⟩:zk),y15.2)
       else
        za (Q5 (x.1,x.2)) fun y16=>
        bif y16 then
         za (lG n (x.1,x.2)) fun y17=>
         some (y17.1,y17.2)
        else
         za (Cu (y1.toNat:Int)) fun y18=>
         bif y18 != 0 then
          za (Cu (y1.toNat:Int)) fun y19=>
          some ((⟨y19,[],0,[],false⟩:zk),w64 (x.2+1))
         else
          need (decide (0<=x.2)&&(decide (x.2<=w64 (x.2+1))&&decide (w64 (x.2+1)<=(x.1.length:Int))))<|
          some ((⟨9,List.drop x.2.toNat (List.take (w64 (x.2+1)).toNat x.1),0,[],false⟩:zk),w64 (x.2+1))
theorem zDq(n:Nat)(x:Str×Int):Le (LG n x) (Xx x):=by unfold LG Xx;exact(.bind .rfl fun _=>(.bind .rfl fun _=>(.bif (.bind (KC n _) fun _=> .rfl) (.bif (.bind (V8 n _) fun _=> .rfl) (.bind .rfl fun _=>(.bind .rfl fun _=>(.bind .rfl fun _=>(.bif (.bind (SB n _) fun _=>(.bind .rfl fun _=> .rfl)) (.bind .rfl fun _=>(.bif (.bind (zsW n _) fun _=> .rfl) (.bind .rfl fun _=>(.bif .rfl (.bind .rfl fun _=>(.bif .rfl (.bind .rfl fun _=>(.bif (.bind (SB n _) fun _=> .rfl) (.bind .rfl fun _=>(.bif (.bind (zAO n _) fun _=> .rfl) (.bind .rfl fun _=>(.bif (.bind .rfl fun _=> .rfl) (.need .rfl)))))))))))))))))))))
def NH(n:Nat)(x:Int):Option Bool:=
 za (qE x) fun y1=>
 za (LG n ([y1,(10:UInt8)],0)) fun y2=>
 some (bif bif bif bif decide (x>=1)then decide (x<=127)else false then x != 12 else false then x != 13 else false then y2.1.kind==9 else false)
theorem wY(n:Nat)(x:Int):Le (NH n x) (Ui x):=by unfold NH Ui;exact(.bind .rfl fun _=>(.bind (zDq n _) fun _=> .rfl))
end
end Go.Lv.VT
