/- Laws for the plain texts: loops that look for something; bytes. -/
import Derived.Test.YtcdeccnjlkkejaaGreatDoorLf
import Derived.Test.YtcdeccnjlkkejaaGreatDoorTx
set_option linter.unusedSimpArgs false
set_option linter.unusedVariables false
namespace Go.Lv.VT
abbrev big:Nat:=4194304
theorem ZJ{i n:Nat}(h:i<n):decide ((i:Int)<(n:Int))=true:=Ia (by omega)
theorem Z6(n:Nat):decide ((n:Int)<(n:Int))=false:=Sa (by omega)
theorem Zb{i n:Nat}(h:i<n)(hn:n<=big):w64 ((i:Int)+1)=((i+1:Nat):Int):=by rw[w64,ZV (by omega) (by unfold big at hn;omega)];omega
theorem ZW{α:Type}(b:Bool)(v d:α):zo b (some v) d=some (bif b then v else d):=by cases b<;>rfl
theorem Ny {α X R:Type} {step:Int->Option (LO Int X R)} {k:X->Option R} (l:List α) (q:α->Option R) (x:X)
  (hg: ∀(i:Nat) (h:i<l.length),step (i:Int)=some (match q l[i]with|some r=> .ret r|none=> .again ((i+1:Nat):Int)))
  (hf:step (l.length:Int)=some (.out x)):zY step 0 k=match l.findSome? q with|some r=>some r|none=>k x:=by
 have key: ∀(m:List α) (i:Nat),l.drop i=m->i<=l.length-> ∃n,qp step n (i:Int)=some (match m.findSome? q with|some r=> .ret r|none=> .out x):=by
  intro m
  induction m with
  |nil=>
   intro i hd hi;have:i=l.length:=by have:=We.1 hd;omega
   subst this;exact⟨1,by simp only[qp,hf,List.findSome?_nil]⟩
  |cons v m ih=>
   intro i hd hi;have hlt:i<l.length:=by
    rcases Mc i l.length with h|h
    ·exact h
    ·rw[Lf h]at hd;cases hd
   have hv:l[i]=v:=by have:=Yb hlt;rw[hd]at this;injection this with h1 _;exact h1.symm
   have hs:=hg i hlt;rw[hv]at hs;cases hq:q v with
   |some r=> rw[hq]at hs;exact⟨1,by simp only[qp,hs,List.findSome?_cons,hq]⟩
   |none=> rw[hq]at hs;obtain⟨n,hn⟩:=ih (i+1) (by rw[Yb hlt]at hd;injection hd) (by omega);refine⟨n+1,?_⟩;simp only[qp,hs,List.findSome?_cons,hq];exact hn
 obtain⟨n,hn⟩:=key l 0 rfl (by omega);replace hn:qp step n 0=_:=hn;rw[Qg (Dk hn)];cases l.findSome? q<;>rfl
theorem cB{α R:Type}(p:α->Bool)(r:R): ∀(l:List α),l.findSome? (fun v=>bif p v then none else some r)=bif l.all p then none else some r
 |[]=>rfl
 |v::l=>by
  rw[List.findSome?_cons,Ff];cases p v with
  |false=>rfl
  |true=>exact cB p r l
theorem WG{α R:Type}(p:α->Bool)(r:R): ∀(l:List α),l.findSome? (fun v=>bif p v then some r else none)=bif l.any p then some r else none
 |[]=>rfl
 |v::l=>by
  rw[List.findSome?_cons,List.any_cons];cases p v with
  |true=>rfl
  |false=>exact WG p r l
def idxS{α:Type}(p:α->Bool):List α->Int
 |[]=> -1
 |v::l=>bif p v then 0 else bif decide (idxS p l<0)then -1 else idxS p l+1
theorem TG{α:Type}(p:α->Bool): ∀(l:List α),decide (idxS p l>=0)=l.any p
 |[]=>rfl
 |v::l=>by
  have ih:=TG p l;rw[List.any_cons,idxS];cases p v with
  |true=>rfl
  |false=>
   simp only[Ba,Xe];rw[<-ih];by_cases h:idxS p l<0
   ·rw[Ia h,Da];simp only[ge_iff_le];rw[Sa (by omega),Sa (by omega)]
   ·rw[Sa h,Ba,Ia (by omega),Ia (by omega)]
theorem tF{α:Type}(p:α->Bool): ∀(l:List α), -1<=idxS p l/\idxS p l<l.length
 |[]=>by simp[idxS]
 |v::l=>by
  have:=tF p l;rw[idxS,Ca];cases p v with
  |true=>simp only[Da];omega
  |false=> simp only[Ba];cases decide (idxS p l<0)<;>simp only[Da,Ba]<;>omega
theorem EM {α:Type} {step:Int->Option (LO Int Unit Int)} (l:List α) (p:α->Bool) (hn:l.length<=big)
  (hg: ∀(i:Nat) (h:i<l.length),step (i:Int)=bif p l[i]then some (.ret (i:Int))else some (.again (w64 ((i:Int)+1))))
  (hf:step (l.length:Int)=some (.out ())):zY step 0 (fun _=>some (-1))=some (idxS p l):=by
 have key: ∀(m:List α) (i:Nat),l.drop i=m->i<=l.length-> ∃n,qp step n (i:Int)=some (bif decide (idxS p m<0)then .out ()else .ret ((i:Int)+idxS p m)):=by
  intro m
  induction m with
  |nil=>
   intro i hd hi;have:i=l.length:=by have:=We.1 hd;omega
   subst this;exact⟨1,by simp only[qp,hf];rfl⟩
  |cons v m ih=>
   intro i hd hi;have hlt:i<l.length:=by
    rcases Mc i l.length with h|h
    ·exact h
    ·rw[Lf h]at hd;cases hd
   have hv:l[i]=v:=by have:=Yb hlt;rw[hd]at this;injection this with h1 _;exact h1.symm
   have hs:=hg i hlt;rw[hv]at hs;cases hq:p v with
   |true=> rw[hq]at hs;refine⟨1,?_⟩;simp only[qp,hs,Da,idxS,hq];simp
   |false=>
    rw[hq,Ba,Zb hlt hn]at hs;obtain⟨n,hn'⟩:=ih (i+1) (by rw[Yb hlt]at hd;injection hd) (by omega);refine⟨n+1,?_⟩;simp only[qp,hs,idxS,hq,Ba];rw[hn'];have hb:=tF p m;by_cases h0:idxS p m<0
    ·rw[Ia h0];rfl
    ·rw[Sa h0,Ba,Ba,Sa (by omega),Ba];congr 2;omega
 obtain⟨n,hn'⟩:=key l 0 rfl (by omega);replace hn':qp step n 0=_:=hn';rw[Qg (Dk hn')];have hb:=tF p l;by_cases h0:idxS p l<0
 ·rw[Ia h0];show some (-1)=_;congr 1;omega
 ·rw[Sa h0];show some ((0:Nat)+idxS p l)=_;congr 1;omega
noncomputable section
set_option maxRecDepth 100000
def ME(n:Nat)(x:Str):Option Str:=
 need (decide (x.length<=maxLen))<|
 Bi n (fun(s1:Int×List UInt8)=>
   bif decide (s1.1<(s1.2.length:Int))then
    need (decide (0<=s1.1)&&decide (s1.1<(s1.2.length:Int)))<|
    ze s1.2[s1.1.toNat]? fun y2=>
    ze (Qu (y2.toNat:Int)) fun y3=>
    need (decide (0<=s1.1)&&decide (s1.1<(s1.2.length:Int)))<|
    ze s1.2[s1.1.toNat]? fun y4=>
    ze (Z4 y3) fun y5=>
    some (LO.again (w64 (s1.1+1),List.set s1.2 s1.1.toNat y5))
   else
    some (LO.out s1.2):Int×List UInt8->Option (LO (Int×List UInt8) (List UInt8) _)) (0,x) fun o6=>
 some o6
theorem lS(n:Nat)(x:Str):Le (ME n x) (ZR x):=by unfold ME ZR;exact(.need (.loop (fun _=>(.bif (.need (.bind .rfl fun _=>(.bind .rfl fun _=>(.need (.bind .rfl fun _=>(.bind .rfl fun _=> .rfl)))))) .rfl)) fun _=> .rfl))
def MJ(n:Nat)(x:Str×Str):Option Bool:=
 ze (ME n x.1) fun y1=>
 ze (ME n x.2) fun y2=>
 some (y1==y2)
theorem znA(n:Nat)(x:Str×Str):Le (MJ n x) (Z7 x):=by unfold MJ Z7;exact(.bind (lS n _) fun _=>(.bind (lS n _) fun _=> .rfl))
def Q4(n:Nat)(x:Str×Int):Option Int:=
 Bi n (fun(s1:Int)=>
   ze (zx (x.1,s1)) fun y2=>
   ze (ZT y2) fun y3=>
   bif y3 then
    some (LO.again (w64 (s1+1)))
   else
    some (LO.out s1):Int->Option (LO (Int) (Int) _)) x.2 fun o4=>
 some o4
theorem SE(n:Nat)(x:Str×Int):Le (Q4 n x) (ZY x):=by unfold Q4 ZY;exact(.loop (fun _=>(.bind .rfl fun _=>(.bind .rfl fun _=>(.bif .rfl .rfl)))) fun _=> .rfl)
def QD(n:Nat)(x:Str×Int):Option (Str×Int):=
 bif decide (w64 (x.2+1)>=(x.1.length:Int))then
  ze (Gn ()) fun y1=>
  some (y1,w64 (x.2+1))
 else
  ze (geti x.1 (w64 (x.2+1))) fun y2=>
  ze (Dm (y2.toNat:Int)) fun y3=>
  bif decide (y3<0)then
   need (decide (0<=w64 (x.2+1))&&(decide (w64 (x.2+1)<=w64 (w64 (x.2+1)+1))&&decide (w64 (w64 (x.2+1)+1)<=(x.1.length:Int))))<|
   some (List.drop (w64 (x.2+1)).toNat (List.take (w64 (w64 (x.2+1)+1)).toNat x.1),w64 (w64 (x.2+1)+1))
  else
   Bi n (fun(s4:Int×Int)=>
     ze (zo (bif decide (s4.2<(x.1.length:Int))then decide (s4.2<w64 (w64 (x.2+1)+6))else false) (geti x.1 s4.2) 0) fun y5=>
     ze (zo (bif decide (s4.2<(x.1.length:Int))then decide (s4.2<w64 (w64 (x.2+1)+6))else false) (Dm (y5.toNat:Int)) (default:Int)) fun y6=>
     bif bif bif decide (s4.2<(x.1.length:Int))then decide (s4.2<w64 (w64 (x.2+1)+6))else false then decide (y6>=0)else false then
      ze (geti x.1 s4.2) fun y7=>
      ze (Dm (y7.toNat:Int)) fun y8=>
      some (LO.again (w64 (w64 (16*s4.1)+y8),w64 (s4.2+1)))
     else
      some (LO.out (s4.1,s4.2)):Int×Int->Option (LO (Int×Int) (Int×Int) _)) (0,w64 (x.2+1)) fun o9=>
   zT (X:=Int) (
     ze (zx (x.1,o9.2)) fun y10=>
     ze (ZT y10) fun y11=>
     bif y11 then
      some (LX.out (w64 (o9.2+1)))
     else
      some (LX.out o9.2)) fun j12=>
   ze (Xt o9.1) fun y13=>
   some (y13,j12)
theorem YE(n:Nat)(x:Str×Int):Le (QD n x) (Zf x):=by unfold QD Zf;exact(.bif (.bind .rfl fun _=> .rfl) (.bind .rfl fun _=>(.bind .rfl fun _=>(.bif (.need .rfl) (.loop (fun _=>(.bind .rfl fun _=>(.bind .rfl fun _=>(.bif (.bind .rfl fun _=>(.bind .rfl fun _=> .rfl)) .rfl)))) fun _=>(.join (.bind .rfl fun _=>(.bind .rfl fun _=>(.bif .rfl .rfl))) fun _=>(.bind .rfl fun _=> .rfl)))))))
def UJ(n:Nat)(x:Str×Int):Option (zf×Int):=
 ze (geti x.1 x.2) fun y1=>
 Bi n (fun(s2:Int×zf×zf)=>
   bif decide (s2.1<(x.1.length:Int))then
    ze (geti x.1 s2.1) fun y3=>
    bif (y3.toNat:Int)==(y1.toNat:Int)then
     some (LO.ret (s2.2.2,w64 (s2.1+1)))
    else
     ze (geti x.1 s2.1) fun y4=>
     bif (y4.toNat:Int)==10 then
      some (LO.ret ((⟨6,[],0,[],false⟩:zf),s2.1))
     else
      ze (geti x.1 s2.1) fun y5=>
      bif bif (y5.toNat:Int)==92 then w64 (s2.1+1)==(x.1.length:Int)else false then
       some (LO.again (w64 (s2.1+1),s2.2.1,s2.2.2))
      else
       ze (geti x.1 s2.1) fun y6=>
       ze (zo ((y6.toNat:Int)==92) (geti x.1 (w64 (s2.1+1))) 0) fun y7=>
       bif bif (y6.toNat:Int)==92 then(y7.toNat:Int)==10 else false then
        some (LO.again (w64 (s2.1+2),s2.2.1,s2.2.2))
       else
        ze (geti x.1 s2.1) fun y8=>
        bif (y8.toNat:Int)==92 then
         ze (QD n (x.1,s2.1)) fun y9=>
         need (Gg s2.2.2.text.length y9.1.length)<|
         some (LO.again (y9.2,s2.2.1,(⟨s2.2.2.kind,s2.2.2.text++y9.1,s2.2.2.num,s2.2.2.unit,s2.2.2.flag⟩:zf)))
        else
         need (decide (0<=s2.1)&&(decide (s2.1<=w64 (s2.1+1))&&decide (w64 (s2.1+1)<=(x.1.length:Int))))<|
         need (Gg s2.2.2.text.length (List.drop s2.1.toNat (List.take (w64 (s2.1+1)).toNat x.1)).length)<|
         some (LO.again (w64 (s2.1+1),s2.2.1,(⟨s2.2.2.kind,s2.2.2.text++List.drop s2.1.toNat (List.take (w64 (s2.1+1)).toNat x.1),s2.2.2.num,s2.2.2.unit,s2.2.2.flag⟩:zf)))
   else
    some (LO.out (s2.1,s2.2.1,s2.2.2)):Int×zf×zf->Option (LO (Int×zf×zf) (Int×zf×zf) _)) (w64 (x.2+1),(⟨0,[],0,[],false⟩:zf),(⟨5,[],0,[],false⟩:zf)) fun o10=>
 some (o10.2.2,o10.1)
theorem zlX(n:Nat)(x:Str×Int):Le (UJ n x) (Hq x):=by unfold UJ Hq;exact(.bind .rfl fun _=>(.loop (fun _=>(.bif (.bind .rfl fun _=>(.bif .rfl (.bind .rfl fun _=>(.bif .rfl (.bind .rfl fun _=>(.bif .rfl (.bind .rfl fun _=>(.bind .rfl fun _=>(.bif .rfl (.bind .rfl fun _=>(.bif (.bind (YE n _) fun _=>(.need .rfl)) (.need (.need .rfl))))))))))))) .rfl)) fun _=> .rfl))
def Hu(n:Nat)(x:Str×Int):Option (Str×Int):=
 Bi n (fun(s1:Int×Str)=>
   ze (zo (decide (s1.1<(x.1.length:Int))) (geti x.1 s1.1) 0) fun y2=>
   ze (zo (decide (s1.1<(x.1.length:Int))) (Qi (y2.toNat:Int)) (default:Bool)) fun y3=>
   bif bif decide (s1.1<(x.1.length:Int))then y3 else false then
    need (decide (0<=s1.1)&&(decide (s1.1<=w64 (s1.1+1))&&decide (w64 (s1.1+1)<=(x.1.length:Int))))<|
    need (Gg s1.2.length (List.drop s1.1.toNat (List.take (w64 (s1.1+1)).toNat x.1)).length)<|
    some (LO.again (w64 (s1.1+1),s1.2++List.drop s1.1.toNat (List.take (w64 (s1.1+1)).toNat x.1)))
   else
    ze (zo (decide (s1.1<(x.1.length:Int))) (zQ (x.1,s1.1)) (default:Bool)) fun y4=>
    bif bif decide (s1.1<(x.1.length:Int))then y4 else false then
     ze (QD n (x.1,s1.1)) fun y5=>
     need (Gg s1.2.length y5.1.length)<|
     some (LO.again (y5.2,s1.2++y5.1))
    else
     some (LO.ret (s1.2,s1.1)):Int×Str->Option (LO (Int×Str) (Unit) _)) (x.2,[]) fun o6=>
 none
theorem rD(n:Nat)(x:Str×Int):Le (Hu n x) (qx x):=by unfold Hu qx;exact(.loop (fun _=>(.bind .rfl fun _=>(.bind .rfl fun _=>(.bif (.need (.need .rfl)) (.bind .rfl fun _=>(.bif (.bind (YE n _) fun _=>(.need .rfl)) .rfl)))))) fun _=> .none)
def Jz(n:Nat)(x:Str×Int):Option Int:=
 Bi n (fun(s1:Int)=>
   ze (zx (x.1,s1)) fun y2=>
   ze (zH y2) fun y3=>
   bif y3 then
    some (LO.again (w64 (s1+1)))
   else
    some (LO.out s1):Int->Option (LO (Int) (Int) _)) x.2 fun o4=>
 some o4
theorem mJ(n:Nat)(x:Str×Int):Le (Jz n x) (qH x):=by unfold Jz qH;exact(.loop (fun _=>(.bind .rfl fun _=>(.bind .rfl fun _=>(.bif .rfl .rfl)))) fun _=> .rfl)
def vJ(n:Nat)(x:Str×Int):Option (Int×Bool):=
 zT (X:=Int) (
   ze (zx (x.1,x.2)) fun y1=>
   bif bif y1==43 then true else y1==45 then
    some (LX.out (w64 (x.2+1)))
   else
    some (LX.out x.2)) fun j2=>
 ze (Jz n (x.1,j2)) fun y3=>
 zT (X:=Int×Bool) (
   ze (zx (x.1,y3)) fun y4=>
   ze (zo (y4==46) (zx (x.1,w64 (y3+1))) (default:Int)) fun y5=>
   ze (zo (y4==46) (zH y5) (default:Bool)) fun y6=>
   bif bif y4==46 then y6 else false then
    ze (Jz n (x.1,w64 (y3+1))) fun y7=>
    some (LX.out (y7,false))
   else
    some (LX.out (y3,true))) fun j8=>
 zT (X:=Int×Bool) (
   ze (zx (x.1,j8.1)) fun y9=>
   bif bif y9==101 then true else y9==69 then
    zT (X:=Int×Bool×Int) (
      ze (zx (x.1,w64 (j8.1+1))) fun y10=>
      bif bif y10==43 then true else y10==45 then
       some (LX.out (j8.1,j8.2,w64 (w64 (j8.1+1)+1)))
      else
       some (LX.out (j8.1,j8.2,w64 (j8.1+1)))) fun j11=>
    ze (zx (x.1,j11.2.2)) fun y12=>
    ze (zH y12) fun y13=>
    bif y13 then
     ze (Jz n (x.1,j11.2.2)) fun y14=>
     some (LX.out (y14,false))
    else
     some (LX.out (j11.1,j11.2.1))
   else
    some (LX.out (j8.1,j8.2))) fun j15=>
 some (j15.1,j15.2)
theorem zie(n:Nat)(x:Str×Int):Le (vJ n x) (qO x):=by unfold vJ qO;exact(.join (.bind .rfl fun _=>(.bif .rfl .rfl)) fun _=>(.bind (mJ n _) fun _=>(.join (.bind .rfl fun _=>(.bind .rfl fun _=>(.bind .rfl fun _=>(.bif (.bind (mJ n _) fun _=> .rfl) .rfl)))) fun _=>(.join (.bind .rfl fun _=>(.bif (.join (.bind .rfl fun _=>(.bif .rfl .rfl)) fun _=>(.bind .rfl fun _=>(.bind .rfl fun _=>(.bif (.bind (mJ n _) fun _=> .rfl) .rfl)))) .rfl)) fun _=> .rfl))))
def BK(n:Nat)(x:Str):Option Int:=
 ze (geti x 0) fun y1=>
 zT (X:=Str×Int×Int) (
   ze (geti x 0) fun y2=>
   bif bif (y2.toNat:Int)==43 then true else(y1.toNat:Int)==45 then
    some (LX.out ([],3,1))
   else
    some (LX.out ([],3,0))) fun j3=>
 Bi n (fun(s4:Str×Int)=>
   ze (zx (x,s4.2)) fun y5=>
   ze (zH y5) fun y6=>
   bif y6 then
    need (decide (0<=s4.2)&&(decide (s4.2<=w64 (s4.2+1))&&decide (w64 (s4.2+1)<=(x.length:Int))))<|
    need (Gg s4.1.length (List.drop s4.2.toNat (List.take (w64 (s4.2+1)).toNat x)).length)<|
    some (LO.again (s4.1++List.drop s4.2.toNat (List.take (w64 (s4.2+1)).toNat x),w64 (s4.2+1)))
   else
    some (LO.out (s4.1,s4.2)):Str×Int->Option (LO (Str×Int) (Str×Int) _)) (j3.1,j3.2.2) fun o7=>
 zT (X:=Str×Int×Int) (
   ze (zx (x,o7.2)) fun y8=>
   bif y8==46 then
    Bi n (fun(s9:Str×Int×Int)=>
      ze (zx (x,s9.2.2)) fun y10=>
      ze (zH y10) fun y11=>
      bif y11 then
       need (decide (0<=s9.2.2)&&(decide (s9.2.2<=w64 (s9.2.2+1))&&decide (w64 (s9.2.2+1)<=(x.length:Int))))<|
       need (Gg s9.1.length (List.drop s9.2.2.toNat (List.take (w64 (s9.2.2+1)).toNat x)).length)<|
       some (LO.again (s9.1++List.drop s9.2.2.toNat (List.take (w64 (s9.2.2+1)).toNat x),w64 (s9.2.1 - 1),w64 (s9.2.2+1)))
      else
       some (LO.out (s9.1,s9.2.1,s9.2.2)):Str×Int×Int->Option (LO (Str×Int×Int) (Str×Int×Int) _)) (o7.1,j3.2.1,w64 (o7.2+1)) fun o12=>
    some (LX.out (o12.1,o12.2.1,o12.2.2))
   else
    some (LX.out (o7.1,j3.2.1,o7.2))) fun j13=>
 zT (X:=Int) (
   bif decide (j13.2.2<(x.length:Int))then
    ze (geti x (w64 (j13.2.2+1))) fun y14=>
    zT (X:=Int×Int) (
      ze (geti x (w64 (j13.2.2+1))) fun y15=>
      bif bif (y15.toNat:Int)==43 then true else(y14.toNat:Int)==45 then
       some (LX.out (j13.2.1,w64 (w64 (j13.2.2+1)+1)))
      else
       some (LX.out (j13.2.1,w64 (j13.2.2+1)))) fun j16=>
    Bi n (fun(s17:Int×Int)=>
      bif decide (s17.1<(x.length:Int))then
       ze (geti x s17.1) fun y18=>
       some (LO.again (w64 (s17.1+1),if w64 (w64 (10*s17.2)+w64 (wu8 ((y18.toNat:Int) - 48)))<10000 then w64 (w64 (10*s17.2)+w64 (wu8 ((y18.toNat:Int) - 48)))else 10000))
      else
       some (LO.out s17.2):Int×Int->Option (LO (Int×Int) (Int) _)) (j16.2,0) fun o19=>
    zT (X:=Int×Int) (
      bif (y14.toNat:Int)==45 then
       some (LX.out (j16.1,w64 (0 - o19)))
      else
       some (LX.out (j16.1,o19))) fun j20=>
    some (LX.out (w64 (j20.1+j20.2)))
   else
    some (LX.out j13.2.1)) fun j21=>
 Bi n (fun(s22:Int×Int)=>
   bif bif decide (s22.2<w64 ((j13.1.length:Int)+j21))then decide (s22.2<(j13.1.length:Int))else false then
    ze (geti j13.1 s22.2) fun y23=>
    some (LO.again (if w64 (w64 (10*s22.1)+w64 (wu8 ((y23.toNat:Int) - 48)))<1000000000000 then w64 (w64 (10*s22.1)+w64 (wu8 ((y23.toNat:Int) - 48)))else 1000000000000,w64 (s22.2+1)))
   else
    some (LO.out s22.1):Int×Int->Option (LO (Int×Int) (Int) _)) (0,0) fun o24=>
 Bi n (fun(s25:Int×Int)=>
   bif bif bif decide (s25.1>0)then decide (s25.2>0)else false then decide (s25.2<1000000000000)else false then
    some (LO.again (w64 (s25.1 - 1),if w64 (10*s25.2)<1000000000000 then w64 (10*s25.2)else 1000000000000))
   else
    some (LO.out s25.2):Int×Int->Option (LO (Int×Int) (Int) _)) (j21,o24) fun o26=>
 bif (y1.toNat:Int)==45 then
  some (w64 (0 - o26))
 else
  some o26
theorem zgA(n:Nat)(x:Str):Le (BK n x) (Z8 x):=by unfold BK Z8;exact(.bind .rfl fun _=>(.join (.bind .rfl fun _=>(.bif .rfl .rfl)) fun _=>(.loop (fun _=>(.bind .rfl fun _=>(.bind .rfl fun _=>(.bif (.need (.need .rfl)) .rfl)))) fun _=>(.join (.bind .rfl fun _=>(.bif (.loop (fun _=>(.bind .rfl fun _=>(.bind .rfl fun _=>(.bif (.need (.need .rfl)) .rfl)))) fun _=> .rfl) .rfl)) fun _=>(.join (.bif (.bind .rfl fun _=>(.join (.bind .rfl fun _=>(.bif .rfl .rfl)) fun _=>(.loop (fun _=>(.bif (.bind .rfl fun _=> .rfl) .rfl)) fun _=>(.join (.bif .rfl .rfl) fun _=> .rfl)))) .rfl) fun _=>(.loop (fun _=>(.bif (.bind .rfl fun _=> .rfl) .rfl)) fun _=>(.loop (fun _=>(.bif .rfl .rfl)) fun _=>(.bif .rfl .rfl))))))))
def nJ(n:Nat)(x:Str×Int):Option (zf×Int):=
 ze (vJ n (x.1,x.2)) fun y1=>
 need (decide (0<=x.2)&&(decide (x.2<=y1.1)&&decide (y1.1<=(x.1.length:Int))))<|
 ze (BK n (List.drop x.2.toNat (List.take y1.1.toNat x.1))) fun y2=>
 zT (X:=Int×zf×zf) (
   ze (ZN (x.1,y1.1)) fun y3=>
   bif y3 then
    ze (Hu n (x.1,y1.1)) fun y4=>
    some (LX.out (y4.2,(⟨0,[],0,[],false⟩:zf),(⟨12,[],y2,y4.1,y1.2⟩:zf)))
   else
    ze (zx (x.1,y1.1)) fun y5=>
    bif y5==37 then
     some (LX.out (w64 (y1.1+1),(⟨0,[],0,[],false⟩:zf),(⟨11,[],y2,[],false⟩:zf)))
    else
     some (LX.out (y1.1,(⟨0,[],0,[],false⟩:zf),(⟨10,[],y2,[],y1.2⟩:zf)))) fun j6=>
 some (j6.2.2,j6.1)
theorem zkc(n:Nat)(x:Str×Int):Le (nJ n x) (QO x):=by unfold nJ QO;exact(.bind (zie n _) fun _=>(.need (.bind (zgA n _) fun _=>(.join (.bind .rfl fun _=>(.bif (.bind (rD n _) fun _=> .rfl) (.bind .rfl fun _=>(.bif .rfl .rfl)))) fun _=> .rfl))))
def VD(n:Nat)(x:Str×Int):Option (zf×Int):=
 Bi n (fun(s1:Int)=>
   ze (zo (decide (s1<(x.1.length:Int))) (geti x.1 s1) 0) fun y2=>
   bif bif decide (s1<(x.1.length:Int))then(y2.toNat:Int) != 41 else false then
    ze (zQ (x.1,s1)) fun y3=>
    bif y3 then
     ze (QD n (x.1,s1)) fun y4=>
     some (LO.again y4.2)
    else
     some (LO.again (w64 (s1+1)))
   else
    some (LO.out s1):Int->Option (LO (Int) (Int) _)) x.2 fun o5=>
 some ((⟨8,[],0,[],false⟩:zf),if w64 (o5+1)<(x.1.length:Int)then w64 (o5+1)else(x.1.length:Int))
theorem bQ(n:Nat)(x:Str×Int):Le (VD n x) (El x):=by unfold VD El;exact(.loop (fun _=>(.bind .rfl fun _=>(.bif (.bind .rfl fun _=>(.bif (.bind (YE n _) fun _=> .rfl) .rfl)) .rfl))) fun _=> .rfl)
def DJ(n:Nat)(x:Str×Int):Option (zf×Int):=
 ze (Q4 n (x.1,x.2)) fun y1=>
 Bi n (fun(s2:Int×zf×zf)=>
   ze (zo (decide (s2.1<(x.1.length:Int))) (geti x.1 s2.1) 0) fun y3=>
   bif bif decide (s2.1<(x.1.length:Int))then(y3.toNat:Int) != 41 else false then
    ze (geti x.1 s2.1) fun y4=>
    ze (ZT (y4.toNat:Int)) fun y5=>
    bif y5 then
     ze (Q4 n (x.1,s2.1)) fun y6=>
     ze (zo (decide (y6<(x.1.length:Int))) (geti x.1 y6) 0) fun y7=>
     bif bif decide (y6<(x.1.length:Int))then(y7.toNat:Int) != 41 else false then
      ze (VD n (x.1,y6)) fun y8=>
      some (LO.ret (y8.1,y8.2))
     else
      some (LO.again (y6,s2.2.1,s2.2.2))
    else
     ze (zo (!(bif bif (y4.toNat:Int)==34 then true else(y4.toNat:Int)==39 then true else(y4.toNat:Int)==40)) (qK (y4.toNat:Int)) (default:Bool)) fun y9=>
     ze (zo ((y4.toNat:Int)==92&& !(bif bif bif (y4.toNat:Int)==34 then true else(y4.toNat:Int)==39 then true else(y4.toNat:Int)==40 then true else y9)) (zQ (x.1,s2.1)) (default:Bool)) fun y10=>
     bif bif bif bif bif (y4.toNat:Int)==34 then true else(y4.toNat:Int)==39 then true else(y4.toNat:Int)==40 then true else y9 then true else bif (y4.toNat:Int)==92 then !y10 else false then
      ze (VD n (x.1,s2.1)) fun y11=>
      some (LO.ret (y11.1,y11.2))
     else
      bif (y4.toNat:Int)==92 then
       ze (QD n (x.1,s2.1)) fun y12=>
       need (Gg s2.2.2.text.length y12.1.length)<|
       some (LO.again (y12.2,s2.2.1,(⟨s2.2.2.kind,s2.2.2.text++y12.1,s2.2.2.num,s2.2.2.unit,s2.2.2.flag⟩:zf)))
      else
       need (decide (0<=s2.1)&&(decide (s2.1<=w64 (s2.1+1))&&decide (w64 (s2.1+1)<=(x.1.length:Int))))<|
       need (Gg s2.2.2.text.length (List.drop s2.1.toNat (List.take (w64 (s2.1+1)).toNat x.1)).length)<|
       some (LO.again (w64 (s2.1+1),s2.2.1,(⟨s2.2.2.kind,s2.2.2.text++List.drop s2.1.toNat (List.take (w64 (s2.1+1)).toNat x.1),s2.2.2.num,s2.2.2.unit,s2.2.2.flag⟩:zf)))
   else
    some (LO.out (s2.1,s2.2.1,s2.2.2)):Int×zf×zf->Option (LO (Int×zf×zf) (Int×zf×zf) _)) (y1,(⟨0,[],0,[],false⟩:zf),(⟨7,[],0,[],false⟩:zf)) fun o13=>
 some (o13.2.2,if w64 (o13.1+1)<(x.1.length:Int)then w64 (o13.1+1)else(x.1.length:Int))
theorem H7(n:Nat)(x:Str×Int):Le (DJ n x) (gp x):=by unfold DJ gp;exact(.bind (SE n _) fun _=>(.loop (fun _=>(.bind .rfl fun _=>(.bif (.bind .rfl fun _=>(.bind .rfl fun _=>(.bif (.bind (SE n _) fun _=>(.bind .rfl fun _=>(.bif (.bind (bQ n _) fun _=> .rfl) .rfl))) (.bind .rfl fun _=>(.bind .rfl fun _=>(.bif (.bind (bQ n _) fun _=> .rfl) (.bif (.bind (YE n _) fun _=>(.need .rfl)) (.need (.need .rfl))))))))) .rfl))) fun _=> .rfl))
def NJ(n:Nat)(x:Str×Int):Option (zf×Int):=
 ze (Hu n (x.1,x.2)) fun y1=>
 ze (zx (x.1,y1.2)) fun y2=>
 bif y2 != 40 then
  some ((⟨1,y1.1,0,[],false⟩:zf),y1.2)
 else
  zT (X:=zf) (
    ze (MJ n (y1.1,[117,114,108])) fun y3=>
    bif y3 then
     ze (Q4 n (x.1,w64 (y1.2+1))) fun y4=>
     ze (zx (x.1,y4)) fun y5=>
     bif bif y5 != 34 then y5 != 39 else false then
      ze (DJ n (x.1,w64 (y1.2+1))) fun y6=>
      some (LX.ret (y6.1,y6.2))
     else
      some (LX.out (⟨0,[],0,[],false⟩:zf))
    else
     some (LX.out (⟨0,[],0,[],false⟩:zf))) fun j7=>
  some ((⟨2,y1.1,0,[],false⟩:zf),w64 (y1.2+1))
theorem C9(n:Nat)(x:Str×Int):Le (NJ n x) (Cq x):=by unfold NJ Cq;exact(.bind (rD n _) fun _=>(.bind .rfl fun _=>(.bif .rfl (.join (.bind (znA n _) fun _=>(.bif (.bind (SE n _) fun _=>(.bind .rfl fun _=>(.bif (.bind (H7 n _) fun _=> .rfl) .rfl))) .rfl)) fun _=> .rfl))))
def EJ(n:Nat)(x:Str×Int):Option (zf×Int):=
 ze (geti x.1 x.2) fun y1=>
 ze (ZT (y1.toNat:Int)) fun y2=>
 bif y2 then
  ze (Q4 n (x.1,x.2)) fun y3=>
  some ((⟨13,[],0,[],false⟩:zf),y3)
 else
  bif bif (y1.toNat:Int)==34 then true else(y1.toNat:Int)==39 then
   ze (UJ n (x.1,x.2)) fun y4=>
   some (y4.1,y4.2)
  else
   ze (zo (decide (w64 (x.2+1)<(x.1.length:Int))&&(y1.toNat:Int)==35) (geti x.1 (w64 (x.2+1))) 0) fun y5=>
   ze (zo (decide (w64 (x.2+1)<(x.1.length:Int))&&(y1.toNat:Int)==35) (Qi (y5.toNat:Int)) (default:Bool)) fun y6=>
   ze (zo (!(bif decide (w64 (x.2+1)<(x.1.length:Int))then y6 else false)&&(y1.toNat:Int)==35) (zQ (x.1,w64 (x.2+1))) (default:Bool)) fun y7=>
   bif bif (y1.toNat:Int)==35 then bif bif decide (w64 (x.2+1)<(x.1.length:Int))then y6 else false then true else y7 else false then
    ze (Hu n (x.1,w64 (x.2+1))) fun y8=>
    ze (ZN (x.1,w64 (x.2+1))) fun y9=>
    some ((⟨4,y8.1,0,[],y9⟩:zf),y8.2)
   else
    ze (Q3 (x.1,x.2)) fun y10=>
    bif y10 then
     ze (nJ n (x.1,x.2)) fun y11=>
     some (y11.1,y11.2)
    else
     ze (QV (x.1,x.2,[45,45,62])) fun y12=>
     bif y12 then
      some ((⟨15,[],0,[],false⟩:zf),w64 (x.2+3))
     else
      ze (QV (x.1,x.2,[60,33,45,45])) fun y13=>
      bif y13 then
       some ((⟨14,[],0,[],false⟩:zf),w64 (x.2+4))
      else
       ze (zo ((y1.toNat:Int)==64) (ZN (x.1,w64 (x.2+1))) (default:Bool)) fun y14=>
       bif bif (y1.toNat:Int)==64 then y14 else false then
        ze (Hu n (x.1,w64 (x.2+1))) fun y15=>
        some ((⟨3,y15.1,0,[],false⟩:zf),y15.2)
       else
        ze (ZN (x.1,x.2)) fun y16=>
        bif y16 then
         ze (NJ n (x.1,x.2)) fun y17=>
         some (y17.1,y17.2)
        else
         ze (Dq (y1.toNat:Int)) fun y18=>
         bif y18 != 0 then
          ze (Dq (y1.toNat:Int)) fun y19=>
          some ((⟨y19,[],0,[],false⟩:zf),w64 (x.2+1))
         else
          need (decide (0<=x.2)&&(decide (x.2<=w64 (x.2+1))&&decide (w64 (x.2+1)<=(x.1.length:Int))))<|
          some ((⟨9,List.drop x.2.toNat (List.take (w64 (x.2+1)).toNat x.1),0,[],false⟩:zf),w64 (x.2+1))
theorem I7(n:Nat)(x:Str×Int):Le (EJ n x) (Gl x):=by unfold EJ Gl;exact(.bind .rfl fun _=>(.bind .rfl fun _=>(.bif (.bind (SE n _) fun _=> .rfl) (.bif (.bind (zlX n _) fun _=> .rfl) (.bind .rfl fun _=>(.bind .rfl fun _=>(.bind .rfl fun _=>(.bif (.bind (rD n _) fun _=>(.bind .rfl fun _=> .rfl)) (.bind .rfl fun _=>(.bif (.bind (zkc n _) fun _=> .rfl) (.bind .rfl fun _=>(.bif .rfl (.bind .rfl fun _=>(.bif .rfl (.bind .rfl fun _=>(.bif (.bind (rD n _) fun _=> .rfl) (.bind .rfl fun _=>(.bif (.bind (C9 n _) fun _=> .rfl) (.bind .rfl fun _=>(.bif (.bind .rfl fun _=> .rfl) (.need .rfl)))))))))))))))))))))
def LJ(n:Nat)(x:Int):Option Bool:=
 ze (Z4 x) fun y1=>
 ze (EJ n ([y1,(10:UInt8)],0)) fun y2=>
 some (bif bif bif bif decide (x>=1)then decide (x<=127)else false then x != 12 else false then x != 13 else false then y2.1.kind==9 else false)
theorem znB(n:Nat)(x:Int):Le (LJ n x) (qP x):=by unfold LJ qP;exact(.bind .rfl fun _=>(.bind (I7 n _) fun _=> .rfl))
end
end Go.Lv.VT
