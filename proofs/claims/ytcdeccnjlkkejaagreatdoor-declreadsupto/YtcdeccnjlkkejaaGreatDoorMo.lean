/- Laws for the plain texts: loops that look for something; bytes. -/
import Derived.Test.YtcdeccnjlkkejaaGreatDoorLf
import Derived.Test.YtcdeccnjlkkejaaGreatDoorTx
set_option linter.unusedSimpArgs false
set_option linter.unusedVariables false
namespace Go.Lv.VT
abbrev big:Nat:=4194304
theorem ZH{i n:Nat}(h:i<n):decide ((i:Int)<(n:Int))=true:=La (by omega)
theorem ah(n:Nat):decide ((n:Int)<(n:Int))=false:=Ya (by omega)
theorem Za{i n:Nat}(h:i<n)(a:n<=big):w64 ((i:Int)+1)=((i+1:Nat):Int):=by rw[w64,ZT (by omega) (by grind)];omega
theorem ZU{α:Type}(b:Bool)(v d:α):zn b (some v) d=some (bif b then v else d):=by cases b<;>rfl
theorem Ox {α X R:Type} {step:Int->Option (LO Int X R)} {k:X->Option R} (l:List α) (q:α->Option R) (x:X)
  (hg: ∀(i:Nat) (h:i<l.length),step (i:Int)=some (match q l[i]with|some r=> .ret r|none=> .again ((i+1:Nat):Int)))
  (hf:step (l.length:Int)=some (.out x)):zY step 0 k=match l.findSome? q with|some r=>some r|none=>k x:=by
 have key: ∀(m:List α) (i:Nat),l.drop i=m->i<=l.length-> ∃n,qm step n (i:Int)=some (match m.findSome? q with|some r=> .ret r|none=> .out x):=by
  intro m
  induction m with
  |nil=>
   intro i hd hi;have:i=l.length:=by have:=De.1 hd;omega
   subst this;exact⟨1,by simp only[qm,hf,List.findSome?_nil]⟩
  |cons v m ih=>
   intro i hd hi;have hlt:i<l.length:=by
    rcases Gc i l.length with h|h
    ·exact h
    ·grind
   have hv:l[i]=v:=by have:=Pb hlt;rw[hd]at this;injection this with h1 _;exact h1.symm
   have hs:=hg i hlt;rw[hv]at hs;cases hq:q v with
   |some r=> rw[hq]at hs;exact⟨1,by simp only[qm,hs,List.findSome?_cons,hq]⟩
   |none=> rw[hq]at hs;obtain⟨n,hn⟩:=ih (i+1) (by rw[Pb hlt]at hd;injection hd) (by omega);refine⟨n+1,?_⟩;simp only[qm,hs,List.findSome?_cons,hq];exact hn
 obtain⟨n,hn⟩:=key l 0 rfl (by omega);replace hn:qm step n 0=_:=hn;rw[Qd (Lj hn)];cases l.findSome? q<;>rfl
theorem AB{α R:Type}(p:α->Bool)(r:R): ∀(l:List α),l.findSome? (fun v=>bif p v then none else some r)=bif l.all p then none else some r
 |[]=>rfl
 |v::l=>by
  rw[List.findSome?_cons,Ue];cases p v with
  |false=>rfl
  |true=>exact AB p r l
theorem IG{α R:Type}(p:α->Bool)(r:R): ∀(l:List α),l.findSome? (fun v=>bif p v then some r else none)=bif l.any p then some r else none
 |[]=>rfl
 |v::l=>by
  rw[List.findSome?_cons,List.any_cons];cases p v with
  |true=>rfl
  |false=>exact IG p r l
def idxS{α:Type}(p:α->Bool):List α->Int
 |[]=> -1
 |v::l=>bif p v then 0 else bif decide (idxS p l<0)then -1 else idxS p l+1
theorem lF{α:Type}(p:α->Bool): ∀(l:List α),decide (idxS p l>=0)=l.any p
 |[]=>rfl
 |v::l=>by
  have a:=lF p l;rw[List.any_cons,idxS]
  grind
theorem jK{α:Type}(p:α->Bool): ∀(l:List α), -1<=idxS p l/\idxS p l<l.length
 |[]=>by simp[idxS]
 |v::l=>by
  have:=jK p l;rw[idxS,Ea]
  grind
theorem XL {α:Type} {step:Int->Option (LO Int Unit Int)} (l:List α) (p:α->Bool) (hn:l.length<=big)
  (hg: ∀(i:Nat) (h:i<l.length),step (i:Int)=bif p l[i]then some (.ret (i:Int))else some (.again (w64 ((i:Int)+1))))
  (hf:step (l.length:Int)=some (.out ())):zY step 0 (fun _=>some (-1))=some (idxS p l):=by
 have key: ∀(m:List α) (i:Nat),l.drop i=m->i<=l.length-> ∃n,qm step n (i:Int)=some (bif decide (idxS p m<0)then .out ()else .ret ((i:Int)+idxS p m)):=by
  intro m
  induction m with
  |nil=>
   intro i hd hi;have:i=l.length:=by have:=De.1 hd;omega
   subst this;exact⟨1,by simp only[qm,hf];rfl⟩
  |cons v m ih=>
   intro i hd hi;have hlt:i<l.length:=by
    rcases Gc i l.length with h|h
    ·exact h
    ·grind
   have hv:l[i]=v:=by have:=Pb hlt;rw[hd]at this;injection this with h1 _;exact h1.symm
   have hs:=hg i hlt;rw[hv]at hs;cases hq:p v with
   |true=> rw[hq]at hs;refine⟨1,?_⟩;simp only[qm,hs,Ca,idxS,hq];simp
   |false=>
    rw[hq,Ba,Za hlt hn]at hs;obtain⟨n,hn'⟩:=ih (i+1) (by rw[Pb hlt]at hd;injection hd) (by omega);refine⟨n+1,?_⟩;simp only[qm,hs,idxS,hq,Ba]
    grind
 obtain⟨n,hn'⟩:=key l 0 rfl (by omega);replace hn':qm step n 0=_:=hn';rw[Qd (Lj hn')];have hb:=jK p l;by_cases h0:idxS p l<0
 ·rw[La h0];show some (-1)=_;congr 1;omega
 ·rw[Ya h0];simp_all
noncomputable section
set_option maxRecDepth 100000
def iD(n:Nat)(x:Str):Option Str:=
 need (decide (x.length<=maxLen))<|
 Mh n (fun(s1:Int×List UInt8)=>
   bif decide (s1.1<(s1.2.length:Int))then
    need (decide (0<=s1.1)&&decide (s1.1<(s1.2.length:Int)))<|
    ze s1.2[s1.1.toNat]? fun y2=>
    ze (Qq (y2.toNat:Int)) fun y3=>
    need (decide (0<=s1.1)&&decide (s1.1<(s1.2.length:Int)))<|
    ze s1.2[s1.1.toNat]? fun y4=>
    ze (Z0 y3) fun y5=>
    some (LO.again (w64 (s1.1+1),List.set s1.2 s1.1.toNat y5))
   else
    some (LO.out s1.2):Int×List UInt8->Option (LO (Int×List UInt8) (List UInt8) _)) (0,x) fun o6=>
 some o6
theorem GR(n:Nat)(x:Str):Le (iD n x) (ZP x):=by unfold iD ZP;exact(.need (.loop (fun _=>(.bif (.need (.bind .rfl fun _=>(.bind .rfl fun _=>(.need (.bind .rfl fun _=>(.bind .rfl fun _=> .rfl)))))) .rfl)) fun _=> .rfl))
def jI(n:Nat)(x:Str×Str):Option Bool:=
 ze (iD n x.1) fun y1=>
 ze (iD n x.2) fun y2=>
 some (y1==y2)
theorem K9(n:Nat)(x:Str×Str):Le (jI n x) (Z5 x):=by unfold jI Z5;exact(.bind (GR n _) fun _=>(.bind (GR n _) fun _=> .rfl))
def QZ(n:Nat)(x:Str×Int):Option Int:=
 Mh n (fun(s1:Int)=>
   ze (zx (x.1,s1)) fun y2=>
   ze (ZQ y2) fun y3=>
   bif y3 then
    some (LO.again (w64 (s1+1)))
   else
    some (LO.out s1):Int->Option (LO (Int) (Int) _)) x.2 fun o4=>
 some o4
theorem lD(n:Nat)(x:Str×Int):Le (QZ n x) (ZW x):=by unfold QZ ZW;exact(.loop (fun _=>(.bind .rfl fun _=>(.bind .rfl fun _=>(.bif .rfl .rfl)))) fun _=> .rfl)
def Qy(n:Nat)(x:Str×Int):Option (Str×Int):=
 bif decide (w64 (x.2+1)>=(x.1.length:Int))then
  ze (Tm ()) fun y1=>
  some (y1,w64 (x.2+1))
 else
  ze (geti x.1 (w64 (x.2+1))) fun y2=>
  ze (Ml (y2.toNat:Int)) fun y3=>
  bif decide (y3<0)then
   need (decide (0<=w64 (x.2+1))&&(decide (w64 (x.2+1)<=w64 (w64 (x.2+1)+1))&&decide (w64 (w64 (x.2+1)+1)<=(x.1.length:Int))))<|
   some (List.drop (w64 (x.2+1)).toNat (List.take (w64 (w64 (x.2+1)+1)).toNat x.1),w64 (w64 (x.2+1)+1))
  else
   Mh n (fun(s4:Int×Int)=>
     ze (zn (bif decide (s4.2<(x.1.length:Int))then decide (s4.2<w64 (w64 (x.2+1)+6))else false) (geti x.1 s4.2) 0) fun y5=>
     ze (zn (bif decide (s4.2<(x.1.length:Int))then decide (s4.2<w64 (w64 (x.2+1)+6))else false) (Ml (y5.toNat:Int)) (default:Int)) fun y6=>
     bif bif bif decide (s4.2<(x.1.length:Int))then decide (s4.2<w64 (w64 (x.2+1)+6))else false then decide (y6>=0)else false then
      ze (geti x.1 s4.2) fun y7=>
      ze (Ml (y7.toNat:Int)) fun y8=>
      some (LO.again (w64 (w64 (16*s4.1)+y8),w64 (s4.2+1)))
     else
      some (LO.out (s4.1,s4.2)):Int×Int->Option (LO (Int×Int) (Int×Int) _)) (0,w64 (x.2+1)) fun o9=>
   zS (X:=Int) (
     ze (zx (x.1,o9.2)) fun y10=>
     ze (ZQ y10) fun y11=>
     bif y11 then
      some (LX.out (w64 (o9.2+1)))
     else
      some (LX.out o9.2)) fun j12=>
   ze (Ms o9.1) fun y13=>
   some (y13,j12)
theorem sD(n:Nat)(x:Str×Int):Le (Qy n x) (Ze x):=by unfold Qy Ze;exact(.bif (.bind .rfl fun _=> .rfl) (.bind .rfl fun _=>(.bind .rfl fun _=>(.bif (.need .rfl) (.loop (fun _=>(.bind .rfl fun _=>(.bind .rfl fun _=>(.bif (.bind .rfl fun _=>(.bind .rfl fun _=> .rfl)) .rfl)))) fun _=>(.join (.bind .rfl fun _=>(.bind .rfl fun _=>(.bif .rfl .rfl))) fun _=>(.bind .rfl fun _=> .rfl)))))))
def oI(n:Nat)(x:Str×Int):Option (zf×Int):=
 ze (geti x.1 x.2) fun y1=>
 Mh n (fun(s2:Int×zf×zf)=>
   bif decide (s2.1<(x.1.length:Int))then
    ze (geti x.1 s2.1) fun y3=>
    bif (y3.toNat:Int)==(y1.toNat:Int)then
     some (LO.ret (s2.2.2,w64 (s2.1+1)))
    else
     ze (geti x.1 s2.1) fun y4=>
     bif (y4.toNat:Int)==10 then
      some (LO.ret ((⟨6,[],0,[],false⟩:zf),s2.1))
     else
      ze (geti x.1 s2.1) fun y5=>
      bif bif (y5.toNat:Int)==92 then w64 (s2.1+1)==(x.1.length:Int)else false then
       some (LO.again (w64 (s2.1+1),s2.2.1,s2.2.2))
      else
       ze (geti x.1 s2.1) fun y6=>
       ze (zn ((y6.toNat:Int)==92) (geti x.1 (w64 (s2.1+1))) 0) fun y7=>
       bif bif (y6.toNat:Int)==92 then(y7.toNat:Int)==10 else false then
        some (LO.again (w64 (s2.1+2),s2.2.1,s2.2.2))
       else
        ze (geti x.1 s2.1) fun y8=>
        bif (y8.toNat:Int)==92 then
         ze (Qy n (x.1,s2.1)) fun y9=>
         need (Uf s2.2.2.text.length y9.1.length)<|
         some (LO.again (y9.2,s2.2.1,(⟨s2.2.2.kind,s2.2.2.text++y9.1,s2.2.2.num,s2.2.2.unit,s2.2.2.flag⟩:zf)))
        else
         need (decide (0<=s2.1)&&(decide (s2.1<=w64 (s2.1+1))&&decide (w64 (s2.1+1)<=(x.1.length:Int))))<|
         need (Uf s2.2.2.text.length (List.drop s2.1.toNat (List.take (w64 (s2.1+1)).toNat x.1)).length)<|
         some (LO.again (w64 (s2.1+1),s2.2.1,(⟨s2.2.2.kind,s2.2.2.text++List.drop s2.1.toNat (List.take (w64 (s2.1+1)).toNat x.1),s2.2.2.num,s2.2.2.unit,s2.2.2.flag⟩:zf)))
   else
    some (LO.out (s2.1,s2.2.1,s2.2.2)):Int×zf×zf->Option (LO (Int×zf×zf) (Int×zf×zf) _)) (w64 (x.2+1),(⟨0,[],0,[],false⟩:zf),(⟨5,[],0,[],false⟩:zf)) fun o10=>
 some (o10.2.2,o10.1)
theorem zlV(n:Nat)(x:Str×Int):Le (oI n x) (Bp x):=by unfold oI Bp;exact(.bind .rfl fun _=>(.loop (fun _=>(.bif (.bind .rfl fun _=>(.bif .rfl (.bind .rfl fun _=>(.bif .rfl (.bind .rfl fun _=>(.bif .rfl (.bind .rfl fun _=>(.bind .rfl fun _=>(.bif .rfl (.bind .rfl fun _=>(.bif (.bind (sD n _) fun _=>(.need .rfl)) (.need (.need .rfl))))))))))))) .rfl)) fun _=> .rfl))
def Ht(n:Nat)(x:Str×Int):Option (Str×Int):=
 Mh n (fun(s1:Int×Str)=>
   ze (zn (decide (s1.1<(x.1.length:Int))) (geti x.1 s1.1) 0) fun y2=>
   ze (zn (decide (s1.1<(x.1.length:Int))) (Qf (y2.toNat:Int)) (default:Bool)) fun y3=>
   bif bif decide (s1.1<(x.1.length:Int))then y3 else false then
    need (decide (0<=s1.1)&&(decide (s1.1<=w64 (s1.1+1))&&decide (w64 (s1.1+1)<=(x.1.length:Int))))<|
    need (Uf s1.2.length (List.drop s1.1.toNat (List.take (w64 (s1.1+1)).toNat x.1)).length)<|
    some (LO.again (w64 (s1.1+1),s1.2++List.drop s1.1.toNat (List.take (w64 (s1.1+1)).toNat x.1)))
   else
    ze (zn (decide (s1.1<(x.1.length:Int))) (zP (x.1,s1.1)) (default:Bool)) fun y4=>
    bif bif decide (s1.1<(x.1.length:Int))then y4 else false then
     ze (Qy n (x.1,s1.1)) fun y5=>
     need (Uf s1.2.length y5.1.length)<|
     some (LO.again (y5.2,s1.2++y5.1))
    else
     some (LO.ret (s1.2,s1.1)):Int×Str->Option (LO (Int×Str) (Unit) _)) (x.2,[]) fun o6=>
 none
theorem ND(n:Nat)(x:Str×Int):Le (Ht n x) (qp x):=by unfold Ht qp;exact(.loop (fun _=>(.bind .rfl fun _=>(.bind .rfl fun _=>(.bif (.need (.need .rfl)) (.bind .rfl fun _=>(.bif (.bind (sD n _) fun _=>(.need .rfl)) .rfl)))))) fun _=> .none)
def Uy(n:Nat)(x:Str×Int):Option Int:=
 Mh n (fun(s1:Int)=>
   ze (zx (x.1,s1)) fun y2=>
   ze (zH y2) fun y3=>
   bif y3 then
    some (LO.again (w64 (s1+1)))
   else
    some (LO.out s1):Int->Option (LO (Int) (Int) _)) x.2 fun o4=>
 some o4
theorem IJ(n:Nat)(x:Str×Int):Le (Uy n x) (qF x):=by unfold Uy qF;exact(.loop (fun _=>(.bind .rfl fun _=>(.bind .rfl fun _=>(.bif .rfl .rfl)))) fun _=> .rfl)
def TJ(n:Nat)(x:Str×Int):Option (Int×Bool):=
 zS (X:=Int) (
   ze (zx (x.1,x.2)) fun y1=>
   bif bif y1==43 then true else y1==45 then
    some (LX.out (w64 (x.2+1)))
   else
    some (LX.out x.2)) fun j2=>
 ze (Uy n (x.1,j2)) fun y3=>
 zS (X:=Int×Bool) (
   ze (zx (x.1,y3)) fun y4=>
   ze (zn (y4==46) (zx (x.1,w64 (y3+1))) (default:Int)) fun y5=>
   ze (zn (y4==46) (zH y5) (default:Bool)) fun y6=>
   bif bif y4==46 then y6 else false then
    ze (Uy n (x.1,w64 (y3+1))) fun y7=>
    some (LX.out (y7,false))
   else
    some (LX.out (y3,true))) fun j8=>
 zS (X:=Int×Bool) (
   ze (zx (x.1,j8.1)) fun y9=>
   bif bif y9==101 then true else y9==69 then
    zS (X:=Int×Bool×Int) (
      ze (zx (x.1,w64 (j8.1+1))) fun y10=>
      bif bif y10==43 then true else y10==45 then
       some (LX.out (j8.1,j8.2,w64 (w64 (j8.1+1)+1)))
      else
       some (LX.out (j8.1,j8.2,w64 (j8.1+1)))) fun j11=>
    ze (zx (x.1,j11.2.2)) fun y12=>
    ze (zH y12) fun y13=>
    bif y13 then
     ze (Uy n (x.1,j11.2.2)) fun y14=>
     some (LX.out (y14,false))
    else
     some (LX.out (j11.1,j11.2.1))
   else
    some (LX.out (j8.1,j8.2))) fun j15=>
 some (j15.1,j15.2)
theorem zid(n:Nat)(x:Str×Int):Le (TJ n x) (qM x):=by unfold TJ qM;exact(.join (.bind .rfl fun _=>(.bif .rfl .rfl)) fun _=>(.bind (IJ n _) fun _=>(.join (.bind .rfl fun _=>(.bind .rfl fun _=>(.bind .rfl fun _=>(.bif (.bind (IJ n _) fun _=> .rfl) .rfl)))) fun _=>(.join (.bind .rfl fun _=>(.bif (.join (.bind .rfl fun _=>(.bif .rfl .rfl)) fun _=>(.bind .rfl fun _=>(.bind .rfl fun _=>(.bif (.bind (IJ n _) fun _=> .rfl) .rfl)))) .rfl)) fun _=> .rfl))))
def WJ(n:Nat)(x:Str):Option Int:=
 ze (geti x 0) fun y1=>
 zS (X:=Str×Int×Int) (
   ze (geti x 0) fun y2=>
   bif bif (y2.toNat:Int)==43 then true else(y1.toNat:Int)==45 then
    some (LX.out ([],3,1))
   else
    some (LX.out ([],3,0))) fun j3=>
 Mh n (fun(s4:Str×Int)=>
   ze (zx (x,s4.2)) fun y5=>
   ze (zH y5) fun y6=>
   bif y6 then
    need (decide (0<=s4.2)&&(decide (s4.2<=w64 (s4.2+1))&&decide (w64 (s4.2+1)<=(x.length:Int))))<|
    need (Uf s4.1.length (List.drop s4.2.toNat (List.take (w64 (s4.2+1)).toNat x)).length)<|
    some (LO.again (s4.1++List.drop s4.2.toNat (List.take (w64 (s4.2+1)).toNat x),w64 (s4.2+1)))
   else
    some (LO.out (s4.1,s4.2)):Str×Int->Option (LO (Str×Int) (Str×Int) _)) (j3.1,j3.2.2) fun o7=>
 zS (X:=Str×Int×Int) (
   ze (zx (x,o7.2)) fun y8=>
   bif y8==46 then
    Mh n (fun(s9:Str×Int×Int)=>
      ze (zx (x,s9.2.2)) fun y10=>
      ze (zH y10) fun y11=>
      bif y11 then
       need (decide (0<=s9.2.2)&&(decide (s9.2.2<=w64 (s9.2.2+1))&&decide (w64 (s9.2.2+1)<=(x.length:Int))))<|
       need (Uf s9.1.length (List.drop s9.2.2.toNat (List.take (w64 (s9.2.2+1)).toNat x)).length)<|
       some (LO.again (s9.1++List.drop s9.2.2.toNat (List.take (w64 (s9.2.2+1)).toNat x),w64 (s9.2.1 - 1),w64 (s9.2.2+1)))
      else
       some (LO.out (s9.1,s9.2.1,s9.2.2)):Str×Int×Int->Option (LO (Str×Int×Int) (Str×Int×Int) _)) (o7.1,j3.2.1,w64 (o7.2+1)) fun o12=>
    some (LX.out (o12.1,o12.2.1,o12.2.2))
   else
    some (LX.out (o7.1,j3.2.1,o7.2))) fun j13=>
 zS (X:=Int) (
   bif decide (j13.2.2<(x.length:Int))then
    ze (geti x (w64 (j13.2.2+1))) fun y14=>
    zS (X:=Int×Int) (
      ze (geti x (w64 (j13.2.2+1))) fun y15=>
      bif bif (y15.toNat:Int)==43 then true else(y14.toNat:Int)==45 then
       some (LX.out (j13.2.1,w64 (w64 (j13.2.2+1)+1)))
      else
       some (LX.out (j13.2.1,w64 (j13.2.2+1)))) fun j16=>
    Mh n (fun(s17:Int×Int)=>
      bif decide (s17.1<(x.length:Int))then
       ze (geti x s17.1) fun y18=>
       some (LO.again (w64 (s17.1+1),if w64 (w64 (10*s17.2)+w64 (wu8 ((y18.toNat:Int) - 48)))<10000 then w64 (w64 (10*s17.2)+w64 (wu8 ((y18.toNat:Int) - 48)))else 10000))
      else
       some (LO.out s17.2):Int×Int->Option (LO (Int×Int) (Int) _)) (j16.2,0) fun o19=>
    zS (X:=Int×Int) (
      bif (y14.toNat:Int)==45 then
       some (LX.out (j16.1,w64 (0 - o19)))
      else
       some (LX.out (j16.1,o19))) fun j20=>
    some (LX.out (w64 (j20.1+j20.2)))
   else
    some (LX.out j13.2.1)) fun j21=>
 Mh n (fun(s22:Int×Int)=>
   bif bif decide (s22.2<w64 ((j13.1.length:Int)+j21))then decide (s22.2<(j13.1.length:Int))else false then
    ze (geti j13.1 s22.2) fun y23=>
    some (LO.again (if w64 (w64 (10*s22.1)+w64 (wu8 ((y23.toNat:Int) - 48)))<1000000000000 then w64 (w64 (10*s22.1)+w64 (wu8 ((y23.toNat:Int) - 48)))else 1000000000000,w64 (s22.2+1)))
   else
    some (LO.out s22.1):Int×Int->Option (LO (Int×Int) (Int) _)) (0,0) fun o24=>
 Mh n (fun(s25:Int×Int)=>
   bif bif bif decide (s25.1>0)then decide (s25.2>0)else false then decide (s25.2<1000000000000)else false then
    some (LO.again (w64 (s25.1 - 1),if w64 (10*s25.2)<1000000000000 then w64 (10*s25.2)else 1000000000000))
   else
    some (LO.out s25.2):Int×Int->Option (LO (Int×Int) (Int) _)) (j21,o24) fun o26=>
 bif (y1.toNat:Int)==45 then
  some (w64 (0 - o26))
 else
  some o26
theorem zgz(n:Nat)(x:Str):Le (WJ n x) (Z6 x):=by unfold WJ Z6;exact(.bind .rfl fun _=>(.join (.bind .rfl fun _=>(.bif .rfl .rfl)) fun _=>(.loop (fun _=>(.bind .rfl fun _=>(.bind .rfl fun _=>(.bif (.need (.need .rfl)) .rfl)))) fun _=>(.join (.bind .rfl fun _=>(.bif (.loop (fun _=>(.bind .rfl fun _=>(.bind .rfl fun _=>(.bif (.need (.need .rfl)) .rfl)))) fun _=> .rfl) .rfl)) fun _=>(.join (.bif (.bind .rfl fun _=>(.join (.bind .rfl fun _=>(.bif .rfl .rfl)) fun _=>(.loop (fun _=>(.bif (.bind .rfl fun _=> .rfl) .rfl)) fun _=>(.join (.bif .rfl .rfl) fun _=> .rfl)))) .rfl) fun _=>(.loop (fun _=>(.bif (.bind .rfl fun _=> .rfl) .rfl)) fun _=>(.loop (fun _=>(.bif .rfl .rfl)) fun _=>(.bif .rfl .rfl))))))))
def EJ(n:Nat)(x:Str×Int):Option (zf×Int):=
 ze (TJ n (x.1,x.2)) fun y1=>
 need (decide (0<=x.2)&&(decide (x.2<=y1.1)&&decide (y1.1<=(x.1.length:Int))))<|
 ze (WJ n (List.drop x.2.toNat (List.take y1.1.toNat x.1))) fun y2=>
 zS (X:=Int×zf×zf) (
   ze (ZL (x.1,y1.1)) fun y3=>
   bif y3 then
    ze (Ht n (x.1,y1.1)) fun y4=>
    some (LX.out (y4.2,(⟨0,[],0,[],false⟩:zf),(⟨12,[],y2,y4.1,y1.2⟩:zf)))
   else
    ze (zx (x.1,y1.1)) fun y5=>
    bif y5==37 then
     some (LX.out (w64 (y1.1+1),(⟨0,[],0,[],false⟩:zf),(⟨11,[],y2,[],false⟩:zf)))
    else
     some (LX.out (y1.1,(⟨0,[],0,[],false⟩:zf),(⟨10,[],y2,[],y1.2⟩:zf)))) fun j6=>
 some (j6.2.2,j6.1)
theorem zkb(n:Nat)(x:Str×Int):Le (EJ n x) (QL x):=by unfold EJ QL;exact(.bind (zid n _) fun _=>(.need (.bind (zgz n _) fun _=>(.join (.bind .rfl fun _=>(.bif (.bind (ND n _) fun _=> .rfl) (.bind .rfl fun _=>(.bif .rfl .rfl)))) fun _=> .rfl))))
def oC(n:Nat)(x:Str×Int):Option (zf×Int):=
 Mh n (fun(s1:Int)=>
   ze (zn (decide (s1<(x.1.length:Int))) (geti x.1 s1) 0) fun y2=>
   bif bif decide (s1<(x.1.length:Int))then(y2.toNat:Int) != 41 else false then
    ze (zP (x.1,s1)) fun y3=>
    bif y3 then
     ze (Qy n (x.1,s1)) fun y4=>
     some (LO.again y4.2)
    else
     some (LO.again (w64 (s1+1)))
   else
    some (LO.out s1):Int->Option (LO (Int) (Int) _)) x.2 fun o5=>
 some ((⟨8,[],0,[],false⟩:zf),if w64 (o5+1)<(x.1.length:Int)then w64 (o5+1)else(x.1.length:Int))
theorem BQ(n:Nat)(x:Str×Int):Le (oC n x) (Pk x):=by unfold oC Pk;exact(.loop (fun _=>(.bind .rfl fun _=>(.bif (.bind .rfl fun _=>(.bif (.bind (sD n _) fun _=> .rfl) .rfl)) .rfl))) fun _=> .rfl)
def XI(n:Nat)(x:Str×Int):Option (zf×Int):=
 ze (QZ n (x.1,x.2)) fun y1=>
 Mh n (fun(s2:Int×zf×zf)=>
   ze (zn (decide (s2.1<(x.1.length:Int))) (geti x.1 s2.1) 0) fun y3=>
   bif bif decide (s2.1<(x.1.length:Int))then(y3.toNat:Int) != 41 else false then
    ze (geti x.1 s2.1) fun y4=>
    ze (ZQ (y4.toNat:Int)) fun y5=>
    bif y5 then
     ze (QZ n (x.1,s2.1)) fun y6=>
     ze (zn (decide (y6<(x.1.length:Int))) (geti x.1 y6) 0) fun y7=>
     bif bif decide (y6<(x.1.length:Int))then(y7.toNat:Int) != 41 else false then
      ze (oC n (x.1,y6)) fun y8=>
      some (LO.ret (y8.1,y8.2))
     else
      some (LO.again (y6,s2.2.1,s2.2.2))
    else
     ze (zn (!(bif bif (y4.toNat:Int)==34 then true else(y4.toNat:Int)==39 then true else(y4.toNat:Int)==40)) (qI (y4.toNat:Int)) (default:Bool)) fun y9=>
     ze (zn ((y4.toNat:Int)==92&& !(bif bif bif (y4.toNat:Int)==34 then true else(y4.toNat:Int)==39 then true else(y4.toNat:Int)==40 then true else y9)) (zP (x.1,s2.1)) (default:Bool)) fun y10=>
     bif bif bif bif bif (y4.toNat:Int)==34 then true else(y4.toNat:Int)==39 then true else(y4.toNat:Int)==40 then true else y9 then true else bif (y4.toNat:Int)==92 then !y10 else false then
      ze (oC n (x.1,s2.1)) fun y11=>
      some (LO.ret (y11.1,y11.2))
     else
      bif (y4.toNat:Int)==92 then
       ze (Qy n (x.1,s2.1)) fun y12=>
       need (Uf s2.2.2.text.length y12.1.length)<|
       some (LO.again (y12.2,s2.2.1,(⟨s2.2.2.kind,s2.2.2.text++y12.1,s2.2.2.num,s2.2.2.unit,s2.2.2.flag⟩:zf)))
      else
       need (decide (0<=s2.1)&&(decide (s2.1<=w64 (s2.1+1))&&decide (w64 (s2.1+1)<=(x.1.length:Int))))<|
       need (Uf s2.2.2.text.length (List.drop s2.1.toNat (List.take (w64 (s2.1+1)).toNat x.1)).length)<|
       some (LO.again (w64 (s2.1+1),s2.2.1,(⟨s2.2.2.kind,s2.2.2.text++List.drop s2.1.toNat (List.take (w64 (s2.1+1)).toNat x.1),s2.2.2.num,s2.2.2.unit,s2.2.2.flag⟩:zf)))
   else
    some (LO.out (s2.1,s2.2.1,s2.2.2)):Int×zf×zf->Option (LO (Int×zf×zf) (Int×zf×zf) _)) (y1,(⟨0,[],0,[],false⟩:zf),(⟨7,[],0,[],false⟩:zf)) fun o13=>
 some (o13.2.2,if w64 (o13.1+1)<(x.1.length:Int)then w64 (o13.1+1)else(x.1.length:Int))
theorem P5(n:Nat)(x:Str×Int):Le (XI n x) (jo x):=by unfold XI jo;exact(.bind (lD n _) fun _=>(.loop (fun _=>(.bind .rfl fun _=>(.bif (.bind .rfl fun _=>(.bind .rfl fun _=>(.bif (.bind (lD n _) fun _=>(.bind .rfl fun _=>(.bif (.bind (BQ n _) fun _=> .rfl) .rfl))) (.bind .rfl fun _=>(.bind .rfl fun _=>(.bif (.bind (BQ n _) fun _=> .rfl) (.bif (.bind (sD n _) fun _=>(.need .rfl)) (.need (.need .rfl))))))))) .rfl))) fun _=> .rfl))
def lI(n:Nat)(x:Str×Int):Option (zf×Int):=
 ze (Ht n (x.1,x.2)) fun y1=>
 ze (zx (x.1,y1.2)) fun y2=>
 bif y2 != 40 then
  some ((⟨1,y1.1,0,[],false⟩:zf),y1.2)
 else
  zS (X:=zf) (
    ze (jI n (y1.1,[117,114,108])) fun y3=>
    bif y3 then
     ze (QZ n (x.1,w64 (y1.2+1))) fun y4=>
     ze (zx (x.1,y4)) fun y5=>
     bif bif y5 != 34 then y5 != 39 else false then
      ze (XI n (x.1,w64 (y1.2+1))) fun y6=>
      some (LX.ret (y6.1,y6.2))
     else
      some (LX.out (⟨0,[],0,[],false⟩:zf))
    else
     some (LX.out (⟨0,[],0,[],false⟩:zf))) fun j7=>
  some ((⟨2,y1.1,0,[],false⟩:zf),w64 (y1.2+1))
theorem V7(n:Nat)(x:Str×Int):Le (lI n x) (vo x):=by unfold lI vo;exact(.bind (ND n _) fun _=>(.bind .rfl fun _=>(.bif .rfl (.join (.bind (K9 n _) fun _=>(.bif (.bind (lD n _) fun _=>(.bind .rfl fun _=>(.bif (.bind (P5 n _) fun _=> .rfl) .rfl))) .rfl)) fun _=> .rfl))))
def yH(n:Nat)(x:Str×Int):Option (zf×Int):=
 ze (geti x.1 x.2) fun y1=>
 ze (ZQ (y1.toNat:Int)) fun y2=>
 bif y2 then
  ze (QZ n (x.1,x.2)) fun y3=>
  some ((⟨13,[],0,[],false⟩:zf),y3)
 else
  bif bif (y1.toNat:Int)==34 then true else(y1.toNat:Int)==39 then
   ze (oI n (x.1,x.2)) fun y4=>
   some (y4.1,y4.2)
  else
   ze (zn (decide (w64 (x.2+1)<(x.1.length:Int))&&(y1.toNat:Int)==35) (geti x.1 (w64 (x.2+1))) 0) fun y5=>
   ze (zn (decide (w64 (x.2+1)<(x.1.length:Int))&&(y1.toNat:Int)==35) (Qf (y5.toNat:Int)) (default:Bool)) fun y6=>
   ze (zn (!(bif decide (w64 (x.2+1)<(x.1.length:Int))then y6 else false)&&(y1.toNat:Int)==35) (zP (x.1,w64 (x.2+1))) (default:Bool)) fun y7=>
   bif bif (y1.toNat:Int)==35 then bif bif decide (w64 (x.2+1)<(x.1.length:Int))then y6 else false then true else y7 else false then
    ze (Ht n (x.1,w64 (x.2+1))) fun y8=>
    ze (ZL (x.1,w64 (x.2+1))) fun y9=>
    some ((⟨4,y8.1,0,[],y9⟩:zf),y8.2)
   else
    ze (QY (x.1,x.2)) fun y10=>
    bif y10 then
     ze (EJ n (x.1,x.2)) fun y11=>
     some (y11.1,y11.2)
    else
     ze (QS (x.1,x.2,[45,45,62])) fun y12=>
     bif y12 then
      some ((⟨15,[],0,[],false⟩:zf),w64 (x.2+3))
     else
      ze (QS (x.1,x.2,[60,33,45,45])) fun y13=>
      bif y13 then
       some ((⟨14,[],0,[],false⟩:zf),w64 (x.2+4))
      else
       ze (zn ((y1.toNat:Int)==64) (ZL (x.1,w64 (x.2+1))) (default:Bool)) fun y14=>
       bif bif (y1.toNat:Int)==64 then y14 else false then
        ze (Ht n (x.1,w64 (x.2+1))) fun y15=>
        some ((⟨3,y15.1,0,[],false⟩:zf),y15.2)
       else
        ze (ZL (x.1,x.2)) fun y16=>
        bif y16 then
         ze (lI n (x.1,x.2)) fun y17=>
         some (y17.1,y17.2)
        else
         ze (wo (y1.toNat:Int)) fun y18=>
         bif y18 != 0 then
          ze (wo (y1.toNat:Int)) fun y19=>
          some ((⟨y19,[],0,[],false⟩:zf),w64 (x.2+1))
         else
          need (decide (0<=x.2)&&(decide (x.2<=w64 (x.2+1))&&decide (w64 (x.2+1)<=(x.1.length:Int))))<|
          some ((⟨9,List.drop x.2.toNat (List.take (w64 (x.2+1)).toNat x.1),0,[],false⟩:zf),w64 (x.2+1))
theorem R5(n:Nat)(x:Str×Int):Le (yH n x) (Rk x):=by unfold yH Rk;exact(.bind .rfl fun _=>(.bind .rfl fun _=>(.bif (.bind (lD n _) fun _=> .rfl) (.bif (.bind (zlV n _) fun _=> .rfl) (.bind .rfl fun _=>(.bind .rfl fun _=>(.bind .rfl fun _=>(.bif (.bind (ND n _) fun _=>(.bind .rfl fun _=> .rfl)) (.bind .rfl fun _=>(.bif (.bind (zkb n _) fun _=> .rfl) (.bind .rfl fun _=>(.bif .rfl (.bind .rfl fun _=>(.bif .rfl (.bind .rfl fun _=>(.bif (.bind (ND n _) fun _=> .rfl) (.bind .rfl fun _=>(.bif (.bind (V7 n _) fun _=> .rfl) (.bind .rfl fun _=>(.bif (.bind .rfl fun _=> .rfl) (.need .rfl)))))))))))))))))))))
def iI(n:Nat)(x:Int):Option Bool:=
 ze (Z0 x) fun y1=>
 ze (yH n ([y1,(10:UInt8)],0)) fun y2=>
 some (bif bif bif bif decide (x>=1)then decide (x<=127)else false then x != 12 else false then x != 13 else false then y2.1.kind==9 else false)
theorem J9(n:Nat)(x:Int):Le (iI n x) (qN x):=by unfold iI qN;exact(.bind .rfl fun _=>(.bind (R5 n _) fun _=> .rfl))
end
end Go.Lv.VT
