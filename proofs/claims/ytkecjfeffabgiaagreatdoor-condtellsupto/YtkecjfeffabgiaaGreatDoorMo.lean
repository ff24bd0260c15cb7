/- Laws for the plain texts: loops that look for something; bytes. -/
import Derived.Test.YtkecjfeffabgiaaGreatDoorLf
import Derived.Test.YtkecjfeffabgiaaGreatDoorTx
set_option linter.unusedSimpArgs false
set_option linter.unusedVariables false
namespace Go.Lv.VT
abbrev big:Nat:=4194304
theorem Zr{i n:Nat}(h:i<n):decide ((i:Int)<(n:Int))=true:=Ga (by omega)
theorem ql(n:Nat):decide ((n:Int)<(n:Int))=false:=La (by omega)
theorem zX{i n:Nat}(h:i<n)(a:n<=big):w64 ((i:Int)+1)=((i+1:Nat):Int):=by rw[w64,Zx (by omega) (by grind)];omega
theorem Zd{α:Type}(b:Bool)(v d:α):zq b (some v) d=some (bif b then v else d):=by cases b<;>rfl
theorem En {α X R:Type} {step:Int->Option (LO Int X R)} {k:X->Option R} (l:List α) (q:α->Option R) (x:X)
  (hg: ∀(i:Nat) (h:i<l.length),step (i:Int)=some (match q l[i]with|some r=> .ret r|none=> .again ((i+1:Nat):Int)))
  (hf:step (l.length:Int)=some (.out x)):zS step 0 k=match l.findSome? q with|some r=>some r|none=>k x:=by
 have key: ∀(m:List α) (i:Nat),l.drop i=m->i<=l.length-> ∃n,Z7 step n (i:Int)=some (match m.findSome? q with|some r=> .ret r|none=> .out x):=by
  intro m
  induction m with
  |nil=>
   intro i hd hi;have:i=l.length:=by have:=Vd.1 hd;omega
   subst this;exact⟨1,by simp only[Z7,hf,List.findSome?_nil]⟩
  |cons v m ih=>
   intro i hd hi;have hlt:i<l.length:=by
    rcases ic i l.length with h|h
    ·exact h
    ·grind
   have hv:l[i]=v:=by have:=Cb hlt;rw[hd]at this;injection this with h1 _;exact h1.symm
   have hs:=hg i hlt;rw[hv]at hs;cases hq:q v with
   |some r=> rw[hq]at hs;exact⟨1,by simp only[Z7,hs,List.findSome?_cons,hq]⟩
   |none=> rw[hq]at hs;obtain⟨n,hn⟩:=ih (i+1) (by rw[Cb hlt]at hd;injection hd) (by omega);refine⟨n+1,?_⟩;simp only[Z7,hs,List.findSome?_cons,hq];exact hn
 obtain⟨n,hn⟩:=key l 0 rfl (by omega);replace hn:Z7 step n 0=_:=hn;rw[Pi (QY hn)];cases l.findSome? q<;>rfl
theorem Uo{α R:Type}(p:α->Bool)(r:R): ∀(l:List α),l.findSome? (fun v=>bif p v then none else some r)=bif l.all p then none else some r
 |[]=>rfl
 |v::l=>by
  rw[List.findSome?_cons,Xc];cases p v with
  |false=>rfl
  |true=>exact Uo p r l
theorem XJ{α R:Type}(p:α->Bool)(r:R): ∀(l:List α),l.findSome? (fun v=>bif p v then some r else none)=bif l.any p then some r else none
 |[]=>rfl
 |v::l=>by
  rw[List.findSome?_cons,List.any_cons];cases p v with
  |true=>rfl
  |false=>exact XJ p r l
def idxS{α:Type}(p:α->Bool):List α->Int
 |[]=> -1
 |v::l=>bif p v then 0 else bif decide (idxS p l<0)then -1 else idxS p l+1
theorem Vy{α:Type}(p:α->Bool): ∀(l:List α),decide (idxS p l>=0)=l.any p
 |[]=>rfl
 |v::l=>by
  have a:=Vy p l;rw[List.any_cons,idxS]
  grind
theorem L8{α:Type}(p:α->Bool): ∀(l:List α), -1<=idxS p l/\idxS p l<l.length
 |[]=>by simp[idxS]
 |v::l=>by
  have:=L8 p l;rw[idxS,Fa]
  grind
theorem mE {α:Type} {step:Int->Option (LO Int Unit Int)} (l:List α) (p:α->Bool) (hn:l.length<=big)
  (hg: ∀(i:Nat) (h:i<l.length),step (i:Int)=bif p l[i]then some (.ret (i:Int))else some (.again (w64 ((i:Int)+1))))
  (hf:step (l.length:Int)=some (.out ())):zS step 0 (fun _=>some (-1))=some (idxS p l):=by
 have key: ∀(m:List α) (i:Nat),l.drop i=m->i<=l.length-> ∃n,Z7 step n (i:Int)=some (bif decide (idxS p m<0)then .out ()else .ret ((i:Int)+idxS p m)):=by
  intro m
  induction m with
  |nil=>
   intro i hd hi;have:i=l.length:=by have:=Vd.1 hd;omega
   subst this;exact⟨1,by simp only[Z7,hf];rfl⟩
  |cons v m ih=>
   intro i hd hi;have hlt:i<l.length:=by
    rcases ic i l.length with h|h
    ·exact h
    ·grind
   have hv:l[i]=v:=by have:=Cb hlt;rw[hd]at this;injection this with h1 _;exact h1.symm
   have hs:=hg i hlt;rw[hv]at hs;cases hq:p v with
   |true=> rw[hq]at hs;refine⟨1,?_⟩;simp only[Z7,hs,Ca,idxS,hq];simp
   |false=>
    rw[hq,Ba,zX hlt hn]at hs;obtain⟨n,hn'⟩:=ih (i+1) (by rw[Cb hlt]at hd;injection hd) (by omega);refine⟨n+1,?_⟩;simp only[Z7,hs,idxS,hq,Ba]
    grind
 obtain⟨n,hn'⟩:=key l 0 rfl (by omega);replace hn':Z7 step n 0=_:=hn';rw[Pi (QY hn')];have hb:=L8 p l;by_cases h0:idxS p l<0
 ·rw[Ga h0];show some (-1)=_;congr 1;omega
 ·rw[La h0];simp_all
noncomputable section
set_option maxRecDepth 100000
def TG(n:Nat)(x:Str):Option Str:=
 need (decide (x.length<=maxLen))<|
 jh n (fun(s1:Int×List UInt8)=>
   bif decide (s1.1<(x.length:Int))then
    zP (X:=Int×List UInt8) (
      need (decide (0<=s1.1)&&decide (s1.1<(s1.2.length:Int)))<|
      za s1.2[s1.1.toNat]? fun y2=>
      bif bif decide (65<=(y2.toNat:Int))then decide ((y2.toNat:Int)<=90)else false then
       need (decide (0<=s1.1)&&decide (s1.1<(s1.2.length:Int)))<|
       za s1.2[s1.1.toNat]? fun y3=>
       need (decide (0<=s1.1)&&decide (s1.1<(s1.2.length:Int)))<|
       za s1.2[s1.1.toNat]? fun y4=>
       za (qb (ibOr IntKind.u8 (y3.toNat:Int) 32)) fun y5=>
       some (LX.out (s1.1,List.set s1.2 s1.1.toNat y5))
      else
       some (LX.out (s1.1,s1.2))) fun j6=>
    some (LO.again (w64 (j6.1+1),j6.2))
   else
    some (LO.out s1.2):Int×List UInt8->Option (LO (Int×List UInt8) (List UInt8) _)) (0,x) fun o7=>
 some o7
theorem iX(n:Nat)(x:Str):Le (TG n x) (Qj x):=by unfold TG Qj;exact(.need (.loop (fun _=>(.bif (.join (.need (.bind .rfl fun _=>(.bif (.need (.bind .rfl fun _=>(.need (.bind .rfl fun _=>(.bind .rfl fun _=> .rfl))))) .rfl))) fun _=> .rfl) .rfl)) fun _=> .rfl))
def yL(n:Nat)(x:Str×Str):Option Bool:=
 za (TG n x.1) fun y1=>
 za (TG n x.2) fun y2=>
 some (y1==y2)
theorem zqy(n:Nat)(x:Str×Str):Le (yL n x) (Kn x):=by unfold yL Kn;exact(.bind (iX n _) fun _=>(.bind (iX n _) fun _=> .rfl))
def uL(n:Nat)(x:List ze):Option Int:=
 za (geti x 0) fun y1=>
 bif bif y1.kind==9 then y1.text==[92]else false then
  za (ZN ((1,13),x)) fun y2=>
  bif !y2 then
   some 0
  else
   some 2
 else
  za (zq (y1.kind==2) (yL n (y1.text,[117,114,108])) (default:Bool)) fun y3=>
  bif bif y1.kind==2 then y3 else false then
   zP (X:=Int) (
     za (ZN ((1,13),x)) fun y4=>
     bif y4 then
      some (LX.out 2)
     else
      some (LX.out 1)) fun j5=>
   za (ZN ((j5,5),x)) fun y6=>
   bif !y6 then
    some 0
   else
    some (w64 (j5+1))
  else
   some 1
theorem zsN(n:Nat)(x:List ze):Le (uL n x) (QS x):=by unfold uL QS;exact(.bind .rfl fun _=>(.bif (.bind .rfl fun _=>(.bif .rfl .rfl)) (.bind (.cond (zqy n _)) fun _=>(.bif (.join (.bind .rfl fun _=>(.bif .rfl .rfl)) fun _=>(.bind .rfl fun _=>(.bif .rfl .rfl))) .rfl))))
def LV(n:Nat)(x:List ze):Option Int:=
 bif decide ((x.length:Int)>1500)then
  some 4
 else
  jh n (fun(s1:Int)=>
    bif decide (s1<(x.length:Int))then
     za (geti x s1) fun y2=>
     za (Gv y2) fun y3=>
     need (decide (0<=s1)&&decide (s1<=(x.length:Int))|| !(!(!y3)))<|
     za (zq (!(!y3)) (uL n (List.drop s1.toNat x)) (default:Int)) fun y4=>
     bif bif !y3 then true else y4==0 then
      some (LO.ret 8)
     else
      some (LO.again (w64 (s1+1)))
    else
     some (LO.out ()):Int->Option (LO (Int) (Unit) _)) 0 fun o5=>
  some 0
theorem sV(n:Nat)(x:List ze):Le (LV n x) (QR x):=by unfold LV QR;exact(.bif .rfl (.loop (fun _=>(.bif (.bind .rfl fun _=>(.bind .rfl fun _=>(.need (.bind (.cond (zsN n _)) fun _=>(.bif .rfl .rfl))))) .rfl)) fun _=> .rfl))
def PG(n:Nat)(x:Str):Option Str:=
 need (decide (x.length<=maxLen))<|
 jh n (fun(s1:Int×List UInt8)=>
   bif decide (s1.1<(s1.2.length:Int))then
    need (decide (0<=s1.1)&&decide (s1.1<(s1.2.length:Int)))<|
    za s1.2[s1.1.toNat]? fun y2=>
    za (qd (y2.toNat:Int)) fun y3=>
    need (decide (0<=s1.1)&&decide (s1.1<(s1.2.length:Int)))<|
    za s1.2[s1.1.toNat]? fun y4=>
    za (qb y3) fun y5=>
    some (LO.again (w64 (s1.1+1),List.set s1.2 s1.1.toNat y5))
   else
    some (LO.out s1.2):Int×List UInt8->Option (LO (Int×List UInt8) (List UInt8) _)) (0,x) fun o6=>
 some o6
theorem gX(n:Nat)(x:Str):Le (PG n x) (qK x):=by unfold PG qK;exact(.need (.loop (fun _=>(.bif (.need (.bind .rfl fun _=>(.bind .rfl fun _=>(.need (.bind .rfl fun _=>(.bind .rfl fun _=> .rfl)))))) .rfl)) fun _=> .rfl))
def Uw(n:Nat)(x:Str×Int):Option Int:=
 jh n (fun(s1:Int)=>
   za (zB (x.1,s1)) fun y2=>
   za (qA y2) fun y3=>
   bif y3 then
    some (LO.again (w64 (s1+1)))
   else
    some (LO.out s1):Int->Option (LO (Int) (Int) _)) x.2 fun o4=>
 some o4
theorem uG(n:Nat)(x:Str×Int):Le (Uw n x) (qE x):=by unfold Uw qE;exact(.loop (fun _=>(.bind .rfl fun _=>(.bind .rfl fun _=>(.bif .rfl .rfl)))) fun _=> .rfl)
def Pw(n:Nat)(x:Str×Int):Option (Str×Int):=
 bif decide (w64 (x.2+1)>=(x.1.length:Int))then
  za (mo ()) fun y1=>
  some (y1,w64 (x.2+1))
 else
  za (geti x.1 (w64 (x.2+1))) fun y2=>
  za (Bn (y2.toNat:Int)) fun y3=>
  bif decide (y3<0)then
   need (decide (0<=w64 (x.2+1))&&(decide (w64 (x.2+1)<=w64 (w64 (x.2+1)+1))&&decide (w64 (w64 (x.2+1)+1)<=(x.1.length:Int))))<|
   some (List.drop (w64 (x.2+1)).toNat (List.take (w64 (w64 (x.2+1)+1)).toNat x.1),w64 (w64 (x.2+1)+1))
  else
   jh n (fun(s4:Int×Int)=>
     za (zq (bif decide (s4.2<(x.1.length:Int))then decide (s4.2<w64 (w64 (x.2+1)+6))else false) (geti x.1 s4.2) 0) fun y5=>
     za (zq (bif decide (s4.2<(x.1.length:Int))then decide (s4.2<w64 (w64 (x.2+1)+6))else false) (Bn (y5.toNat:Int)) (default:Int)) fun y6=>
     bif bif bif decide (s4.2<(x.1.length:Int))then decide (s4.2<w64 (w64 (x.2+1)+6))else false then decide (y6>=0)else false then
      za (geti x.1 s4.2) fun y7=>
      za (Bn (y7.toNat:Int)) fun y8=>
      some (LO.again (w64 (w64 (16*s4.1)+y8),w64 (s4.2+1)))
     else
      some (LO.out (s4.1,s4.2)):Int×Int->Option (LO (Int×Int) (Int×Int) _)) (0,w64 (x.2+1)) fun o9=>
   zP (X:=Int) (
     za (zB (x.1,o9.2)) fun y10=>
     za (qA y10) fun y11=>
     bif y11 then
      some (LX.out (w64 (o9.2+1)))
     else
      some (LX.out o9.2)) fun j12=>
   za (Ov o9.1) fun y13=>
   some (y13,j12)
theorem sG(n:Nat)(x:Str×Int):Le (Pw n x) (ZB x):=by unfold Pw ZB;exact(.bif (.bind .rfl fun _=> .rfl) (.bind .rfl fun _=>(.bind .rfl fun _=>(.bif (.need .rfl) (.loop (fun _=>(.bind .rfl fun _=>(.bind .rfl fun _=>(.bif (.bind .rfl fun _=>(.bind .rfl fun _=> .rfl)) .rfl)))) fun _=>(.join (.bind .rfl fun _=>(.bind .rfl fun _=>(.bif .rfl .rfl))) fun _=>(.bind .rfl fun _=> .rfl)))))))
def OM(n:Nat)(x:Str×Int):Option (ze×Int):=
 za (geti x.1 x.2) fun y1=>
 jh n (fun(s2:Int×ze×ze)=>
   bif decide (s2.1<(x.1.length:Int))then
    za (geti x.1 s2.1) fun y3=>
    bif (y3.toNat:Int)==(y1.toNat:Int)then
     some (LO.ret (s2.2.2,w64 (s2.1+1)))
    else
     za (geti x.1 s2.1) fun y4=>
     bif (y4.toNat:Int)==10 then
      some (LO.ret ((⟨6,[],0,[],false⟩:ze),s2.1))
     else
      za (geti x.1 s2.1) fun y5=>
      bif bif (y5.toNat:Int)==92 then w64 (s2.1+1)==(x.1.length:Int)else false then
       some (LO.again (w64 (s2.1+1),s2.2.1,s2.2.2))
      else
       za (geti x.1 s2.1) fun y6=>
       za (zq ((y6.toNat:Int)==92) (geti x.1 (w64 (s2.1+1))) 0) fun y7=>
       bif bif (y6.toNat:Int)==92 then(y7.toNat:Int)==10 else false then
        some (LO.again (w64 (s2.1+2),s2.2.1,s2.2.2))
       else
        za (geti x.1 s2.1) fun y8=>
        bif (y8.toNat:Int)==92 then
         za (Pw n (x.1,s2.1)) fun y9=>
         need (zO s2.2.2.text.length y9.1.length)<|
         some (LO.again (y9.2,s2.2.1,(⟨s2.2.2.kind,s2.2.2.text++y9.1,s2.2.2.num,s2.2.2.unit,s2.2.2.flag⟩:ze)))
        else
         need (decide (0<=s2.1)&&(decide (s2.1<=w64 (s2.1+1))&&decide (w64 (s2.1+1)<=(x.1.length:Int))))<|
         need (zO s2.2.2.text.length (List.drop s2.1.toNat (List.take (w64 (s2.1+1)).toNat x.1)).length)<|
         some (LO.again (w64 (s2.1+1),s2.2.1,(⟨s2.2.2.kind,s2.2.2.text++List.drop s2.1.toNat (List.take (w64 (s2.1+1)).toNat x.1),s2.2.2.num,s2.2.2.unit,s2.2.2.flag⟩:ze)))
   else
    some (LO.out (s2.1,s2.2.1,s2.2.2)):Int×ze×ze->Option (LO (Int×ze×ze) (Int×ze×ze) _)) (w64 (x.2+1),(⟨0,[],0,[],false⟩:ze),(⟨5,[],0,[],false⟩:ze)) fun o10=>
 some (o10.2.2,o10.1)
theorem zpf(n:Nat)(x:Str×Int):Le (OM n x) (jr x):=by unfold OM jr;exact(.bind .rfl fun _=>(.loop (fun _=>(.bif (.bind .rfl fun _=>(.bif .rfl (.bind .rfl fun _=>(.bif .rfl (.bind .rfl fun _=>(.bif .rfl (.bind .rfl fun _=>(.bind .rfl fun _=>(.bif .rfl (.bind .rfl fun _=>(.bif (.bind (sG n _) fun _=>(.need .rfl)) (.need (.need .rfl))))))))))))) .rfl)) fun _=> .rfl))
def Jw(n:Nat)(x:Str×Int):Option (Str×Int):=
 jh n (fun(s1:Int×Str)=>
   za (zq (decide (s1.1<(x.1.length:Int))) (geti x.1 s1.1) 0) fun y2=>
   za (zq (decide (s1.1<(x.1.length:Int))) (ZP (y2.toNat:Int)) (default:Bool)) fun y3=>
   bif bif decide (s1.1<(x.1.length:Int))then y3 else false then
    need (decide (0<=s1.1)&&(decide (s1.1<=w64 (s1.1+1))&&decide (w64 (s1.1+1)<=(x.1.length:Int))))<|
    need (zO s1.2.length (List.drop s1.1.toNat (List.take (w64 (s1.1+1)).toNat x.1)).length)<|
    some (LO.again (w64 (s1.1+1),s1.2++List.drop s1.1.toNat (List.take (w64 (s1.1+1)).toNat x.1)))
   else
    za (zq (decide (s1.1<(x.1.length:Int))) (Zm (x.1,s1.1)) (default:Bool)) fun y4=>
    bif bif decide (s1.1<(x.1.length:Int))then y4 else false then
     za (Pw n (x.1,s1.1)) fun y5=>
     need (zO s1.2.length y5.1.length)<|
     some (LO.again (y5.2,s1.2++y5.1))
    else
     some (LO.ret (s1.2,s1.1)):Int×Str->Option (LO (Int×Str) (Unit) _)) (x.2,[]) fun o6=>
 none
theorem iG(n:Nat)(x:Str×Int):Le (Jw n x) (Qk x):=by unfold Jw Qk;exact(.loop (fun _=>(.bind .rfl fun _=>(.bind .rfl fun _=>(.bif (.need (.need .rfl)) (.bind .rfl fun _=>(.bif (.bind (sG n _) fun _=>(.need .rfl)) .rfl)))))) fun _=> .none)
def iA(n:Nat)(x:Str×Int):Option Int:=
 jh n (fun(s1:Int)=>
   za (zB (x.1,s1)) fun y2=>
   za (zC y2) fun y3=>
   bif y3 then
    some (LO.again (w64 (s1+1)))
   else
    some (LO.out s1):Int->Option (LO (Int) (Int) _)) x.2 fun o4=>
 some o4
theorem rM(n:Nat)(x:Str×Int):Le (iA n x) (Qt x):=by unfold iA Qt;exact(.loop (fun _=>(.bind .rfl fun _=>(.bind .rfl fun _=>(.bif .rfl .rfl)))) fun _=> .rfl)
def wM(n:Nat)(x:Str×Int):Option (Int×Bool):=
 zP (X:=Int) (
   za (zB (x.1,x.2)) fun y1=>
   bif bif y1==43 then true else y1==45 then
    some (LX.out (w64 (x.2+1)))
   else
    some (LX.out x.2)) fun j2=>
 za (iA n (x.1,j2)) fun y3=>
 zP (X:=Int×Bool) (
   za (zB (x.1,y3)) fun y4=>
   za (zq (y4==46) (zB (x.1,w64 (y3+1))) (default:Int)) fun y5=>
   za (zq (y4==46) (zC y5) (default:Bool)) fun y6=>
   bif bif y4==46 then y6 else false then
    za (iA n (x.1,w64 (y3+1))) fun y7=>
    some (LX.out (y7,false))
   else
    some (LX.out (y3,true))) fun j8=>
 zP (X:=Int×Bool) (
   za (zB (x.1,j8.1)) fun y9=>
   bif bif y9==101 then true else y9==69 then
    zP (X:=Int×Bool×Int) (
      za (zB (x.1,w64 (j8.1+1))) fun y10=>
      bif bif y10==43 then true else y10==45 then
       some (LX.out (j8.1,j8.2,w64 (w64 (j8.1+1)+1)))
      else
       some (LX.out (j8.1,j8.2,w64 (j8.1+1)))) fun j11=>
    za (zB (x.1,j11.2.2)) fun y12=>
    za (zC y12) fun y13=>
    bif y13 then
     za (iA n (x.1,j11.2.2)) fun y14=>
     some (LX.out (y14,false))
    else
     some (LX.out (j11.1,j11.2.1))
   else
    some (LX.out (j8.1,j8.2))) fun j15=>
 some (j15.1,j15.2)
theorem zlo(n:Nat)(x:Str×Int):Le (wM n x) (QH x):=by unfold wM QH;exact(.join (.bind .rfl fun _=>(.bif .rfl .rfl)) fun _=>(.bind (rM n _) fun _=>(.join (.bind .rfl fun _=>(.bind .rfl fun _=>(.bind .rfl fun _=>(.bif (.bind (rM n _) fun _=> .rfl) .rfl)))) fun _=>(.join (.bind .rfl fun _=>(.bif (.join (.bind .rfl fun _=>(.bif .rfl .rfl)) fun _=>(.bind .rfl fun _=>(.bind .rfl fun _=>(.bif (.bind (rM n _) fun _=> .rfl) .rfl)))) .rfl)) fun _=> .rfl))))
def DN(n:Nat)(x:Str):Option Int:=
 za (geti x 0) fun y1=>
 zP (X:=Str×Int×Int) (
   za (geti x 0) fun y2=>
   bif bif (y2.toNat:Int)==43 then true else(y1.toNat:Int)==45 then
    some (LX.out ([],3,1))
   else
    some (LX.out ([],3,0))) fun j3=>
 jh n (fun(s4:Str×Int)=>
   za (zB (x,s4.2)) fun y5=>
   za (zC y5) fun y6=>
   bif y6 then
    need (decide (0<=s4.2)&&(decide (s4.2<=w64 (s4.2+1))&&decide (w64 (s4.2+1)<=(x.length:Int))))<|
    need (zO s4.1.length (List.drop s4.2.toNat (List.take (w64 (s4.2+1)).toNat x)).length)<|
    some (LO.again (s4.1++List.drop s4.2.toNat (List.take (w64 (s4.2+1)).toNat x),w64 (s4.2+1)))
   else
    some (LO.out (s4.1,s4.2)):Str×Int->Option (LO (Str×Int) (Str×Int) _)) (j3.1,j3.2.2) fun o7=>
 zP (X:=Str×Int×Int) (
   za (zB (x,o7.2)) fun y8=>
   bif y8==46 then
    jh n (fun(s9:Str×Int×Int)=>
      za (zB (x,s9.2.2)) fun y10=>
      za (zC y10) fun y11=>
      bif y11 then
       need (decide (0<=s9.2.2)&&(decide (s9.2.2<=w64 (s9.2.2+1))&&decide (w64 (s9.2.2+1)<=(x.length:Int))))<|
       need (zO s9.1.length (List.drop s9.2.2.toNat (List.take (w64 (s9.2.2+1)).toNat x)).length)<|
       some (LO.again (s9.1++List.drop s9.2.2.toNat (List.take (w64 (s9.2.2+1)).toNat x),w64 (s9.2.1 - 1),w64 (s9.2.2+1)))
      else
       some (LO.out (s9.1,s9.2.1,s9.2.2)):Str×Int×Int->Option (LO (Str×Int×Int) (Str×Int×Int) _)) (o7.1,j3.2.1,w64 (o7.2+1)) fun o12=>
    some (LX.out (o12.1,o12.2.1,o12.2.2))
   else
    some (LX.out (o7.1,j3.2.1,o7.2))) fun j13=>
 zP (X:=Int) (
   bif decide (j13.2.2<(x.length:Int))then
    za (geti x (w64 (j13.2.2+1))) fun y14=>
    zP (X:=Int×Int) (
      za (geti x (w64 (j13.2.2+1))) fun y15=>
      bif bif (y15.toNat:Int)==43 then true else(y14.toNat:Int)==45 then
       some (LX.out (j13.2.1,w64 (w64 (j13.2.2+1)+1)))
      else
       some (LX.out (j13.2.1,w64 (j13.2.2+1)))) fun j16=>
    jh n (fun(s17:Int×Int)=>
      bif decide (s17.1<(x.length:Int))then
       za (geti x s17.1) fun y18=>
       some (LO.again (w64 (s17.1+1),if w64 (w64 (10*s17.2)+w64 (wu8 ((y18.toNat:Int) - 48)))<10000 then w64 (w64 (10*s17.2)+w64 (wu8 ((y18.toNat:Int) - 48)))else 10000))
      else
       some (LO.out s17.2):Int×Int->Option (LO (Int×Int) (Int) _)) (j16.2,0) fun o19=>
    zP (X:=Int×Int) (
      bif (y14.toNat:Int)==45 then
       some (LX.out (j16.1,w64 (0 - o19)))
      else
       some (LX.out (j16.1,o19))) fun j20=>
    some (LX.out (w64 (j20.1+j20.2)))
   else
    some (LX.out j13.2.1)) fun j21=>
 jh n (fun(s22:Int×Int)=>
   bif bif decide (s22.2<w64 ((j13.1.length:Int)+j21))then decide (s22.2<(j13.1.length:Int))else false then
    za (geti j13.1 s22.2) fun y23=>
    some (LO.again (if w64 (w64 (10*s22.1)+w64 (wu8 ((y23.toNat:Int) - 48)))<1000000000000 then w64 (w64 (10*s22.1)+w64 (wu8 ((y23.toNat:Int) - 48)))else 1000000000000,w64 (s22.2+1)))
   else
    some (LO.out s22.1):Int×Int->Option (LO (Int×Int) (Int) _)) (0,0) fun o24=>
 jh n (fun(s25:Int×Int)=>
   bif bif bif decide (s25.1>0)then decide (s25.2>0)else false then decide (s25.2<1000000000000)else false then
    some (LO.again (w64 (s25.1 - 1),if w64 (10*s25.2)<1000000000000 then w64 (10*s25.2)else 1000000000000))
   else
    some (LO.out s25.2):Int×Int->Option (LO (Int×Int) (Int) _)) (j21,o24) fun o26=>
 bif (y1.toNat:Int)==45 then
  some (w64 (0 - o26))
 else
  some o26
theorem zjg(n:Nat)(x:Str):Le (DN n x) (qL x):=by unfold DN qL;exact(.bind .rfl fun _=>(.join (.bind .rfl fun _=>(.bif .rfl .rfl)) fun _=>(.loop (fun _=>(.bind .rfl fun _=>(.bind .rfl fun _=>(.bif (.need (.need .rfl)) .rfl)))) fun _=>(.join (.bind .rfl fun _=>(.bif (.loop (fun _=>(.bind .rfl fun _=>(.bind .rfl fun _=>(.bif (.need (.need .rfl)) .rfl)))) fun _=> .rfl) .rfl)) fun _=>(.join (.bif (.bind .rfl fun _=>(.join (.bind .rfl fun _=>(.bif .rfl .rfl)) fun _=>(.loop (fun _=>(.bif (.bind .rfl fun _=> .rfl) .rfl)) fun _=>(.join (.bif .rfl .rfl) fun _=> .rfl)))) .rfl) fun _=>(.loop (fun _=>(.bif (.bind .rfl fun _=> .rfl) .rfl)) fun _=>(.loop (fun _=>(.bif .rfl .rfl)) fun _=>(.bif .rfl .rfl))))))))
def kM(n:Nat)(x:Str×Int):Option (ze×Int):=
 za (wM n (x.1,x.2)) fun y1=>
 need (decide (0<=x.2)&&(decide (x.2<=y1.1)&&decide (y1.1<=(x.1.length:Int))))<|
 za (DN n (List.drop x.2.toNat (List.take y1.1.toNat x.1))) fun y2=>
 zP (X:=Int×ze×ze) (
   za (qg (x.1,y1.1)) fun y3=>
   bif y3 then
    za (Jw n (x.1,y1.1)) fun y4=>
    some (LX.out (y4.2,(⟨0,[],0,[],false⟩:ze),(⟨12,[],y2,y4.1,y1.2⟩:ze)))
   else
    za (zB (x.1,y1.1)) fun y5=>
    bif y5==37 then
     some (LX.out (w64 (y1.1+1),(⟨0,[],0,[],false⟩:ze),(⟨11,[],y2,[],false⟩:ze)))
    else
     some (LX.out (y1.1,(⟨0,[],0,[],false⟩:ze),(⟨10,[],y2,[],y1.2⟩:ze)))) fun j6=>
 some (j6.2.2,j6.1)
theorem znz(n:Nat)(x:Str×Int):Le (kM n x) (Gs x):=by unfold kM Gs;exact(.bind (zlo n _) fun _=>(.need (.bind (zjg n _) fun _=>(.join (.bind .rfl fun _=>(.bif (.bind (iG n _) fun _=> .rfl) (.bind .rfl fun _=>(.bif .rfl .rfl)))) fun _=> .rfl))))
def vL(n:Nat)(x:Str×Str):Option Bool:=
 za (PG n x.1) fun y1=>
 za (PG n x.2) fun y2=>
 some (y1==y2)
theorem zqz(n:Nat)(x:Str×Str):Le (vL n x) (qJ x):=by unfold vL qJ;exact(.bind (gX n _) fun _=>(.bind (gX n _) fun _=> .rfl))
def lF(n:Nat)(x:Str×Int):Option (ze×Int):=
 jh n (fun(s1:Int)=>
   za (zq (decide (s1<(x.1.length:Int))) (geti x.1 s1) 0) fun y2=>
   bif bif decide (s1<(x.1.length:Int))then(y2.toNat:Int) != 41 else false then
    za (Zm (x.1,s1)) fun y3=>
    bif y3 then
     za (Pw n (x.1,s1)) fun y4=>
     some (LO.again y4.2)
    else
     some (LO.again (w64 (s1+1)))
   else
    some (LO.out s1):Int->Option (LO (Int) (Int) _)) x.2 fun o5=>
 some ((⟨8,[],0,[],false⟩:ze),if w64 (o5+1)<(x.1.length:Int)then w64 (o5+1)else(x.1.length:Int))
theorem KV(n:Nat)(x:Str×Int):Le (lF n x) (Ol x):=by unfold lF Ol;exact(.loop (fun _=>(.bind .rfl fun _=>(.bif (.bind .rfl fun _=>(.bif (.bind (sG n _) fun _=> .rfl) .rfl)) .rfl))) fun _=> .rfl)
def PL(n:Nat)(x:Str×Int):Option (ze×Int):=
 za (Uw n (x.1,x.2)) fun y1=>
 jh n (fun(s2:Int×ze×ze)=>
   za (zq (decide (s2.1<(x.1.length:Int))) (geti x.1 s2.1) 0) fun y3=>
   bif bif decide (s2.1<(x.1.length:Int))then(y3.toNat:Int) != 41 else false then
    za (geti x.1 s2.1) fun y4=>
    za (qA (y4.toNat:Int)) fun y5=>
    bif y5 then
     za (Uw n (x.1,s2.1)) fun y6=>
     za (zq (decide (y6<(x.1.length:Int))) (geti x.1 y6) 0) fun y7=>
     bif bif decide (y6<(x.1.length:Int))then(y7.toNat:Int) != 41 else false then
      za (lF n (x.1,y6)) fun y8=>
      some (LO.ret (y8.1,y8.2))
     else
      some (LO.again (y6,s2.2.1,s2.2.2))
    else
     za (zq (!(bif bif (y4.toNat:Int)==34 then true else(y4.toNat:Int)==39 then true else(y4.toNat:Int)==40)) (Qy (y4.toNat:Int)) (default:Bool)) fun y9=>
     za (zq ((y4.toNat:Int)==92&& !(bif bif bif (y4.toNat:Int)==34 then true else(y4.toNat:Int)==39 then true else(y4.toNat:Int)==40 then true else y9)) (Zm (x.1,s2.1)) (default:Bool)) fun y10=>
     bif bif bif bif bif (y4.toNat:Int)==34 then true else(y4.toNat:Int)==39 then true else(y4.toNat:Int)==40 then true else y9 then true else bif (y4.toNat:Int)==92 then !y10 else false then
      za (lF n (x.1,s2.1)) fun y11=>
      some (LO.ret (y11.1,y11.2))
     else
      bif (y4.toNat:Int)==92 then
       za (Pw n (x.1,s2.1)) fun y12=>
       need (zO s2.2.2.text.length y12.1.length)<|
       some (LO.again (y12.2,s2.2.1,(⟨s2.2.2.kind,s2.2.2.text++y12.1,s2.2.2.num,s2.2.2.unit,s2.2.2.flag⟩:ze)))
      else
       need (decide (0<=s2.1)&&(decide (s2.1<=w64 (s2.1+1))&&decide (w64 (s2.1+1)<=(x.1.length:Int))))<|
       need (zO s2.2.2.text.length (List.drop s2.1.toNat (List.take (w64 (s2.1+1)).toNat x.1)).length)<|
       some (LO.again (w64 (s2.1+1),s2.2.1,(⟨s2.2.2.kind,s2.2.2.text++List.drop s2.1.toNat (List.take (w64 (s2.1+1)).toNat x.1),s2.2.2.num,s2.2.2.unit,s2.2.2.flag⟩:ze)))
   else
    some (LO.out (s2.1,s2.2.1,s2.2.2)):Int×ze×ze->Option (LO (Int×ze×ze) (Int×ze×ze) _)) (y1,(⟨0,[],0,[],false⟩:ze),(⟨7,[],0,[],false⟩:ze)) fun o13=>
 some (o13.2.2,if w64 (o13.1+1)<(x.1.length:Int)then w64 (o13.1+1)else(x.1.length:Int))
theorem zvq(n:Nat)(x:Str×Int):Le (PL n x) (pq x):=by unfold PL pq;exact(.bind (uG n _) fun _=>(.loop (fun _=>(.bind .rfl fun _=>(.bif (.bind .rfl fun _=>(.bind .rfl fun _=>(.bif (.bind (uG n _) fun _=>(.bind .rfl fun _=>(.bif (.bind (KV n _) fun _=> .rfl) .rfl))) (.bind .rfl fun _=>(.bind .rfl fun _=>(.bif (.bind (KV n _) fun _=> .rfl) (.bif (.bind (sG n _) fun _=>(.need .rfl)) (.need (.need .rfl))))))))) .rfl))) fun _=> .rfl))
def oL(n:Nat)(x:Str×Int):Option (ze×Int):=
 za (Jw n (x.1,x.2)) fun y1=>
 za (zB (x.1,y1.2)) fun y2=>
 bif y2 != 40 then
  some ((⟨1,y1.1,0,[],false⟩:ze),y1.2)
 else
  zP (X:=ze) (
    za (vL n (y1.1,[117,114,108])) fun y3=>
    bif y3 then
     za (Uw n (x.1,w64 (y1.2+1))) fun y4=>
     za (zB (x.1,y4)) fun y5=>
     bif bif y5 != 34 then y5 != 39 else false then
      za (PL n (x.1,w64 (y1.2+1))) fun y6=>
      some (LX.ret (y6.1,y6.2))
     else
      some (LX.out (⟨0,[],0,[],false⟩:ze))
    else
     some (LX.out (⟨0,[],0,[],false⟩:ze))) fun j7=>
  some ((⟨2,y1.1,0,[],false⟩:ze),w64 (y1.2+1))
theorem zsO(n:Nat)(x:Str×Int):Le (oL n x) (Lr x):=by unfold oL Lr;exact(.bind (iG n _) fun _=>(.bind .rfl fun _=>(.bif .rfl (.join (.bind (zqz n _) fun _=>(.bif (.bind (uG n _) fun _=>(.bind .rfl fun _=>(.bif (.bind (zvq n _) fun _=> .rfl) .rfl))) .rfl)) fun _=> .rfl))))
def RL(n:Nat)(x:Str×Int):Option (ze×Int):=
 za (geti x.1 x.2) fun y1=>
 za (qA (y1.toNat:Int)) fun y2=>
 bif y2 then
  za (Uw n (x.1,x.2)) fun y3=>
  some ((⟨13,[],0,[],false⟩:ze),y3)
 else
  bif bif (y1.toNat:Int)==34 then true else(y1.toNat:Int)==39 then
   za (OM n (x.1,x.2)) fun y4=>
   some (y4.1,y4.2)
  else
   za (zq (decide (w64 (x.2+1)<(x.1.length:Int))&&(y1.toNat:Int)==35) (geti x.1 (w64 (x.2+1))) 0) fun y5=>
   za (zq (decide (w64 (x.2+1)<(x.1.length:Int))&&(y1.toNat:Int)==35) (ZP (y5.toNat:Int)) (default:Bool)) fun y6=>
   za (zq (!(bif decide (w64 (x.2+1)<(x.1.length:Int))then y6 else false)&&(y1.toNat:Int)==35) (Zm (x.1,w64 (x.2+1))) (default:Bool)) fun y7=>
   bif bif (y1.toNat:Int)==35 then bif bif decide (w64 (x.2+1)<(x.1.length:Int))then y6 else false then true else y7 else false then
    za (Jw n (x.1,w64 (x.2+1))) fun y8=>
    za (qg (x.1,w64 (x.2+1))) fun y9=>
    some ((⟨4,y8.1,0,[],y9⟩:ze),y8.2)
   else
    za (Rw (x.1,x.2)) fun y10=>
    bif y10 then
     za (kM n (x.1,x.2)) fun y11=>
     some (y11.1,y11.2)
    else
     za (aj (x.1,x.2,[45,45,62])) fun y12=>
     bif y12 then
      some ((⟨15,[],0,[],false⟩:ze),w64 (x.2+3))
     else
      za (aj (x.1,x.2,[60,33,45,45])) fun y13=>
      bif y13 then
       some ((⟨14,[],0,[],false⟩:ze),w64 (x.2+4))
      else
       za (zq ((y1.toNat:Int)==64) (qg (x.1,w64 (x.2+1))) (default:Bool)) fun y14=>
       bif bif (y1.toNat:Int)==64 then y14 else false then
        za (Jw n (x.1,w64 (x.2+1))) fun y15=>
        some ((⟨3,y15.1,0,[],false⟩:ze),y15.2)
       else
        za (qg (x.1,x.2)) fun y16=>
        bif y16 then
         za (oL n (x.1,x.2)) fun y17=>
         some (y17.1,y17.2)
        else
         za (Mr (y1.toNat:Int)) fun y18=>
         bif y18 != 0 then
          za (Mr (y1.toNat:Int)) fun y19=>
          some ((⟨y19,[],0,[],false⟩:ze),w64 (x.2+1))
         else
          need (decide (0<=x.2)&&(decide (x.2<=w64 (x.2+1))&&decide (w64 (x.2+1)<=(x.1.length:Int))))<|
          some ((⟨9,List.drop x.2.toNat (List.take (w64 (x.2+1)).toNat x.1),0,[],false⟩:ze),w64 (x.2+1))
theorem zvp(n:Nat)(x:Str×Int):Le (RL n x) (Rl x):=by unfold RL Rl;exact(.bind .rfl fun _=>(.bind .rfl fun _=>(.bif (.bind (uG n _) fun _=> .rfl) (.bif (.bind (zpf n _) fun _=> .rfl) (.bind .rfl fun _=>(.bind .rfl fun _=>(.bind .rfl fun _=>(.bif (.bind (iG n _) fun _=>(.bind .rfl fun _=> .rfl)) (.bind .rfl fun _=>(.bif (.bind (znz n _) fun _=> .rfl) (.bind .rfl fun _=>(.bif .rfl (.bind .rfl fun _=>(.bif .rfl (.bind .rfl fun _=>(.bif (.bind (iG n _) fun _=> .rfl) (.bind .rfl fun _=>(.bif (.bind (zsO n _) fun _=> .rfl) (.bind .rfl fun _=>(.bif (.bind .rfl fun _=> .rfl) (.need .rfl)))))))))))))))))))))
def NM(n:Nat)(x:Int):Option Bool:=
 za (qb x) fun y1=>
 za (RL n ([y1,(10:UInt8)],0)) fun y2=>
 some (bif bif bif bif decide (x>=1)then decide (x<=127)else false then x != 12 else false then x != 13 else false then y2.1.kind==9 else false)
theorem zqA(n:Nat)(x:Int):Le (NM n x) (QI x):=by unfold NM QI;exact(.bind .rfl fun _=>(.bind (zvp n _) fun _=> .rfl))
end
end Go.Lv.VT
