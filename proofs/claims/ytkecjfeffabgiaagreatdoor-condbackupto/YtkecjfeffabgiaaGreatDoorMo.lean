/- Laws for the plain texts: loops that look for something; bytes. -/
import Derived.Test.YtkecjfeffabgiaaGreatDoorLf
import Derived.Test.YtkecjfeffabgiaaGreatDoorTx
set_option linter.unusedSimpArgs false
set_option linter.unusedVariables false
namespace Go.Lv.VT
abbrev big:Nat:=4194304
theorem ZF{i n:Nat}(h:i<n):decide ((i:Int)<(n:Int))=true:=Ga (by omega)
theorem qA(n:Nat):decide ((n:Int)<(n:Int))=false:=Db (by omega)
theorem Zp{i n:Nat}(h:i<n)(a:n<=big):w64 ((i:Int)+1)=((i+1:Nat):Int):=by rw[w64,Zz (by omega) (by grind)];omega
theorem Zr{α:Type}(b:Bool)(v d:α):zA b (some v) d=some (bif b then v else d):=by cases b<;>rfl
theorem MG {α X R:Type} {step:Int->Option (LO Int X R)} {k:X->Option R} (l:List α) (q:α->Option R) (x:X)
  (hg: ∀(i:Nat) (h:i<l.length),step (i:Int)=some (match q l[i]with|some r=> .ret r|none=> .again ((i+1:Nat):Int)))
  (hf:step (l.length:Int)=some (.out x)):Zj step 0 k=match l.findSome? q with|some r=>some r|none=>k x:=by
 have key: ∀(m:List α) (i:Nat),l.drop i=m->i<=l.length-> ∃n,ZT step n (i:Int)=some (match m.findSome? q with|some r=> .ret r|none=> .out x):=by
  intro m
  induction m with
  |nil=>
   intro i hd hi;have:i=l.length:=by have:=Be.1 hd;omega
   subst this;exact⟨1,by simp only[ZT,hf,List.findSome?_nil]⟩
  |cons v m ih=>
   intro i hd hi;have hlt:i<l.length:=by
    rcases Xd i l.length with h|h
    ·exact h
    ·grind
   have hv:l[i]=v:=by have:=Lb hlt;rw[hd]at this;injection this with h1 _;exact h1.symm
   have hs:=hg i hlt;rw[hv]at hs;cases hq:q v with
   |some r=> rw[hq]at hs;exact⟨1,by simp only[ZT,hs,List.findSome?_cons,hq]⟩
   |none=> rw[hq]at hs;obtain⟨n,hn⟩:=ih (i+1) (by rw[Lb hlt]at hd;injection hd) (by omega);refine⟨n+1,?_⟩;simp only[ZT,hs,List.findSome?_cons,hq];exact hn
 obtain⟨n,hn⟩:=key l 0 rfl (by omega);replace hn:ZT step n 0=_:=hn;rw[Qd (Q4 hn)];cases l.findSome? q<;>rfl
theorem GA{α R:Type}(p:α->Bool)(r:R): ∀(l:List α),l.findSome? (fun v=>bif p v then none else some r)=bif l.all p then none else some r
 |[]=>rfl
 |v::l=>by
  rw[List.findSome?_cons,Od];cases p v with
  |false=>rfl
  |true=>exact GA p r l
def idxS{α:Type}(p:α->Bool):List α->Int
 |[]=> -1
 |v::l=>bif p v then 0 else bif decide (idxS p l<0)then -1 else idxS p l+1
theorem RA{α:Type}(p:α->Bool): ∀(l:List α),decide (idxS p l>=0)=l.any p
 |[]=>rfl
 |v::l=>by
  have a:=RA p l;rw[List.any_cons,idxS]
  grind
theorem zAS{α:Type}(p:α->Bool): ∀(l:List α), -1<=idxS p l/\idxS p l<l.length
 |[]=>by simp[idxS]
 |v::l=>by
  have:=zAS p l;rw[idxS,Fa]
  grind
theorem BF {α:Type} {step:Int->Option (LO Int Unit Int)} (l:List α) (p:α->Bool) (hn:l.length<=big)
  (hg: ∀(i:Nat) (h:i<l.length),step (i:Int)=bif p l[i]then some (.ret (i:Int))else some (.again (w64 ((i:Int)+1))))
  (hf:step (l.length:Int)=some (.out ())):Zj step 0 (fun _=>some (-1))=some (idxS p l):=by
 have key: ∀(m:List α) (i:Nat),l.drop i=m->i<=l.length-> ∃n,ZT step n (i:Int)=some (bif decide (idxS p m<0)then .out ()else .ret ((i:Int)+idxS p m)):=by
  intro m
  induction m with
  |nil=>
   intro i hd hi;have:i=l.length:=by have:=Be.1 hd;omega
   subst this;exact⟨1,by simp only[ZT,hf];rfl⟩
  |cons v m ih=>
   intro i hd hi;have hlt:i<l.length:=by
    rcases Xd i l.length with h|h
    ·exact h
    ·grind
   have hv:l[i]=v:=by have:=Lb hlt;rw[hd]at this;injection this with h1 _;exact h1.symm
   have hs:=hg i hlt;rw[hv]at hs;cases hq:p v with
   |true=> rw[hq]at hs;refine⟨1,?_⟩;simp only[ZT,hs,Da,idxS,hq];simp
   |false=>
    rw[hq,Ba,Zp hlt hn]at hs;obtain⟨n,hn'⟩:=ih (i+1) (by rw[Lb hlt]at hd;injection hd) (by omega);refine⟨n+1,?_⟩;simp only[ZT,hs,idxS,hq,Ba]
    grind
 obtain⟨n,hn'⟩:=key l 0 rfl (by omega);replace hn':ZT step n 0=_:=hn';rw[Qd (Q4 hn')];have hb:=zAS p l;by_cases h0:idxS p l<0
 ·rw[Ga h0];show some (-1)=_;congr 1;omega
 ·rw[Db h0];simp_all
noncomputable section
set_option maxRecDepth 100000
def oG(n:Nat)(x:Str):Option Str:=
 need (decide (x.length<=maxLen))<|
 SH n (fun(s1:Int×List UInt8)=>
   bif decide (s1.1<(x.length:Int))then
    Zk (X:=Int×List UInt8) (
      need (decide (0<=s1.1)&&decide (s1.1<(s1.2.length:Int)))<|
      ze s1.2[s1.1.toNat]? fun y2=>
      bif bif decide (65<=(y2.toNat:Int))then decide ((y2.toNat:Int)<=90)else false then
       need (decide (0<=s1.1)&&decide (s1.1<(s1.2.length:Int)))<|
       ze s1.2[s1.1.toNat]? fun y3=>
       need (decide (0<=s1.1)&&decide (s1.1<(s1.2.length:Int)))<|
       ze s1.2[s1.1.toNat]? fun y4=>
       ze (QA (ibOr IntKind.u8 (y3.toNat:Int) 32)) fun y5=>
       some (LX.out (s1.1,List.set s1.2 s1.1.toNat y5))
      else
       some (LX.out (s1.1,s1.2))) fun j6=>
    some (LO.again (w64 (j6.1+1),j6.2))
   else
    some (LO.out s1.2):Int×List UInt8->Option (LO (Int×List UInt8) (List UInt8) _)) (0,x) fun o7=>
 some o7
theorem iX(n:Nat)(x:Str):Le (oG n x) (ZL x):=by unfold oG ZL;exact(.need (.loop (fun _=>(.bif (.join (.need (.bind .rfl fun _=>(.bif (.need (.bind .rfl fun _=>(.need (.bind .rfl fun _=>(.bind .rfl fun _=> .rfl))))) .rfl))) fun _=> .rfl) .rfl)) fun _=> .rfl))
def YM(n:Nat)(x:Str×Str):Option Bool:=
 ze (oG n x.1) fun y1=>
 ze (oG n x.2) fun y2=>
 some (y1==y2)
theorem zoV(n:Nat)(x:Str×Str):Le (YM n x) (Zt x):=by unfold YM Zt;exact(.bind (iX n _) fun _=>(.bind (iX n _) fun _=> .rfl))
def PM(n:Nat)(x:List zg):Option Int:=
 ze (geti x 0) fun y1=>
 bif bif y1.kind==9 then y1.text==[92]else false then
  ze (ZK ((1,13),x)) fun y2=>
  bif !y2 then
   some 0
  else
   some 2
 else
  ze (zA (y1.kind==2) (YM n (y1.text,[117,114,108])) (default:Bool)) fun y3=>
  bif bif y1.kind==2 then y3 else false then
   Zk (X:=Int) (
     ze (ZK ((1,13),x)) fun y4=>
     bif y4 then
      some (LX.out 2)
     else
      some (LX.out 1)) fun j5=>
   ze (ZK ((j5,5),x)) fun y6=>
   bif !y6 then
    some 0
   else
    some (w64 (j5+1))
  else
   some 1
theorem zq8(n:Nat)(x:List zg):Le (PM n x) (QF x):=by unfold PM QF;exact(.bind .rfl fun _=>(.bif (.bind .rfl fun _=>(.bif .rfl .rfl)) (.bind (.cond (zoV n _)) fun _=>(.bif (.join (.bind .rfl fun _=>(.bif .rfl .rfl)) fun _=>(.bind .rfl fun _=>(.bif .rfl .rfl))) .rfl))))
def gW(n:Nat)(x:List zg):Option Int:=
 bif decide ((x.length:Int)>1500)then
  some 4
 else
  SH n (fun(s1:Int)=>
    bif decide (s1<(x.length:Int))then
     ze (geti x s1) fun y2=>
     ze (dw y2) fun y3=>
     need (decide (0<=s1)&&decide (s1<=(x.length:Int))|| !(!(!y3)))<|
     ze (zA (!(!y3)) (PM n (List.drop s1.toNat x)) (default:Int)) fun y4=>
     bif bif !y3 then true else y4==0 then
      some (LO.ret 8)
     else
      some (LO.again (w64 (s1+1)))
    else
     some (LO.out ()):Int->Option (LO (Int) (Unit) _)) 0 fun o5=>
  some 0
theorem dX(n:Nat)(x:List zg):Le (gW n x) (QE x):=by unfold gW QE;exact(.bif .rfl (.loop (fun _=>(.bif (.bind .rfl fun _=>(.bind .rfl fun _=>(.need (.bind (.cond (zq8 n _)) fun _=>(.bif .rfl .rfl))))) .rfl)) fun _=> .rfl))
end
end Go.Lv.VT
