/- Laws for the plain texts: loops that look for something; bytes. -/
import Derived.Test.YtcdeccnjlkkejaaGreatDoorLf
import Derived.Test.YtcdeccnjlkkejaaGreatDoorTx
set_option linter.unusedSimpArgs false
set_option linter.unusedVariables false
namespace Go.Lv.VT
abbrev big:Nat:=4194304
theorem Lj{i n:Nat}(h:i<n):decide ((i:Int)<(n:Int))=true:=Ma (by omega)
theorem dL(n:Nat):decide ((n:Int)<(n:Int))=false:=Dc (by omega)
theorem qZ{i n:Nat}(h:i<n)(a:n<=big):w64 ((i:Int)+1)=((i+1:Nat):Int):=by rw[w64,xk (by omega) (by grind)];omega
theorem Hl{α:Type}(b:Bool)(v d:α):zu b (some v) d=some (bif b then v else d):=by cases b<;>rfl
theorem FQ {α X R:Type} {step:Int->Option (LO Int X R)} {k:X->Option R} (l:List α) (q:α->Option R) (x:X)
  (hg: ∀(i:Nat) (h:i<l.length),step (i:Int)=some (match q l[i]with|some r=> .ret r|none=> .again ((i+1:Nat):Int)))
  (hf:step (l.length:Int)=some (.out x)):Zy step 0 k=match l.findSome? q with|some r=>some r|none=>k x:=by
 have key: ∀(m:List α) (i:Nat),l.drop i=m->i<=l.length-> ∃n,Qn step n (i:Int)=some (match m.findSome? q with|some r=> .ret r|none=> .out x):=by
  intro m
  induction m with
  |nil=>
   intro i hd hi;have:i=l.length:=by have:=Pe.1 hd;omega
   subst this;exact⟨1,by simp only[Qn,hf,List.findSome?_nil]⟩
  |cons v m ih=>
   intro i hd hi;have hlt:i<l.length:=by
    rcases Lc i l.length with h|h
    ·exact h
    ·grind
   have hv:l[i]=v:=by have:=Jb hlt;rw[hd]at this;injection this with h1 _;exact h1.symm
   have hs:=hg i hlt;rw[hv]at hs;cases hq:q v with
   |some r=> rw[hq]at hs;exact⟨1,by simp only[Qn,hs,List.findSome?_cons,hq]⟩
   |none=> rw[hq]at hs;obtain⟨n,hn⟩:=ih (i+1) (by rw[Jb hlt]at hd;injection hd) (by omega);refine⟨n+1,?_⟩;simp only[Qn,hs,List.findSome?_cons,hq];exact hn
 obtain⟨n,hn⟩:=key l 0 rfl (by omega);replace hn:Qn step n 0=_:=hn;rw[Ao (Om hn)];cases l.findSome? q<;>rfl
theorem YG{α R:Type}(p:α->Bool)(r:R): ∀(l:List α),l.findSome? (fun v=>bif p v then none else some r)=bif l.all p then none else some r
 |[]=>rfl
 |v::l=>by
  rw[List.findSome?_cons,Jd];cases p v with
  |false=>rfl
  |true=>exact YG p r l
def idxS{α:Type}(p:α->Bool):List α->Int
 |[]=> -1
 |v::l=>bif p v then 0 else bif decide (idxS p l<0)then -1 else idxS p l+1
set_option maxRecDepth 100000
def ZV(n:Nat)(x:Int):Option Bool:=
 some (bif decide (x>=48)then decide (x<=57)else false)
theorem ql(n:Nat)(x:Int):Le (ZV n x) (zT x):=by unfold ZV zT;exact .rfl
def Rt(n:Nat)(x:Int):Option Bool:=
 some (bif bif x==10 then true else x==9 then true else x==32)
theorem uD(n:Nat)(x:Int):Le (Rt n x) (qD x):=by unfold Rt qD;exact .rfl
def zR(n:Nat)(x:Str×Int):Option Int:=
 bif decide (x.2<(x.1.length:Int))then
  ze (geti x.1 x.2) fun y1=>
  some (y1.toNat:Int)
 else
  some 0
theorem zL(n:Nat)(x:Str×Int):Le (zR n x) (zQ x):=by unfold zR zQ;exact(.bif (.bind .rfl fun _=> .rfl) .rfl)
def QN(n:Nat)(x:Str×Int):Option Int:=
 Lh n (fun(s1:Int)=>
   ze (zR n (x.1,s1)) fun y2=>
   ze (Rt n y2) fun y3=>
   bif y3 then
    some (LO.again (w64 (s1+1)))
   else
    some (LO.out s1):Int->Option (LO (Int) (Int) _)) x.2 fun o4=>
 some o4
theorem nD(n:Nat)(x:Str×Int):Le (QN n x) (qo x):=by unfold QN qo;exact(.loop (fun _=>(.bind (zL n _) fun _=>(.bind (uD n _) fun _=>(.bif .rfl .rfl)))) fun _=> .rfl)
def YD(n:Nat)(x:Unit):Option Str:=
 some [(239:UInt8),(191:UInt8),(189:UInt8)]
theorem wS(n:Nat)(x:Unit):Le (YD n x) (Wo x):=by unfold YD Wo;exact .rfl
def Hy(n:Nat)(x:Int):Option Int:=
 bif bif decide (x>=65)then decide (x<=90)else false then
  some (wu8 (wu8 (x - 65)+97))
 else
  some x
theorem RJ(n:Nat)(x:Int):Le (Hy n x) (qC x):=by unfold Hy qC;exact(.bif .rfl .rfl)
def Cy(n:Nat)(x:Int):Option Int:=
 ze (ZV n x) fun y1=>
 bif y1 then
  some (w64 (wu8 (x - 48)))
 else
  ze (Hy n x) fun y2=>
  bif bif decide (y2>=97)then decide (y2<=102)else false then
   some (w64 (w64 (wu8 (y2 - 97))+10))
  else
   some (-1)
theorem xI(n:Nat)(x:Int):Le (Cy n x) (Mo x):=by unfold Cy Mo;exact(.bind (ql n _) fun _=>(.bif .rfl (.bind (RJ n _) fun _=>(.bif .rfl .rfl))))
def vI(n:Nat)(x:Int):Option Str:=
 bif bif bif x==0 then true else bif decide (x>=55296)then decide (x<=57343)else false then true else decide (x>1114111)then
  ze (YD n ()) fun y1=>
  some y1
 else
  bif decide (x<128)then
   ze (Zq (wu8 x)) fun y2=>
   some [y2]
  else
   bif decide (x<2048)then
    ze (Zq (wu8 (w64 (192+w64 (Int.tdiv x 64))))) fun y3=>
    ze (Zq (wu8 (w64 (128+Int.tmod x 64)))) fun y4=>
    some [y3,y4]
   else
    bif decide (x<65536)then
     ze (Zq (wu8 (w64 (224+w64 (Int.tdiv x 4096))))) fun y5=>
     ze (Zq (wu8 (w64 (128+Int.tmod (w64 (Int.tdiv x 64)) 64)))) fun y6=>
     ze (Zq (wu8 (w64 (128+Int.tmod x 64)))) fun y7=>
     some [y5,y6,y7]
    else
     ze (Zq (wu8 (w64 (240+w64 (Int.tdiv x 262144))))) fun y8=>
     ze (Zq (wu8 (w64 (128+Int.tmod (w64 (Int.tdiv x 4096)) 64)))) fun y9=>
     ze (Zq (wu8 (w64 (128+Int.tmod (w64 (Int.tdiv x 64)) 64)))) fun y10=>
     ze (Zq (wu8 (w64 (128+Int.tmod x 64)))) fun y11=>
     some [y8,y9,y10,y11]
theorem l9(n:Nat)(x:Int):Le (vI n x) (Mx x):=by unfold vI Mx;exact(.bif (.bind (wS n _) fun _=> .rfl) (.bif (.bind .rfl fun _=> .rfl) (.bif (.bind .rfl fun _=>(.bind .rfl fun _=> .rfl)) (.bif (.bind .rfl fun _=>(.bind .rfl fun _=>(.bind .rfl fun _=> .rfl))) (.bind .rfl fun _=>(.bind .rfl fun _=>(.bind .rfl fun _=>(.bind .rfl fun _=> .rfl))))))))
def Qi(n:Nat)(x:Str×Int):Option (Str×Int):=
 bif decide (w64 (x.2+1)>=(x.1.length:Int))then
  ze (YD n ()) fun y1=>
  some (y1,w64 (x.2+1))
 else
  ze (geti x.1 (w64 (x.2+1))) fun y2=>
  ze (Cy n (y2.toNat:Int)) fun y3=>
  bif decide (y3<0)then
   need (decide (0<=w64 (x.2+1))&&(decide (w64 (x.2+1)<=w64 (w64 (x.2+1)+1))&&decide (w64 (w64 (x.2+1)+1)<=(x.1.length:Int))))<|
   some (List.drop (w64 (x.2+1)).toNat (List.take (w64 (w64 (x.2+1)+1)).toNat x.1),w64 (w64 (x.2+1)+1))
  else
   Lh n (fun(s4:Int×Int)=>
     ze (zu (bif decide (s4.2<(x.1.length:Int))then decide (s4.2<w64 (w64 (x.2+1)+6))else false) (geti x.1 s4.2) 0) fun y5=>
     ze (zu (bif decide (s4.2<(x.1.length:Int))then decide (s4.2<w64 (w64 (x.2+1)+6))else false) (Cy n (y5.toNat:Int)) (default:Int)) fun y6=>
     bif bif bif decide (s4.2<(x.1.length:Int))then decide (s4.2<w64 (w64 (x.2+1)+6))else false then decide (y6>=0)else false then
      ze (geti x.1 s4.2) fun y7=>
      ze (Cy n (y7.toNat:Int)) fun y8=>
      some (LO.again (w64 (w64 (16*s4.1)+y8),w64 (s4.2+1)))
     else
      some (LO.out (s4.1,s4.2)):Int×Int->Option (LO (Int×Int) (Int×Int) _)) (0,w64 (x.2+1)) fun o9=>
   zS (X:=Int) (
     ze (zR n (x.1,o9.2)) fun y10=>
     ze (Rt n y10) fun y11=>
     bif y11 then
      some (LX.out (w64 (o9.2+1)))
     else
      some (LX.out o9.2)) fun j12=>
   ze (vI n o9.1) fun y13=>
   some (y13,j12)
theorem CE(n:Nat)(x:Str×Int):Le (Qi n x) (ZE x):=by unfold Qi ZE;exact(.bif (.bind (wS n _) fun _=> .rfl) (.bind .rfl fun _=>(.bind (xI n _) fun _=>(.bif (.need .rfl) (.loop (fun _=>(.bind .rfl fun _=>(.bind (.cond (xI n _)) fun _=>(.bif (.bind .rfl fun _=>(.bind (xI n _) fun _=> .rfl)) .rfl)))) fun _=>(.join (.bind (zL n _) fun _=>(.bind (uD n _) fun _=>(.bif .rfl .rfl))) fun _=>(.bind (l9 n _) fun _=> .rfl)))))))
def bJ(n:Nat)(x:Str×Int):Option (zb×Int):=
 ze (geti x.1 x.2) fun y1=>
 Lh n (fun(s2:Int×zb×zb)=>
   bif decide (s2.1<(x.1.length:Int))then
    ze (geti x.1 s2.1) fun y3=>
    bif (y3.toNat:Int)==(y1.toNat:Int)then
     some (LO.ret (s2.2.2,w64 (s2.1+1)))
    else
     ze (geti x.1 s2.1) fun y4=>
     bif (y4.toNat:Int)==10 then
      some (LO.ret ((⟨6,[],0,[],false⟩:zb),s2.1))
     else
      ze (geti x.1 s2.1) fun y5=>
      bif bif (y5.toNat:Int)==92 then w64 (s2.1+1)==(x.1.length:Int)else false then
       some (LO.again (w64 (s2.1+1),s2.2.1,s2.2.2))
      else
       ze (geti x.1 s2.1) fun y6=>
       ze (zu ((y6.toNat:Int)==92) (geti x.1 (w64 (s2.1+1))) 0) fun y7=>
       bif bif (y6.toNat:Int)==92 then(y7.toNat:Int)==10 else false then
        some (LO.again (w64 (s2.1+2),s2.2.1,s2.2.2))
       else
        ze (geti x.1 s2.1) fun y8=>
        bif (y8.toNat:Int)==92 then
         ze (Qi n (x.1,s2.1)) fun y9=>
         need (Fg s2.2.2.text.length y9.1.length)<|
         some (LO.again (y9.2,s2.2.1,(⟨s2.2.2.kind,s2.2.2.text++y9.1,s2.2.2.num,s2.2.2.unit,s2.2.2.flag⟩:zb)))
        else
         need (decide (0<=s2.1)&&(decide (s2.1<=w64 (s2.1+1))&&decide (w64 (s2.1+1)<=(x.1.length:Int))))<|
         need (Fg s2.2.2.text.length (List.drop s2.1.toNat (List.take (w64 (s2.1+1)).toNat x.1)).length)<|
         some (LO.again (w64 (s2.1+1),s2.2.1,(⟨s2.2.2.kind,s2.2.2.text++List.drop s2.1.toNat (List.take (w64 (s2.1+1)).toNat x.1),s2.2.2.num,s2.2.2.unit,s2.2.2.flag⟩:zb)))
   else
    some (LO.out (s2.1,s2.2.1,s2.2.2)):Int×zb×zb->Option (LO (Int×zb×zb) (Int×zb×zb) _)) (w64 (x.2+1),(⟨0,[],0,[],false⟩:zb),(⟨5,[],0,[],false⟩:zb)) fun o10=>
 some (o10.2.2,o10.1)
theorem zlf(n:Nat)(x:Str×Int):Le (bJ n x) (Jy x):=by unfold bJ Jy;exact(.bind .rfl fun _=>(.loop (fun _=>(.bif (.bind .rfl fun _=>(.bif .rfl (.bind .rfl fun _=>(.bif .rfl (.bind .rfl fun _=>(.bif .rfl (.bind .rfl fun _=>(.bind .rfl fun _=>(.bif .rfl (.bind .rfl fun _=>(.bif (.bind (CE n _) fun _=>(.need .rfl)) (.need (.need .rfl))))))))))))) .rfl)) fun _=> .rfl))
def gy(n:Nat)(x:Int):Option Bool:=
 ze (Hy n x) fun y1=>
 some (bif bif bif decide (y1>=97)then decide (y1<=122)else false then true else x==95 then true else decide (x>=128))
theorem gJ(n:Nat)(x:Int):Le (gy n x) (Qr x):=by unfold gy Qr;exact(.bind (RJ n _) fun _=> .rfl)
def rD(n:Nat)(x:Int):Option Bool:=
 ze (gy n x) fun y1=>
 ze (zu (!y1) (ZV n x) (default:Bool)) fun y2=>
 some (bif bif y1 then true else y2 then true else x==45)
theorem wT(n:Nat)(x:Int):Le (rD n x) (Q5 x):=by unfold rD Q5;exact(.bind (gJ n _) fun _=>(.bind (.cond (ql n _)) fun _=> .rfl))
def qm(n:Nat)(x:Str×Int):Option Bool:=
 ze (zR n (x.1,x.2)) fun y1=>
 ze (zu (y1==92) (zR n (x.1,w64 (x.2+1))) (default:Int)) fun y2=>
 some (bif y1==92 then y2 != 10 else false)
theorem Qe(n:Nat)(x:Str×Int):Le (qm n x) (Zp x):=by unfold qm Zp;exact(.bind (zL n _) fun _=>(.bind (.cond (zL n _)) fun _=> .rfl))
def Tt(n:Nat)(x:Str×Int):Option (Str×Int):=
 Lh n (fun(s1:Int×Str)=>
   ze (zu (decide (s1.1<(x.1.length:Int))) (geti x.1 s1.1) 0) fun y2=>
   ze (zu (decide (s1.1<(x.1.length:Int))) (rD n (y2.toNat:Int)) (default:Bool)) fun y3=>
   bif bif decide (s1.1<(x.1.length:Int))then y3 else false then
    need (decide (0<=s1.1)&&(decide (s1.1<=w64 (s1.1+1))&&decide (w64 (s1.1+1)<=(x.1.length:Int))))<|
    need (Fg s1.2.length (List.drop s1.1.toNat (List.take (w64 (s1.1+1)).toNat x.1)).length)<|
    some (LO.again (w64 (s1.1+1),s1.2++List.drop s1.1.toNat (List.take (w64 (s1.1+1)).toNat x.1)))
   else
    ze (zu (decide (s1.1<(x.1.length:Int))) (qm n (x.1,s1.1)) (default:Bool)) fun y4=>
    bif bif decide (s1.1<(x.1.length:Int))then y4 else false then
     ze (Qi n (x.1,s1.1)) fun y5=>
     need (Fg s1.2.length y5.1.length)<|
     some (LO.again (y5.2,s1.2++y5.1))
    else
     some (LO.ret (s1.2,s1.1)):Int×Str->Option (LO (Int×Str) (Unit) _)) (x.2,[]) fun o6=>
 none
theorem vD(n:Nat)(x:Str×Int):Le (Tt n x) (qX x):=by unfold Tt qX;exact(.loop (fun _=>(.bind .rfl fun _=>(.bind (.cond (wT n _)) fun _=>(.bif (.need (.need .rfl)) (.bind (.cond (Qe n _)) fun _=>(.bif (.bind (CE n _) fun _=>(.need .rfl)) .rfl)))))) fun _=> .none)
def QM(n:Nat)(x:Str×Int):Option Bool:=
 ze (zR n (x.1,x.2)) fun y1=>
 bif y1==45 then
  ze (zR n (x.1,w64 (x.2+1))) fun y2=>
  ze (gy n y2) fun y3=>
  ze (zu (!y3) (zR n (x.1,w64 (x.2+1))) (default:Int)) fun y4=>
  ze (zu (!(bif y3 then true else y4==45)) (qm n (x.1,w64 (x.2+1))) (default:Bool)) fun y5=>
  some (bif bif y3 then true else y4==45 then true else y5)
 else
  ze (zR n (x.1,x.2)) fun y6=>
  ze (gy n y6) fun y7=>
  ze (zu (!y7) (qm n (x.1,x.2)) (default:Bool)) fun y8=>
  some (bif y7 then true else y8)
theorem EE(n:Nat)(x:Str×Int):Le (QM n x) (qP x):=by unfold QM qP;exact(.bind (zL n _) fun _=>(.bif (.bind (zL n _) fun _=>(.bind (gJ n _) fun _=>(.bind (.cond (zL n _)) fun _=>(.bind (.cond (Qe n _)) fun _=> .rfl)))) (.bind (zL n _) fun _=>(.bind (gJ n _) fun _=>(.bind (.cond (Qe n _)) fun _=> .rfl)))))
def lJ(n:Nat)(x:Str×Int):Option Bool:=
 zS (X:=Int) (
   ze (zR n (x.1,x.2)) fun y1=>
   bif bif y1==43 then true else y1==45 then
    some (LX.out (w64 (x.2+1)))
   else
    some (LX.out x.2)) fun j2=>
 zS (X:=Int) (
   ze (zR n (x.1,j2)) fun y3=>
   bif y3==46 then
    some (LX.out (w64 (j2+1)))
   else
    some (LX.out j2)) fun j4=>
 ze (zR n (x.1,j4)) fun y5=>
 ze (ZV n y5) fun y6=>
 some y6
theorem ziz(n:Nat)(x:Str×Int):Le (lJ n x) (iy x):=by unfold lJ iy;exact(.join (.bind (zL n _) fun _=>(.bif .rfl .rfl)) fun _=>(.join (.bind (zL n _) fun _=>(.bif .rfl .rfl)) fun _=>(.bind (zL n _) fun _=>(.bind (ql n _) fun _=> .rfl))))
def ay(n:Nat)(x:Str×Int):Option Int:=
 Lh n (fun(s1:Int)=>
   ze (zR n (x.1,s1)) fun y2=>
   ze (ZV n y2) fun y3=>
   bif y3 then
    some (LO.again (w64 (s1+1)))
   else
    some (LO.out s1):Int->Option (LO (Int) (Int) _)) x.2 fun o4=>
 some o4
theorem fJ(n:Nat)(x:Str×Int):Le (ay n x) (Q7 x):=by unfold ay Q7;exact(.loop (fun _=>(.bind (zL n _) fun _=>(.bind (ql n _) fun _=>(.bif .rfl .rfl)))) fun _=> .rfl)
def kJ(n:Nat)(x:Str×Int):Option (Int×Bool):=
 zS (X:=Int) (
   ze (zR n (x.1,x.2)) fun y1=>
   bif bif y1==43 then true else y1==45 then
    some (LX.out (w64 (x.2+1)))
   else
    some (LX.out x.2)) fun j2=>
 ze (ay n (x.1,j2)) fun y3=>
 zS (X:=Int×Bool) (
   ze (zR n (x.1,y3)) fun y4=>
   ze (zu (y4==46) (zR n (x.1,w64 (y3+1))) (default:Int)) fun y5=>
   ze (zu (y4==46) (ZV n y5) (default:Bool)) fun y6=>
   bif bif y4==46 then y6 else false then
    ze (ay n (x.1,w64 (y3+1))) fun y7=>
    some (LX.out (y7,false))
   else
    some (LX.out (y3,true))) fun j8=>
 zS (X:=Int×Bool) (
   ze (zR n (x.1,j8.1)) fun y9=>
   bif bif y9==101 then true else y9==69 then
    zS (X:=Int×Bool×Int) (
      ze (zR n (x.1,w64 (j8.1+1))) fun y10=>
      bif bif y10==43 then true else y10==45 then
       some (LX.out (j8.1,j8.2,w64 (w64 (j8.1+1)+1)))
      else
       some (LX.out (j8.1,j8.2,w64 (j8.1+1)))) fun j11=>
    ze (zR n (x.1,j11.2.2)) fun y12=>
    ze (ZV n y12) fun y13=>
    bif y13 then
     ze (ay n (x.1,j11.2.2)) fun y14=>
     some (LX.out (y14,false))
    else
     some (LX.out (j11.1,j11.2.1))
   else
    some (LX.out (j8.1,j8.2))) fun j15=>
 some (j15.1,j15.2)
theorem zhJ(n:Nat)(x:Str×Int):Le (kJ n x) (Q6 x):=by unfold kJ Q6;exact(.join (.bind (zL n _) fun _=>(.bif .rfl .rfl)) fun _=>(.bind (fJ n _) fun _=>(.join (.bind (zL n _) fun _=>(.bind (.cond (zL n _)) fun _=>(.bind (.cond (ql n _)) fun _=>(.bif (.bind (fJ n _) fun _=> .rfl) .rfl)))) fun _=>(.join (.bind (zL n _) fun _=>(.bif (.join (.bind (zL n _) fun _=>(.bif .rfl .rfl)) fun _=>(.bind (zL n _) fun _=>(.bind (ql n _) fun _=>(.bif (.bind (fJ n _) fun _=> .rfl) .rfl)))) .rfl)) fun _=> .rfl))))
def pJ(n:Nat)(x:Str):Option Int:=
 ze (geti x 0) fun y1=>
 zS (X:=Str×Int×Int) (
   ze (geti x 0) fun y2=>
   bif bif (y2.toNat:Int)==43 then true else(y1.toNat:Int)==45 then
    some (LX.out ([],3,1))
   else
    some (LX.out ([],3,0))) fun j3=>
 Lh n (fun(s4:Str×Int)=>
   ze (zR n (x,s4.2)) fun y5=>
   ze (ZV n y5) fun y6=>
   bif y6 then
    need (decide (0<=s4.2)&&(decide (s4.2<=w64 (s4.2+1))&&decide (w64 (s4.2+1)<=(x.length:Int))))<|
    need (Fg s4.1.length (List.drop s4.2.toNat (List.take (w64 (s4.2+1)).toNat x)).length)<|
    some (LO.again (s4.1++List.drop s4.2.toNat (List.take (w64 (s4.2+1)).toNat x),w64 (s4.2+1)))
   else
    some (LO.out (s4.1,s4.2)):Str×Int->Option (LO (Str×Int) (Str×Int) _)) (j3.1,j3.2.2) fun o7=>
 zS (X:=Str×Int×Int) (
   ze (zR n (x,o7.2)) fun y8=>
   bif y8==46 then
    Lh n (fun(s9:Str×Int×Int)=>
      ze (zR n (x,s9.2.2)) fun y10=>
      ze (ZV n y10) fun y11=>
      bif y11 then
       need (decide (0<=s9.2.2)&&(decide (s9.2.2<=w64 (s9.2.2+1))&&decide (w64 (s9.2.2+1)<=(x.length:Int))))<|
       need (Fg s9.1.length (List.drop s9.2.2.toNat (List.take (w64 (s9.2.2+1)).toNat x)).length)<|
       some (LO.again (s9.1++List.drop s9.2.2.toNat (List.take (w64 (s9.2.2+1)).toNat x),w64 (s9.2.1 - 1),w64 (s9.2.2+1)))
      else
       some (LO.out (s9.1,s9.2.1,s9.2.2)):Str×Int×Int->Option (LO (Str×Int×Int) (Str×Int×Int) _)) (o7.1,j3.2.1,w64 (o7.2+1)) fun o12=>
    some (LX.out (o12.1,o12.2.1,o12.2.2))
   else
    some (LX.out (o7.1,j3.2.1,o7.2))) fun j13=>
 zS (X:=Int) (
   bif decide (j13.2.2<(x.length:Int))then
    ze (geti x (w64 (j13.2.2+1))) fun y14=>
    zS (X:=Int×Int) (
      ze (geti x (w64 (j13.2.2+1))) fun y15=>
      bif bif (y15.toNat:Int)==43 then true else(y14.toNat:Int)==45 then
       some (LX.out (j13.2.1,w64 (w64 (j13.2.2+1)+1)))
      else
       some (LX.out (j13.2.1,w64 (j13.2.2+1)))) fun j16=>
    Lh n (fun(s17:Int×Int)=>
      bif decide (s17.1<(x.length:Int))then
       ze (geti x s17.1) fun y18=>
       some (LO.again (w64 (s17.1+1),if w64 (w64 (10*s17.2)+w64 (wu8 ((y18.toNat:Int) - 48)))<10000 then w64 (w64 (10*s17.2)+w64 (wu8 ((y18.toNat:Int) - 48)))else 10000))
      else
       some (LO.out s17.2):Int×Int->Option (LO (Int×Int) (Int) _)) (j16.2,0) fun o19=>
    zS (X:=Int×Int) (
      bif (y14.toNat:Int)==45 then
       some (LX.out (j16.1,w64 (0 - o19)))
      else
       some (LX.out (j16.1,o19))) fun j20=>
    some (LX.out (w64 (j20.1+j20.2)))
   else
    some (LX.out j13.2.1)) fun j21=>
 Lh n (fun(s22:Int×Int)=>
   bif bif decide (s22.2<w64 ((j13.1.length:Int)+j21))then decide (s22.2<(j13.1.length:Int))else false then
    ze (geti j13.1 s22.2) fun y23=>
    some (LO.again (if w64 (w64 (10*s22.1)+w64 (wu8 ((y23.toNat:Int) - 48)))<1000000000000 then w64 (w64 (10*s22.1)+w64 (wu8 ((y23.toNat:Int) - 48)))else 1000000000000,w64 (s22.2+1)))
   else
    some (LO.out s22.1):Int×Int->Option (LO (Int×Int) (Int) _)) (0,0) fun o24=>
 Lh n (fun(s25:Int×Int)=>
   bif bif bif decide (s25.1>0)then decide (s25.2>0)else false then decide (s25.2<1000000000000)else false then
    some (LO.again (w64 (s25.1 - 1),if w64 (10*s25.2)<1000000000000 then w64 (10*s25.2)else 1000000000000))
   else
    some (LO.out s25.2):Int×Int->Option (LO (Int×Int) (Int) _)) (j21,o24) fun o26=>
 bif (y1.toNat:Int)==45 then
  some (w64 (0 - o26))
 else
  some o26
theorem zgb(n:Nat)(x:Str):Le (pJ n x) (Qj x):=by unfold pJ Qj;exact(.bind .rfl fun _=>(.join (.bind .rfl fun _=>(.bif .rfl .rfl)) fun _=>(.loop (fun _=>(.bind (zL n _) fun _=>(.bind (ql n _) fun _=>(.bif (.need (.need .rfl)) .rfl)))) fun _=>(.join (.bind (zL n _) fun _=>(.bif (.loop (fun _=>(.bind (zL n _) fun _=>(.bind (ql n _) fun _=>(.bif (.need (.need .rfl)) .rfl)))) fun _=> .rfl) .rfl)) fun _=>(.join (.bif (.bind .rfl fun _=>(.join (.bind .rfl fun _=>(.bif .rfl .rfl)) fun _=>(.loop (fun _=>(.bif (.bind .rfl fun _=> .rfl) .rfl)) fun _=>(.join (.bif .rfl .rfl) fun _=> .rfl)))) .rfl) fun _=>(.loop (fun _=>(.bif (.bind .rfl fun _=> .rfl) .rfl)) fun _=>(.loop (fun _=>(.bif .rfl .rfl)) fun _=>(.bif .rfl .rfl))))))))
def jJ(n:Nat)(x:Str×Int):Option (zb×Int):=
 ze (kJ n (x.1,x.2)) fun y1=>
 need (decide (0<=x.2)&&(decide (x.2<=y1.1)&&decide (y1.1<=(x.1.length:Int))))<|
 ze (pJ n (List.drop x.2.toNat (List.take y1.1.toNat x.1))) fun y2=>
 zS (X:=Int×zb×zb) (
   ze (QM n (x.1,y1.1)) fun y3=>
   bif y3 then
    ze (Tt n (x.1,y1.1)) fun y4=>
    some (LX.out (y4.2,(⟨0,[],0,[],false⟩:zb),(⟨12,[],y2,y4.1,y1.2⟩:zb)))
   else
    ze (zR n (x.1,y1.1)) fun y5=>
    bif y5==37 then
     some (LX.out (w64 (y1.1+1),(⟨0,[],0,[],false⟩:zb),(⟨11,[],y2,[],false⟩:zb)))
    else
     some (LX.out (y1.1,(⟨0,[],0,[],false⟩:zb),(⟨10,[],y2,[],y1.2⟩:zb)))) fun j6=>
 some (j6.2.2,j6.1)
theorem zjI(n:Nat)(x:Str×Int):Le (jJ n x) (Gy x):=by unfold jJ Gy;exact(.bind (zhJ n _) fun _=>(.need (.bind (zgb n _) fun _=>(.join (.bind (EE n _) fun _=>(.bif (.bind (vD n _) fun _=> .rfl) (.bind (zL n _) fun _=>(.bif .rfl .rfl)))) fun _=> .rfl))))
def FD(n:Nat)(x:Str×Int×Str):Option Bool:=
 need (decide (0<=x.2.1)&&(decide (x.2.1<=w64 (x.2.1+(x.2.2.length:Int)))&&decide (w64 (x.2.1+(x.2.2.length:Int))<=(x.1.length:Int)))|| !(decide (w64 ((x.1.length:Int) - x.2.1)>=(x.2.2.length:Int))))<|
 some (bif decide (w64 ((x.1.length:Int) - x.2.1)>=(x.2.2.length:Int))then List.drop x.2.1.toNat (List.take (w64 (x.2.1+(x.2.2.length:Int))).toNat x.1)==x.2.2 else false)
theorem UR(n:Nat)(x:Str×Int×Str):Le (FD n x) (Ps x):=by unfold FD Ps;exact(.need .rfl)
def eD(n:Nat)(x:Str):Option Str:=
 need (decide (x.length<=maxLen))<|
 Lh n (fun(s1:Int×List UInt8)=>
   bif decide (s1.1<(s1.2.length:Int))then
    need (decide (0<=s1.1)&&decide (s1.1<(s1.2.length:Int)))<|
    ze s1.2[s1.1.toNat]? fun y2=>
    ze (Hy n (y2.toNat:Int)) fun y3=>
    need (decide (0<=s1.1)&&decide (s1.1<(s1.2.length:Int)))<|
    ze s1.2[s1.1.toNat]? fun y4=>
    ze (Zq y3) fun y5=>
    some (LO.again (w64 (s1.1+1),List.set s1.2 s1.1.toNat y5))
   else
    some (LO.out s1.2):Int×List UInt8->Option (LO (Int×List UInt8) (List UInt8) _)) (0,x) fun o6=>
 some o6
theorem PT(n:Nat)(x:Str):Le (eD n x) (Q4 x):=by unfold eD Q4;exact(.need (.loop (fun _=>(.bif (.need (.bind .rfl fun _=>(.bind (RJ n _) fun _=>(.need (.bind .rfl fun _=>(.bind .rfl fun _=> .rfl)))))) .rfl)) fun _=> .rfl))
def AJ(n:Nat)(x:Str×Str):Option Bool:=
 ze (eD n x.1) fun y1=>
 ze (eD n x.2) fun y2=>
 some (y1==y2)
theorem zmx(n:Nat)(x:Str×Str):Le (AJ n x) (qB x):=by unfold AJ qB;exact(.bind (PT n _) fun _=>(.bind (PT n _) fun _=> .rfl))
def GD(n:Nat)(x:Str×Int):Option (zb×Int):=
 Lh n (fun(s1:Int)=>
   ze (zu (decide (s1<(x.1.length:Int))) (geti x.1 s1) 0) fun y2=>
   bif bif decide (s1<(x.1.length:Int))then(y2.toNat:Int) != 41 else false then
    ze (qm n (x.1,s1)) fun y3=>
    bif y3 then
     ze (Qi n (x.1,s1)) fun y4=>
     some (LO.again y4.2)
    else
     some (LO.again (w64 (s1+1)))
   else
    some (LO.out s1):Int->Option (LO (Int) (Int) _)) x.2 fun o5=>
 some ((⟨8,[],0,[],false⟩:zb),if w64 (o5+1)<(x.1.length:Int)then w64 (o5+1)else(x.1.length:Int))
theorem VR(n:Nat)(x:Str×Int):Le (GD n x) (Rs x):=by unfold GD Rs;exact(.loop (fun _=>(.bind .rfl fun _=>(.bif (.bind (Qe n _) fun _=>(.bif (.bind (CE n _) fun _=> .rfl) .rfl)) .rfl))) fun _=> .rfl)
def oJ(n:Nat)(x:Int):Option Bool:=
 some (bif bif bif decide (x<=8)then true else x==11 then true else bif decide (x>=14)then decide (x<=31)else false then true else x==127)
theorem zgc(n:Nat)(x:Int):Le (oJ n x) (Qk x):=by unfold oJ Qk;exact .rfl
def aI(n:Nat)(x:Str×Int):Option (zb×Int):=
 ze (QN n (x.1,x.2)) fun y1=>
 Lh n (fun(s2:Int×zb×zb)=>
   ze (zu (decide (s2.1<(x.1.length:Int))) (geti x.1 s2.1) 0) fun y3=>
   bif bif decide (s2.1<(x.1.length:Int))then(y3.toNat:Int) != 41 else false then
    ze (geti x.1 s2.1) fun y4=>
    ze (Rt n (y4.toNat:Int)) fun y5=>
    bif y5 then
     ze (QN n (x.1,s2.1)) fun y6=>
     ze (zu (decide (y6<(x.1.length:Int))) (geti x.1 y6) 0) fun y7=>
     bif bif decide (y6<(x.1.length:Int))then(y7.toNat:Int) != 41 else false then
      ze (GD n (x.1,y6)) fun y8=>
      some (LO.ret (y8.1,y8.2))
     else
      some (LO.again (y6,s2.2.1,s2.2.2))
    else
     ze (zu (!(bif bif (y4.toNat:Int)==34 then true else(y4.toNat:Int)==39 then true else(y4.toNat:Int)==40)) (oJ n (y4.toNat:Int)) (default:Bool)) fun y9=>
     ze (zu ((y4.toNat:Int)==92&& !(bif bif bif (y4.toNat:Int)==34 then true else(y4.toNat:Int)==39 then true else(y4.toNat:Int)==40 then true else y9)) (qm n (x.1,s2.1)) (default:Bool)) fun y10=>
     bif bif bif bif bif (y4.toNat:Int)==34 then true else(y4.toNat:Int)==39 then true else(y4.toNat:Int)==40 then true else y9 then true else bif (y4.toNat:Int)==92 then !y10 else false then
      ze (GD n (x.1,s2.1)) fun y11=>
      some (LO.ret (y11.1,y11.2))
     else
      bif (y4.toNat:Int)==92 then
       ze (Qi n (x.1,s2.1)) fun y12=>
       need (Fg s2.2.2.text.length y12.1.length)<|
       some (LO.again (y12.2,s2.2.1,(⟨s2.2.2.kind,s2.2.2.text++y12.1,s2.2.2.num,s2.2.2.unit,s2.2.2.flag⟩:zb)))
      else
       need (decide (0<=s2.1)&&(decide (s2.1<=w64 (s2.1+1))&&decide (w64 (s2.1+1)<=(x.1.length:Int))))<|
       need (Fg s2.2.2.text.length (List.drop s2.1.toNat (List.take (w64 (s2.1+1)).toNat x.1)).length)<|
       some (LO.again (w64 (s2.1+1),s2.2.1,(⟨s2.2.2.kind,s2.2.2.text++List.drop s2.1.toNat (List.take (w64 (s2.1+1)).toNat x.1),s2.2.2.num,s2.2.2.unit,s2.2.2.flag⟩:zb)))
   else
    some (LO.out (s2.1,s2.2.1,s2.2.2)):Int×zb×zb->Option (LO (Int×zb×zb) (Int×zb×zb) _)) (y1,(⟨0,[],0,[],false⟩:zb),(⟨7,[],0,[],false⟩:zb)) fun o13=>
 some (o13.2.2,if w64 (o13.1+1)<(x.1.length:Int)then w64 (o13.1+1)else(x.1.length:Int))
theorem p8(n:Nat)(x:Str×Int):Le (aI n x) (lw x):=by unfold aI lw;exact(.bind (nD n _) fun _=>(.loop (fun _=>(.bind .rfl fun _=>(.bif (.bind .rfl fun _=>(.bind (uD n _) fun _=>(.bif (.bind (nD n _) fun _=>(.bind .rfl fun _=>(.bif (.bind (VR n _) fun _=> .rfl) .rfl))) (.bind (.cond (zgc n _)) fun _=>(.bind (.cond (Qe n _)) fun _=>(.bif (.bind (VR n _) fun _=> .rfl) (.bif (.bind (CE n _) fun _=>(.need .rfl)) (.need (.need .rfl))))))))) .rfl))) fun _=> .rfl))
def sI(n:Nat)(x:Str×Int):Option (zb×Int):=
 ze (Tt n (x.1,x.2)) fun y1=>
 ze (zR n (x.1,y1.2)) fun y2=>
 bif y2 != 40 then
  some ((⟨1,y1.1,0,[],false⟩:zb),y1.2)
 else
  zS (X:=zb) (
    ze (AJ n (y1.1,[117,114,108])) fun y3=>
    bif y3 then
     ze (QN n (x.1,w64 (y1.2+1))) fun y4=>
     ze (zR n (x.1,y4)) fun y5=>
     bif bif y5 != 34 then y5 != 39 else false then
      ze (aI n (x.1,w64 (y1.2+1))) fun y6=>
      some (LX.ret (y6.1,y6.2))
     else
      some (LX.out (⟨0,[],0,[],false⟩:zb))
    else
     some (LX.out (⟨0,[],0,[],false⟩:zb))) fun j7=>
  some ((⟨2,y1.1,0,[],false⟩:zb),w64 (y1.2+1))
theorem d9(n:Nat)(x:Str×Int):Le (sI n x) (Ay x):=by unfold sI Ay;exact(.bind (vD n _) fun _=>(.bind (zL n _) fun _=>(.bif .rfl (.join (.bind (zmx n _) fun _=>(.bif (.bind (nD n _) fun _=>(.bind (zL n _) fun _=>(.bif (.bind (p8 n _) fun _=> .rfl) .rfl))) .rfl)) fun _=> .rfl))))
def XD(n:Nat)(x:Int):Option Int:=
 bif x==58 then
  some 16
 else
  bif x==59 then
   some 17
  else
   bif x==44 then
    some 18
   else
    bif x==91 then
     some 19
    else
     bif x==93 then
      some 20
     else
      bif x==40 then
       some 21
      else
       bif x==41 then
        some 22
       else
        bif x==123 then
         some 23
        else
         bif x==125 then
          some 24
         else
          some 0
theorem vS(n:Nat)(x:Int):Le (XD n x) (Dt x):=by unfold XD Dt;exact(.bif .rfl (.bif .rfl (.bif .rfl (.bif .rfl (.bif .rfl (.bif .rfl (.bif .rfl (.bif .rfl (.bif .rfl .rfl)))))))))
def bI(n:Nat)(x:Str×Int):Option (zb×Int):=
 ze (geti x.1 x.2) fun y1=>
 ze (Rt n (y1.toNat:Int)) fun y2=>
 bif y2 then
  ze (QN n (x.1,x.2)) fun y3=>
  some ((⟨13,[],0,[],false⟩:zb),y3)
 else
  bif bif (y1.toNat:Int)==34 then true else(y1.toNat:Int)==39 then
   ze (bJ n (x.1,x.2)) fun y4=>
   some (y4.1,y4.2)
  else
   ze (zu (decide (w64 (x.2+1)<(x.1.length:Int))&&(y1.toNat:Int)==35) (geti x.1 (w64 (x.2+1))) 0) fun y5=>
   ze (zu (decide (w64 (x.2+1)<(x.1.length:Int))&&(y1.toNat:Int)==35) (rD n (y5.toNat:Int)) (default:Bool)) fun y6=>
   ze (zu (!(bif decide (w64 (x.2+1)<(x.1.length:Int))then y6 else false)&&(y1.toNat:Int)==35) (qm n (x.1,w64 (x.2+1))) (default:Bool)) fun y7=>
   bif bif (y1.toNat:Int)==35 then bif bif decide (w64 (x.2+1)<(x.1.length:Int))then y6 else false then true else y7 else false then
    ze (Tt n (x.1,w64 (x.2+1))) fun y8=>
    ze (QM n (x.1,w64 (x.2+1))) fun y9=>
    some ((⟨4,y8.1,0,[],y9⟩:zb),y8.2)
   else
    ze (lJ n (x.1,x.2)) fun y10=>
    bif y10 then
     ze (jJ n (x.1,x.2)) fun y11=>
     some (y11.1,y11.2)
    else
     ze (FD n (x.1,x.2,[45,45,62])) fun y12=>
     bif y12 then
      some ((⟨15,[],0,[],false⟩:zb),w64 (x.2+3))
     else
      ze (FD n (x.1,x.2,[60,33,45,45])) fun y13=>
      bif y13 then
       some ((⟨14,[],0,[],false⟩:zb),w64 (x.2+4))
      else
       ze (zu ((y1.toNat:Int)==64) (QM n (x.1,w64 (x.2+1))) (default:Bool)) fun y14=>
       bif bif (y1.toNat:Int)==64 then y14 else false then
        ze (Tt n (x.1,w64 (x.2+1))) fun y15=>
        some ((⟨3,y15.1,0,[],false⟩:zb),y15.2)
       else
        ze (QM n (x.1,x.2)) fun y16=>
        bif y16 then
         ze (sI n (x.1,x.2)) fun y17=>
         some (y17.1,y17.2)
        else
         ze (XD n (y1.toNat:Int)) fun y18=>
         bif y18 != 0 then
          ze (XD n (y1.toNat:Int)) fun y19=>
          some ((⟨y19,[],0,[],false⟩:zb),w64 (x.2+1))
         else
          need (decide (0<=x.2)&&(decide (x.2<=w64 (x.2+1))&&decide (w64 (x.2+1)<=(x.1.length:Int))))<|
          some ((⟨9,List.drop x.2.toNat (List.take (w64 (x.2+1)).toNat x.1),0,[],false⟩:zb),w64 (x.2+1))
theorem A9(n:Nat)(x:Str×Int):Le (bI n x) (ow x):=by unfold bI ow;exact(.bind .rfl fun _=>(.bind (uD n _) fun _=>(.bif (.bind (nD n _) fun _=> .rfl) (.bif (.bind (zlf n _) fun _=> .rfl) (.bind .rfl fun _=>(.bind (.cond (wT n _)) fun _=>(.bind (.cond (Qe n _)) fun _=>(.bif (.bind (vD n _) fun _=>(.bind (EE n _) fun _=> .rfl)) (.bind (ziz n _) fun _=>(.bif (.bind (zjI n _) fun _=> .rfl) (.bind (UR n _) fun _=>(.bif .rfl (.bind (UR n _) fun _=>(.bif .rfl (.bind (.cond (EE n _)) fun _=>(.bif (.bind (vD n _) fun _=> .rfl) (.bind (EE n _) fun _=>(.bif (.bind (d9 n _) fun _=> .rfl) (.bind (vS n _) fun _=>(.bif (.bind (vS n _) fun _=> .rfl) (.need .rfl)))))))))))))))))))))
def KJ(n:Nat)(x:Int):Option Bool:=
 ze (Zq x) fun y1=>
 ze (bI n ([y1,(10:UInt8)],0)) fun y2=>
 some (bif bif bif bif decide (x>=1)then decide (x<=127)else false then x != 12 else false then x != 13 else false then y2.1.kind==9 else false)
theorem zmy(n:Nat)(x:Int):Le (KJ n x) (qE x):=by unfold KJ qE;exact(.bind .rfl fun _=>(.bind (A9 n _) fun _=> .rfl))
end Go.Lv.VT
