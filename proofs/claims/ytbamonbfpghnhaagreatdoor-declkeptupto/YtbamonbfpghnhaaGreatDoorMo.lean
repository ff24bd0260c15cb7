/- Laws for the plain texts: loops that look for something; bytes. -/
import Derived.Test.YtbamonbfpghnhaaGreatDoorLf
import Derived.Test.YtbamonbfpghnhaaGreatDoorTx
set_option linter.unusedSimpArgs false
set_option linter.unusedVariables false
namespace Go.Lv.VT
abbrev big:Nat:=4194304
theorem Qx{i n:Nat}(h:i<n):decide ((i:Int)<(n:Int))=true:=Ia (by omega)
theorem Wj(n:Nat):decide ((n:Int)<(n:Int))=false:=Ya (by omega)
theorem qB{i n:Nat}(h:i<n)(a:n<=big):w64 ((i:Int)+1)=((i+1:Nat):Int):=by rw[w64,Z0 (by omega) (by grind)];omega
theorem QK{α:Type}(b:Bool)(v d:α):zA b (some v) d=some (bif b then v else d):=by cases b<;>rfl
theorem tZ {α X R:Type} {step:Int->Option (LO Int X R)} {k:X->Option R} (l:List α) (q:α->Option R) (x:X)
  (hg: ∀(i:Nat) (h:i<l.length),step (i:Int)=some (match q l[i]with|some r=> .ret r|none=> .again ((i+1:Nat):Int)))
  (hf:step (l.length:Int)=some (.out x)):ZE step 0 k=match l.findSome? q with|some r=>some r|none=>k x:=by
 have key: ∀(m:List α) (i:Nat),l.drop i=m->i<=l.length-> ∃n,qL step n (i:Int)=some (match m.findSome? q with|some r=> .ret r|none=> .out x):=by
  intro m
  induction m with
  |nil=>
   intro i hd hi;have:i=l.length:=by have:=Be.1 hd;omega
   subst this;exact⟨1,by simp only[qL,hf,List.findSome?_nil]⟩
  |cons v m ih=>
   intro i hd hi;have hlt:i<l.length:=by
    rcases Gd i l.length with h|h
    ·exact h
    ·grind
   have hv:l[i]=v:=by have:=Db hlt;rw[hd]at this;injection this with h1 _;exact h1.symm
   have hs:=hg i hlt;rw[hv]at hs;cases hq:q v with
   |some r=> rw[hq]at hs;exact⟨1,by simp only[qL,hs,List.findSome?_cons,hq]⟩
   |none=> rw[hq]at hs;obtain⟨n,hn⟩:=ih (i+1) (by rw[Db hlt]at hd;injection hd) (by omega);refine⟨n+1,?_⟩;simp only[qL,hs,List.findSome?_cons,hq];exact hn
 obtain⟨n,hn⟩:=key l 0 rfl (by omega);replace hn:qL step n 0=_:=hn;rw[QW (Aj hn)];cases l.findSome? q<;>rfl
theorem CL{α R:Type}(p:α->Bool)(r:R): ∀(l:List α),l.findSome? (fun v=>bif p v then none else some r)=bif l.all p then none else some r
 |[]=>rfl
 |v::l=>by
  rw[List.findSome?_cons,Rc];cases p v with
  |false=>rfl
  |true=>exact CL p r l
def idxS{α:Type}(p:α->Bool):List α->Int
 |[]=> -1
 |v::l=>bif p v then 0 else bif decide (idxS p l<0)then -1 else idxS p l+1
theorem JE{α:Type}(p:α->Bool): ∀(l:List α),decide (idxS p l>=0)=l.any p
 |[]=>rfl
 |v::l=>by
  have a:=JE p l;rw[List.any_cons,idxS]
  grind
theorem gJ{α:Type}(p:α->Bool): ∀(l:List α), -1<=idxS p l/\idxS p l<l.length
 |[]=>by simp[idxS]
 |v::l=>by
  have:=gJ p l;rw[idxS,Ka]
  grind
theorem mK {α:Type} {step:Int->Option (LO Int Unit Int)} (l:List α) (p:α->Bool) (hn:l.length<=big)
  (hg: ∀(i:Nat) (h:i<l.length),step (i:Int)=bif p l[i]then some (.ret (i:Int))else some (.again (w64 ((i:Int)+1))))
  (hf:step (l.length:Int)=some (.out ())):ZE step 0 (fun _=>some (-1))=some (idxS p l):=by
 have key: ∀(m:List α) (i:Nat),l.drop i=m->i<=l.length-> ∃n,qL step n (i:Int)=some (bif decide (idxS p m<0)then .out ()else .ret ((i:Int)+idxS p m)):=by
  intro m
  induction m with
  |nil=>
   intro i hd hi;have:i=l.length:=by have:=Be.1 hd;omega
   subst this;exact⟨1,by simp only[qL,hf];rfl⟩
  |cons v m ih=>
   intro i hd hi;have hlt:i<l.length:=by
    rcases Gd i l.length with h|h
    ·exact h
    ·grind
   have hv:l[i]=v:=by have:=Db hlt;rw[hd]at this;injection this with h1 _;exact h1.symm
   have hs:=hg i hlt;rw[hv]at hs;cases hq:p v with
   |true=> rw[hq]at hs;refine⟨1,?_⟩;simp only[qL,hs,Ea,idxS,hq];simp
   |false=>
    rw[hq,Ca,qB hlt hn]at hs;obtain⟨n,hn'⟩:=ih (i+1) (by rw[Db hlt]at hd;injection hd) (by omega);refine⟨n+1,?_⟩;simp only[qL,hs,idxS,hq,Ca]
    grind
 obtain⟨n,hn'⟩:=key l 0 rfl (by omega);replace hn':qL step n 0=_:=hn';rw[QW (Aj hn')];have hb:=gJ p l;by_cases h0:idxS p l<0
 ·rw[Ia h0];show some (-1)=_;congr 1;omega
 ·rw[Ya h0];simp_all
noncomputable section
set_option maxRecDepth 100000
def qo(n:Nat)(x:za):Option za:=
 Vf n (fun(s1:za)=>
   need (decide (0<=s1.at_)&&decide (s1.at_<=(s1.s.length:Int)))<|
   zg (strings_HasPrefix (List.drop s1.at_.toNat s1.s,[47,42])) fun y2=>
   bif y2 then
    need (decide (0<=w64 (s1.at_+2))&&decide (w64 (s1.at_+2)<=(s1.s.length:Int)))<|
    zg (di (List.drop (w64 (s1.at_+2)).toNat s1.s,[42,47])) fun y3=>
    bif decide (y3<0)then
     some (LO.ret (⟨s1.s,(s1.s.length:Int)⟩:za))
    else
     some (LO.again (⟨s1.s,w64 (s1.at_+w64 (y3+4))⟩:za))
   else
    some (LO.out s1):za->Option (LO (za) (za) _)) x fun o4=>
 some o4
theorem mR(n:Nat)(x:za):Le (qo n x) (Zb x):=by unfold qo Zb;exact(.loop (fun _=>(.need (.bind .rfl fun _=>(.bif (.need (.bind .rfl fun _=>(.bif .rfl .rfl))) .rfl)))) fun _=> .rfl)
def ZR(n:Nat)(x:za):Option za:=
 Vf n (fun(s1:za)=>
   zg (zf (0,s1)) fun y2=>
   zg (Zx y2) fun y3=>
   bif y3 then
    some (LO.again (⟨s1.s,w64 (s1.at_+1)⟩:za))
   else
    some (LO.out s1):za->Option (LO (za) (za) _)) x fun o4=>
 some o4
theorem qP(n:Nat)(x:za):Le (ZR n x) (zT x):=by unfold ZR zT;exact(.loop (fun _=>(.bind .rfl fun _=>(.bind .rfl fun _=>(.bif .rfl .rfl)))) fun _=> .rfl)
def Qi(n:Nat)(x:za):Option (za×List UInt8):=
 zg (zf (0,(⟨x.s,w64 (x.at_+1)⟩:za))) fun y1=>
 bif y1==(-1)then
  zg (ZA 65533) fun y2=>
  some ((⟨x.s,w64 (x.at_+1)⟩:za),y2)
 else
  zg (QI y1) fun y3=>
  bif decide (y3<0)then
   zg (ql (wu8 y1)) fun y4=>
   need (zF 0 1 1)<|
   some ((⟨x.s,w64 (w64 (x.at_+1)+1)⟩:za),[y4])
  else
   Vf n (fun(s5:(Int×Int)×za)=>
     bif decide (s5.1.2<6)then
      zg (zf (0,s5.2)) fun y6=>
      zg (QI y6) fun y7=>
      bif decide (y7<0)then
       some (LO.out (s5.1.1,s5.2))
      else
       some (LO.again ((ibOr IntKind.i64 (Om IntKind.i64 s5.1.1 4) y7,w64 (s5.1.2+1)),(⟨s5.2.s,w64 (s5.2.at_+1)⟩:za)))
     else
      some (LO.out (s5.1.1,s5.2)):(Int×Int)×za->Option (LO ((Int×Int)×za) (Int×za) _)) ((0,0),(⟨x.s,w64 (x.at_+1)⟩:za)) fun o8=>
   zW (X:=Int×za) (
     zg (zf (0,o8.2)) fun y9=>
     zg (Zx y9) fun y10=>
     bif y10 then
      some (LX.out (o8.1,(⟨o8.2.s,w64 (o8.2.at_+1)⟩:za)))
     else
      some (LX.out (o8.1,o8.2))) fun j11=>
   zW (X:=Int) (
     bif j11.1==0 then
      some (LX.out 65533)
     else
      some (LX.out j11.1)) fun j12=>
   zg (ZA (w32 j12)) fun y13=>
   some (j11.2,y13)
theorem zcU(n:Nat)(x:za):Le (Qi n x) (Zi x):=by unfold Qi Zi;exact(.bind .rfl fun _=>(.bif (.bind .rfl fun _=> .rfl) (.bind .rfl fun _=>(.bif (.bind .rfl fun _=>(.need .rfl)) (.loop (fun _=>(.bif (.bind .rfl fun _=>(.bind .rfl fun _=>(.bif .rfl .rfl))) .rfl)) fun _=>(.join (.bind .rfl fun _=>(.bind .rfl fun _=>(.bif .rfl .rfl))) fun _=>(.join (.bif .rfl .rfl) fun _=>(.bind .rfl fun _=> .rfl))))))))
def ZM(n:Nat)(x:za×List UInt8):Option (za×List UInt8):=
 zg (zf (0,(⟨x.1.s,w64 (x.1.at_+1)⟩:za))) fun y1=>
 bif y1==(-1)then
  zg (ZB (65533,x.2)) fun y2=>
  some ((⟨x.1.s,w64 (x.1.at_+1)⟩:za),y2)
 else
  zg (QI y1) fun y3=>
  bif decide (y3<0)then
   zg (ql (wu8 y1)) fun y4=>
   need (zF x.2.length 1 1)<|
   some ((⟨x.1.s,w64 (w64 (x.1.at_+1)+1)⟩:za),x.2++[y4])
  else
   Vf n (fun(s5:(Int×Int)×za)=>
     bif decide (s5.1.2<6)then
      zg (zf (0,s5.2)) fun y6=>
      zg (QI y6) fun y7=>
      bif decide (y7<0)then
       some (LO.out (s5.1.1,s5.2))
      else
       some (LO.again ((ibOr IntKind.i64 (Om IntKind.i64 s5.1.1 4) y7,w64 (s5.1.2+1)),(⟨s5.2.s,w64 (s5.2.at_+1)⟩:za)))
     else
      some (LO.out (s5.1.1,s5.2)):(Int×Int)×za->Option (LO ((Int×Int)×za) (Int×za) _)) ((0,0),(⟨x.1.s,w64 (x.1.at_+1)⟩:za)) fun o8=>
   zW (X:=Int×za×List UInt8) (
     zg (zf (0,o8.2)) fun y9=>
     zg (Zx y9) fun y10=>
     bif y10 then
      some (LX.out (o8.1,(⟨o8.2.s,w64 (o8.2.at_+1)⟩:za),x.2))
     else
      some (LX.out (o8.1,o8.2,x.2))) fun j11=>
   zW (X:=Int×List UInt8) (
     bif j11.1==0 then
      some (LX.out (65533,j11.2.2))
     else
      some (LX.out (j11.1,j11.2.2))) fun j12=>
   zg (ZB (w32 j12.1,j12.2)) fun y13=>
   some (j11.2.1,y13)
theorem qQ(n:Nat)(x:za×List UInt8):Le (ZM n x) (zO x):=by unfold ZM zO;exact(.bind .rfl fun _=>(.bif (.bind .rfl fun _=> .rfl) (.bind .rfl fun _=>(.bif (.bind .rfl fun _=>(.need .rfl)) (.loop (fun _=>(.bif (.bind .rfl fun _=>(.bind .rfl fun _=>(.bif .rfl .rfl))) .rfl)) fun _=>(.join (.bind .rfl fun _=>(.bind .rfl fun _=>(.bif .rfl .rfl))) fun _=>(.join (.bif .rfl .rfl) fun _=>(.bind .rfl fun _=> .rfl))))))))
def QU(n:Nat)(x:za):Option (ze×za):=
 zg (zf (0,x)) fun y1=>
 Vf n (fun(s2:za×ze×List UInt8)=>
   zg (zf (0,s2.1)) fun y3=>
   bif y3==(-1)then
    some (LO.out (s2.1,s2.2.1,s2.2.2))
   else
    bif y3==y1 then
     some (LO.out ((⟨s2.1.s,w64 (s2.1.at_+1)⟩:za),s2.2.1,s2.2.2))
    else
     bif y3==10 then
      some (LO.ret ((⟨6,[],0,[],false⟩:ze),s2.1))
     else
      zg (zA (y3==92) (zf (1,s2.1)) (default:Int)) fun y4=>
      zg (zA (!(y4==(-1))&&y3==92) (zf (1,s2.1)) (default:Int)) fun y5=>
      bif bif y3==92 then bif y4==(-1)then true else y5==10 else false then
       some (LO.again ((⟨s2.1.s,if(s2.1.s.length:Int)<w64 (s2.1.at_+2)then(s2.1.s.length:Int)else w64 (s2.1.at_+2)⟩:za),s2.2.1,s2.2.2))
      else
       bif y3==92 then
        zg (ZM n (s2.1,s2.2.2)) fun y6=>
        some (LO.again (y6.1,s2.2.1,y6.2))
       else
        zg (ql (wu8 y3)) fun y7=>
        need (zF s2.2.2.length 1 1)<|
        some (LO.again ((⟨s2.1.s,w64 (s2.1.at_+1)⟩:za),s2.2.1,s2.2.2++[y7])):za×ze×List UInt8->Option (LO (za×ze×List UInt8) (za×ze×List UInt8) _)) ((⟨x.s,w64 (x.at_+1)⟩:za),(⟨0,[],0,[],false⟩:ze),[]) fun o8=>
 some ((⟨5,o8.2.2,0,[],false⟩:ze),o8.1)
theorem zd9(n:Nat)(x:za):Le (QU n x) (ZH x):=by unfold QU ZH;exact(.bind .rfl fun _=>(.loop (fun _=>(.bind .rfl fun _=>(.bif .rfl (.bif .rfl (.bif .rfl (.bind .rfl fun _=>(.bind .rfl fun _=>(.bif .rfl (.bif (.bind (qQ n _) fun _=> .rfl) (.bind .rfl fun _=>(.need .rfl))))))))))) fun _=> .rfl))
def Z4(n:Nat)(x:za):Option (Str×za):=
 Vf n (fun(s1:za×List UInt8)=>
   zg (zf (0,s1.1)) fun y2=>
   zg (Qt y2) fun y3=>
   bif y3 then
    zg (ql (wu8 y2)) fun y4=>
    need (zF s1.2.length 1 1)<|
    some (LO.again ((⟨s1.1.s,w64 (s1.1.at_+1)⟩:za),s1.2++[y4]))
   else
    zg (zA (y2 != (-1)) (zt (0,s1.1)) (default:Bool)) fun y5=>
    bif bif y2 != (-1)then y5 else false then
     zg (ZM n (s1.1,s1.2)) fun y6=>
     some (LO.again (y6.1,y6.2))
    else
     some (LO.ret (s1.2,s1.1)):za×List UInt8->Option (LO (za×List UInt8) (Unit) _)) (x,[]) fun o7=>
 none
theorem Qd(n:Nat)(x:za):Le (Z4 n x) (zP x):=by unfold Z4 zP;exact(.loop (fun _=>(.bind .rfl fun _=>(.bind .rfl fun _=>(.bif (.bind .rfl fun _=>(.need .rfl)) (.bind .rfl fun _=>(.bif (.bind (qQ n _) fun _=> .rfl) .rfl)))))) fun _=> .none)
def ZY(n:Nat)(x:za):Option za:=
 Vf n (fun(s1:za)=>
   zg (zf (0,s1)) fun y2=>
   zg (Zh y2) fun y3=>
   bif y3 then
    some (LO.again (⟨s1.s,w64 (s1.at_+1)⟩:za))
   else
    some (LO.out s1):za->Option (LO (za) (za) _)) x fun o4=>
 some o4
theorem Qn(n:Nat)(x:za):Le (ZY n x) (zR x):=by unfold ZY zR;exact(.loop (fun _=>(.bind .rfl fun _=>(.bind .rfl fun _=>(.bif .rfl .rfl)))) fun _=> .rfl)
def QA(n:Nat)(x:za):Option (Bool×za):=
 zW (X:=za) (
   zg (zf (0,x)) fun y1=>
   bif bif y1==43 then true else y1==45 then
    some (LX.out (⟨x.s,w64 (x.at_+1)⟩:za))
   else
    some (LX.out x)) fun j2=>
 zg (ZY n j2) fun y3=>
 zW (X:=Bool×za) (
   zg (zf (0,y3)) fun y4=>
   zg (zA (y4==46) (zf (1,y3)) (default:Int)) fun y5=>
   zg (zA (y4==46) (Zh y5) (default:Bool)) fun y6=>
   bif bif y4==46 then y6 else false then
    zg (ZY n (⟨y3.s,w64 (y3.at_+1)⟩:za)) fun y7=>
    some (LX.out (false,y7))
   else
    some (LX.out (true,y3))) fun j8=>
 zW (X:=Bool×za) (
   zg (zf (0,j8.2)) fun y9=>
   zg (zA (!(y9==101)) (zf (0,j8.2)) (default:Int)) fun y10=>
   bif bif y9==101 then true else y10==69 then
    zW (X:=(Bool×Int)×za) (
      zg (zf (1,j8.2)) fun y11=>
      bif bif y11==43 then true else y11==45 then
       some (LX.out ((j8.1,2),j8.2))
      else
       some (LX.out ((j8.1,1),j8.2))) fun j12=>
    zg (zf (j12.1.2,j12.2)) fun y13=>
    zg (Zh y13) fun y14=>
    bif y14 then
     zg (ZY n (⟨j12.2.s,w64 (j12.2.at_+j12.1.2)⟩:za)) fun y15=>
     some (LX.out (false,y15))
    else
     some (LX.out (j12.1.1,j12.2))
   else
    some (LX.out (j8.1,j8.2))) fun j16=>
 some (j16.1,j16.2)
theorem zdx(n:Nat)(x:za):Le (QA n x) (Zw x):=by unfold QA Zw;exact(.join (.bind .rfl fun _=>(.bif .rfl .rfl)) fun _=>(.bind (Qn n _) fun _=>(.join (.bind .rfl fun _=>(.bind .rfl fun _=>(.bind .rfl fun _=>(.bif (.bind (Qn n _) fun _=> .rfl) .rfl)))) fun _=>(.join (.bind .rfl fun _=>(.bind .rfl fun _=>(.bif (.join (.bind .rfl fun _=>(.bif .rfl .rfl)) fun _=>(.bind .rfl fun _=>(.bind .rfl fun _=>(.bif (.bind (Qn n _) fun _=> .rfl) .rfl)))) .rfl))) fun _=> .rfl))))
def PH(n:Nat)(x:Str):Option Int:=
 zg (geti x 0) fun y1=>
 zg (lh (x,[43,45])) fun y2=>
 zW (X:=Str×Int) (
   zg (QD (y2,[101,69])) fun y3=>
   bif decide (y3>=0)then
    need (decide (0<=w64 (y3+1))&&decide (w64 (y3+1)<=(y2.length:Int)))<|
    zg (lh (List.drop (w64 (y3+1)).toNat y2,[43,45])) fun y4=>
    need (decide (y4.length<=maxLen))<|
    Vf n (fun(s5:Int×Int)=>
      bif decide (s5.2<(y4.length:Int))then
       need (decide (0<=s5.2)&&decide (s5.2<(y4.length:Int)))<|
       zg y4[s5.2.toNat]? fun y6=>
       some (LO.again (if 1048576<w64 (w64 (10*s5.1)+w64 (wu8 ((y6.toNat:Int) - 48)))then 1048576 else w64 (w64 (10*s5.1)+w64 (wu8 ((y6.toNat:Int) - 48))),w64 (s5.2+1)))
      else
       some (LO.out s5.1):Int×Int->Option (LO (Int×Int) (Int) _)) (0,0) fun o7=>
    zW (X:=Str×Int×Int) (
      zg (geti y2 (w64 (y3+1))) fun y8=>
      bif (y8.toNat:Int)==45 then
       some (LX.out (y2,3,w64 (0 - o7)))
      else
       some (LX.out (y2,3,o7))) fun j9=>
    need (decide (0<=y3)&&decide (y3<=(j9.1.length:Int)))<|
    some (LX.out (List.take y3.toNat j9.1,w64 (j9.2.1+j9.2.2)))
   else
    some (LX.out (y2,3))) fun j10=>
 zg (cutF (j10.1,[46])) fun y11=>
 need (df y11.1.length y11.2.1.length)<|
 zW (X:=Str×Int) (
   bif decide (w64 (j10.2 - (y11.2.1.length:Int))<0)then
    need (decide (0<=(if w64 (((y11.1++y11.2.1).length:Int)+w64 (j10.2 - (y11.2.1.length:Int)))>0 then w64 (((y11.1++y11.2.1).length:Int)+w64 (j10.2 - (y11.2.1.length:Int)))else 0))&&decide ((if w64 (((y11.1++y11.2.1).length:Int)+w64 (j10.2 - (y11.2.1.length:Int)))>0 then w64 (((y11.1++y11.2.1).length:Int)+w64 (j10.2 - (y11.2.1.length:Int)))else 0)<=((y11.1++y11.2.1).length:Int)))<|
    some (LX.out (List.take (if w64 (((y11.1++y11.2.1).length:Int)+w64 (j10.2 - (y11.2.1.length:Int)))>0 then w64 (((y11.1++y11.2.1).length:Int)+w64 (j10.2 - (y11.2.1.length:Int)))else 0).toNat (y11.1++y11.2.1),w64 (j10.2 - (y11.2.1.length:Int))))
   else
    some (LX.out (y11.1++y11.2.1,w64 (j10.2 - (y11.2.1.length:Int))))) fun j12=>
 need (decide (j12.1.length<=maxLen))<|
 Vf n (fun(s13:Int×Int)=>
   bif decide (s13.2<(j12.1.length:Int))then
    need (decide (0<=s13.2)&&decide (s13.2<(j12.1.length:Int)))<|
    zg j12.1[s13.2.toNat]? fun y14=>
    some (LO.again (if 1000000000000<w64 (w64 (10*s13.1)+w64 (wu8 ((y14.toNat:Int) - 48)))then 1000000000000 else w64 (w64 (10*s13.1)+w64 (wu8 ((y14.toNat:Int) - 48))),w64 (s13.2+1)))
   else
    some (LO.out s13.1):Int×Int->Option (LO (Int×Int) (Int) _)) (0,0) fun o15=>
 Vf n (fun(s16:Int×Int)=>
   bif bif bif decide (s16.1>0)then decide (s16.2>0)else false then decide (s16.2<1000000000000)else false then
    some (LO.again (w64 (s16.1 - 1),if 1000000000000<w64 (10*s16.2)then 1000000000000 else w64 (10*s16.2)))
   else
    some (LO.out s16.2):Int×Int->Option (LO (Int×Int) (Int) _)) (j12.2,o15) fun o17=>
 zW (X:=Int) (
   bif (y1.toNat:Int)==45 then
    some (LX.out (w64 (0 - o17)))
   else
    some (LX.out o17)) fun j18=>
 some j18
theorem zfJ(n:Nat)(x:Str):Le (PH n x) (Zz x):=by unfold PH Zz;exact(.bind .rfl fun _=>(.bind .rfl fun _=>(.join (.bind .rfl fun _=>(.bif (.need (.bind .rfl fun _=>(.need (.loop (fun _=>(.bif (.need (.bind .rfl fun _=> .rfl)) .rfl)) fun _=>(.join (.bind .rfl fun _=>(.bif .rfl .rfl)) fun _=>(.need .rfl)))))) .rfl)) fun _=>(.bind .rfl fun _=>(.need (.join (.bif (.need .rfl) .rfl) fun _=>(.need (.loop (fun _=>(.bif (.need (.bind .rfl fun _=> .rfl)) .rfl)) fun _=>(.loop (fun _=>(.bif .rfl .rfl)) fun _=>(.join (.bif .rfl .rfl) fun _=> .rfl))))))))))
def QB(n:Nat)(x:za):Option (ze×za):=
 zg (QA n x) fun y1=>
 need (decide (0<=x.at_)&&(decide (x.at_<=y1.2.at_)&&decide (y1.2.at_<=(y1.2.s.length:Int))))<|
 zg (PH n (List.drop x.at_.toNat (List.take y1.2.at_.toNat y1.2.s))) fun y2=>
 zW (X:=za×ze×ze) (
   zg (zy (0,y1.2)) fun y3=>
   bif y3 then
    zg (Z4 n y1.2) fun y4=>
    some (LX.out (y4.2,(⟨0,[],0,[],false⟩:ze),(⟨12,[],y2,y4.1,y1.1⟩:ze)))
   else
    zg (zf (0,y1.2)) fun y5=>
    bif y5==37 then
     some (LX.out ((⟨y1.2.s,w64 (y1.2.at_+1)⟩:za),(⟨0,[],0,[],false⟩:ze),(⟨11,[],y2,[],false⟩:ze)))
    else
     some (LX.out (y1.2,(⟨0,[],0,[],false⟩:ze),(⟨10,[],y2,[],y1.1⟩:ze)))) fun j6=>
 some (j6.2.2,j6.1)
theorem zdy(n:Nat)(x:za):Le (QB n x) (Zf x):=by unfold QB Zf;exact(.bind (zdx n _) fun _=>(.need (.bind (zfJ n _) fun _=>(.join (.bind .rfl fun _=>(.bif (.bind (Qd n _) fun _=> .rfl) (.bind .rfl fun _=>(.bif .rfl .rfl)))) fun _=> .rfl))))
def Yv(n:Nat)(x:Str):Option Str:=
 need (decide (x.length<=maxLen))<|
 Vf n (fun(s1:Int×List UInt8)=>
   bif decide (s1.1<(x.length:Int))then
    zW (X:=Int×List UInt8) (
      need (decide (0<=s1.1)&&decide (s1.1<(s1.2.length:Int)))<|
      zg s1.2[s1.1.toNat]? fun y2=>
      bif bif decide (65<=(y2.toNat:Int))then decide ((y2.toNat:Int)<=90)else false then
       need (decide (0<=s1.1)&&decide (s1.1<(s1.2.length:Int)))<|
       zg s1.2[s1.1.toNat]? fun y3=>
       need (decide (0<=s1.1)&&decide (s1.1<(s1.2.length:Int)))<|
       zg s1.2[s1.1.toNat]? fun y4=>
       zg (ql (ibOr IntKind.u8 (y3.toNat:Int) 32)) fun y5=>
       some (LX.out (s1.1,List.set s1.2 s1.1.toNat y5))
      else
       some (LX.out (s1.1,s1.2))) fun j6=>
    some (LO.again (w64 (j6.1+1),j6.2))
   else
    some (LO.out s1.2):Int×List UInt8->Option (LO (Int×List UInt8) (List UInt8) _)) (0,x) fun o7=>
 some o7
theorem rG(n:Nat)(x:Str):Le (Yv n x) (qa x):=by unfold Yv qa;exact(.need (.loop (fun _=>(.bif (.join (.need (.bind .rfl fun _=>(.bif (.need (.bind .rfl fun _=>(.need (.bind .rfl fun _=>(.bind .rfl fun _=> .rfl))))) .rfl))) fun _=> .rfl) .rfl)) fun _=> .rfl))
def XA(n:Nat)(x:Str×Str):Option Bool:=
 zg (Yv n x.1) fun y1=>
 zg (Yv n x.2) fun y2=>
 some (y1==y2)
theorem gQ(n:Nat)(x:Str×Str):Le (XA n x) (qp x):=by unfold XA qp;exact(.bind (rG n _) fun _=>(.bind (rG n _) fun _=> .rfl))
def qO(n:Nat)(x:za):Option (ze×za):=
 Vf n (fun(s1:za×ze)=>
   zg (zf (0,s1.1)) fun y2=>
   bif y2==(-1)then
    some (LO.ret ((⟨8,[],0,[],false⟩:ze),s1.1))
   else
    zg (zt (0,s1.1)) fun y3=>
    bif y3 then
     zg (Qi n s1.1) fun y4=>
     some (LO.again (y4.1,s1.2))
    else
     zg (geti s1.1.s (w64 (w64 (s1.1.at_+1) - 1))) fun y5=>
     bif (y5.toNat:Int)==41 then
      some (LO.ret ((⟨8,[],0,[],false⟩:ze),(⟨s1.1.s,w64 (s1.1.at_+1)⟩:za)))
     else
      some (LO.again ((⟨s1.1.s,w64 (s1.1.at_+1)⟩:za),s1.2)):za×ze->Option (LO (za×ze) (Unit) _)) (x,(⟨0,[],0,[],false⟩:ze)) fun o6=>
 none
theorem MH(n:Nat)(x:za):Le (qO n x) (Zy x):=by unfold qO Zy;exact(.loop (fun _=>(.bind .rfl fun _=>(.bif .rfl (.bind .rfl fun _=>(.bif (.bind (zcU n _) fun _=> .rfl) (.bind .rfl fun _=>(.bif .rfl .rfl))))))) fun _=> .none)
def RH(n:Nat)(x:za):Option (ze×za):=
 zg (ZR n x) fun y1=>
 Vf n (fun(s2:za×ze×List UInt8)=>
   zg (zf (0,s2.1)) fun y3=>
   zW (X:=Int×za×ze×List UInt8) (
     zg (Zx y3) fun y4=>
     bif y4 then
      zg (ZR n s2.1) fun y5=>
      zg (zf (0,y5)) fun y6=>
      bif bif y6 != 41 then y6 != (-1)else false then
       zg (qO n y5) fun y7=>
       some (LX.ret (LO.ret (y7.1,y7.2)))
      else
       some (LX.out (y6,y5,s2.2.1,s2.2.2))
     else
      some (LX.out (y3,s2.1,s2.2.1,s2.2.2))) fun j8=>
   bif j8.1==(-1)then
    some (LO.ret ((⟨7,j8.2.2.2,0,[],false⟩:ze),j8.2.1))
   else
    bif j8.1==41 then
     some (LO.ret ((⟨7,j8.2.2.2,0,[],false⟩:ze),(⟨j8.2.1.s,w64 (j8.2.1.at_+1)⟩:za)))
    else
     zg (zA (!(bif bif bif bif j8.1==34 then true else j8.1==39 then true else j8.1==40 then true else decide (j8.1<=8)then true else j8.1==11)) (ZT (j8.1,14,31)) (default:Bool)) fun y9=>
     bif bif bif bif bif bif bif j8.1==34 then true else j8.1==39 then true else j8.1==40 then true else decide (j8.1<=8)then true else j8.1==11 then true else y9 then true else j8.1==127 then
      zg (qO n j8.2.1) fun y10=>
      some (LO.ret (y10.1,y10.2))
     else
      bif j8.1 != 92 then
       zg (ql (wu8 j8.1)) fun y11=>
       need (zF j8.2.2.2.length 1 1)<|
       some (LO.again ((⟨j8.2.1.s,w64 (j8.2.1.at_+1)⟩:za),j8.2.2.1,j8.2.2.2++[y11]))
      else
       zg (zt (0,j8.2.1)) fun y12=>
       bif y12 then
        zg (ZM n (j8.2.1,j8.2.2.2)) fun y13=>
        some (LO.again (y13.1,j8.2.2.1,y13.2))
       else
        zg (qO n j8.2.1) fun y14=>
        some (LO.ret (y14.1,y14.2)):za×ze×List UInt8->Option (LO (za×ze×List UInt8) (Unit) _)) (y1,(⟨0,[],0,[],false⟩:ze),[]) fun o15=>
 none
theorem zfI(n:Nat)(x:za):Le (RH n x) (qb x):=by unfold RH qb;exact(.bind (qP n _) fun _=>(.loop (fun _=>(.bind .rfl fun _=>(.join (.bind .rfl fun _=>(.bif (.bind (qP n _) fun _=>(.bind .rfl fun _=>(.bif (.bind (MH n _) fun _=> .rfl) .rfl))) .rfl)) fun _=>(.bif .rfl (.bif .rfl (.bind .rfl fun _=>(.bif (.bind (MH n _) fun _=> .rfl) (.bif (.bind .rfl fun _=>(.need .rfl)) (.bind .rfl fun _=>(.bif (.bind (qQ n _) fun _=> .rfl) (.bind (MH n _) fun _=> .rfl))))))))))) fun _=> .none))
def OH(n:Nat)(x:za):Option (ze×za):=
 zg (Z4 n x) fun y1=>
 zg (zf (0,y1.2)) fun y2=>
 bif y2 != 40 then
  some ((⟨1,y1.1,0,[],false⟩:ze),y1.2)
 else
  zW (X:=za×ze) (
    zg (XA n (y1.1,[117,114,108])) fun y3=>
    bif y3 then
     zg (ZR n (⟨y1.2.s,w64 (y1.2.at_+1)⟩:za)) fun y4=>
     zg (zf (0,y4)) fun y5=>
     bif bif y5 != 34 then y5 != 39 else false then
      zg (RH n (⟨y1.2.s,w64 (y1.2.at_+1)⟩:za)) fun y6=>
      some (LX.ret (y6.1,y6.2))
     else
      some (LX.out ((⟨y1.2.s,w64 (y1.2.at_+1)⟩:za),(⟨0,[],0,[],false⟩:ze)))
    else
     some (LX.out ((⟨y1.2.s,w64 (y1.2.at_+1)⟩:za),(⟨0,[],0,[],false⟩:ze)))) fun j7=>
  some ((⟨2,y1.1,0,[],false⟩:ze),j7.1)
theorem zey(n:Nat)(x:za):Le (OH n x) (Zj x):=by unfold OH Zj;exact(.bind (Qd n _) fun _=>(.bind .rfl fun _=>(.bif .rfl (.join (.bind (gQ n _) fun _=>(.bif (.bind (qP n _) fun _=>(.bind .rfl fun _=>(.bif (.bind (zfI n _) fun _=> .rfl) .rfl))) .rfl)) fun _=> .rfl))))
def KH(n:Nat)(x:za):Option (ze×za):=
 zg (zf (0,x)) fun y1=>
 need (decide (0<=x.at_)&&decide (x.at_<=(x.s.length:Int)))<|
 zg (Zx y1) fun y2=>
 bif y2 then
  zg (ZR n x) fun y3=>
  some ((⟨13,[],0,[],false⟩:ze),y3)
 else
  bif bif y1==34 then true else y1==39 then
   zg (QU n x) fun y4=>
   some (y4.1,y4.2)
  else
   zg (zA (y1==35) (zf (1,x)) (default:Int)) fun y5=>
   zg (zA (y1==35) (Qt y5) (default:Bool)) fun y6=>
   zg (zA (!y6&&y1==35) (zt (1,x)) (default:Bool)) fun y7=>
   bif bif y1==35 then bif y6 then true else y7 else false then
    zg (zy (1,x)) fun y8=>
    zg (Z4 n (⟨x.s,w64 (x.at_+1)⟩:za)) fun y9=>
    some ((⟨4,y9.1,0,[],y8⟩:ze),y9.2)
   else
    zg (Zo x) fun y10=>
    bif y10 then
     zg (QB n x) fun y11=>
     some (y11.1,y11.2)
    else
     zg (strings_HasPrefix (List.drop x.at_.toNat x.s,[45,45,62])) fun y12=>
     bif y12 then
      some ((⟨15,[],0,[],false⟩:ze),(⟨x.s,w64 (x.at_+3)⟩:za))
     else
      zg (strings_HasPrefix (List.drop x.at_.toNat x.s,[60,33,45,45])) fun y13=>
      bif y13 then
       some ((⟨14,[],0,[],false⟩:ze),(⟨x.s,w64 (x.at_+4)⟩:za))
      else
       zg (zA (y1==64) (zy (1,x)) (default:Bool)) fun y14=>
       bif bif y1==64 then y14 else false then
        zg (Z4 n (⟨x.s,w64 (x.at_+1)⟩:za)) fun y15=>
        some ((⟨3,y15.1,0,[],false⟩:ze),y15.2)
       else
        zg (zy (0,x)) fun y16=>
        bif y16 then
         zg (OH n x) fun y17=>
         some (y17.1,y17.2)
        else
         zg (strings_IndexByte ([58,59,44,91,93,40,41,123,125],wu8 y1)) fun y18=>
         bif decide (y18>=0)then
          some ((⟨wu8 (16+wu8 y18),[],0,[],false⟩:ze),(⟨x.s,w64 (x.at_+1)⟩:za))
         else
          need (decide (1<=((List.drop x.at_.toNat x.s).length:Int)))<|
          some ((⟨9,List.take 1 (List.drop x.at_.toNat x.s),0,[],false⟩:ze),(⟨x.s,w64 (x.at_+1)⟩:za))
theorem ze6(n:Nat)(x:za):Le (KH n x) (ZJ x):=by unfold KH ZJ;exact(.bind .rfl fun _=>(.need (.bind .rfl fun _=>(.bif (.bind (qP n _) fun _=> .rfl) (.bif (.bind (zd9 n _) fun _=> .rfl) (.bind .rfl fun _=>(.bind .rfl fun _=>(.bind .rfl fun _=>(.bif (.bind .rfl fun _=>(.bind (Qd n _) fun _=> .rfl)) (.bind .rfl fun _=>(.bif (.bind (zdy n _) fun _=> .rfl) (.bind .rfl fun _=>(.bif .rfl (.bind .rfl fun _=>(.bif .rfl (.bind .rfl fun _=>(.bif (.bind (Qd n _) fun _=> .rfl) (.bind .rfl fun _=>(.bif (.bind (zey n _) fun _=> .rfl) (.bind .rfl fun _=>(.bif .rfl (.need .rfl))))))))))))))))))))))
def kG(n:Nat)(x:Str):Option (Int×List ze):=
 zg (ji x) fun y1=>
 bif y1.2 != 0 then
  some (y1.2,[])
 else
  zg (qo n (⟨y1.1,0⟩:za)) fun y2=>
  Vf n (fun(s3:Int×List ze×za)=>
    bif decide (s3.2.2.at_<(y1.1.length:Int))then
     bif decide (w64 (s3.1+1)>1500)then
      some (LO.ret (4,s3.2.1))
     else
      zg (KH n s3.2.2) fun y4=>
      zg (qX ((y4.1,s3.2.2.at_,y4.2.at_),s3.2.1)) fun y5=>
      zg (qo n y4.2) fun y6=>
      some (LO.again (w64 (s3.1+1),y5,y6))
    else
     some (LO.out (s3.2.1,s3.2.2)):Int×List ze×za->Option (LO (Int×List ze×za) (List ze×za) _)) (0,[],y2) fun o7=>
  some (0,o7.1)
theorem N9(n:Nat)(x:Str):Le (kG n x) (Po x):=by unfold kG Po;exact(.bind .rfl fun _=>(.bif .rfl (.bind (mR n _) fun _=>(.loop (fun _=>(.bif (.bif .rfl (.bind (ze6 n _) fun _=>(.bind .rfl fun _=>(.bind (mR n _) fun _=> .rfl)))) .rfl)) fun _=> .rfl))))
def uA(n:Nat)(x:Str):Option (List ze×Int):=
 zg (kG n x) fun y1=>
 bif y1.1 != 0 then
  some ([],y1.1)
 else
  some (y1.2,0)
theorem DR(n:Nat)(x:Str):Le (uA n x) (Qf x):=by unfold uA Qf;exact(.bind (N9 n _) fun _=>(.bif .rfl .rfl))
def YG(n:Nat)(qy:List zb×Int->Option zw)(x:List zb×Int):Option zw:=
 Vf n (fun(s1:Int×zw)=>
   bif decide (s1.1<(x.1.length:Int))then
    zW (X:=Int×zw) (
      zg (geti x.1 s1.1) fun y2=>
      zg (qw y2.token.kind) fun y3=>
      zW (X:=zw) (
        bif bif bif x.2 != 0 then y2.token.kind==x.2 else false then true else bif y3==0 then decide ((y2.list.length:Int)>0)else false then
         some (LX.out (⟨s1.2.depth,w64 (s1.2.tokens+1),true⟩:zw))
        else
         some (LX.out (⟨s1.2.depth,w64 (s1.2.tokens+1),s1.2.bad⟩:zw))) fun j4=>
      bif y3==0 then
       some (LX.out (s1.1,j4))
      else
       zg (qy (y2.list,y3)) fun y5=>
       some (LX.out (s1.1,(⟨if w64 (y5.depth+1)>j4.depth then w64 (y5.depth+1)else j4.depth,w64 (w64 (j4.tokens+y5.tokens)+1),bif j4.bad then true else y5.bad⟩:zw)))) fun j6=>
    some (LO.again (w64 (j6.1+1),j6.2))
   else
    some (LO.out s1.2):Int×zw->Option (LO (Int×zw) (zw) _)) (0,(⟨0,0,false⟩:zw)) fun o7=>
 some o7
def bP(n:Nat):List zb×Int->Option zw:=bg (YG n) n
theorem Y7(n:Nat)(qy nest_look':List zb×Int->Option zw)(h_nest_look: ∀z,Le (qy z) (nest_look' z))(x:List zb×Int):Le (YG n qy x) (Kr nest_look' x):=by unfold YG Kr;exact(.loop (fun _=>(.bif (.join (.bind .rfl fun _=>(.bind .rfl fun _=>(.join (.bif .rfl .rfl) fun _=>(.bif .rfl (.bind (h_nest_look _) fun _=> .rfl))))) fun _=> .rfl) .rfl)) fun _=> .rfl)
theorem J5(n:Nat)(x:List zb×Int):Le (bP n x) (qy x):=Le.rec (fun S S' h x=>Y7 n S S' h x) n x
def iA(n:Nat)(x:List zb):Option Int:=
 zg (bP n (x,0)) fun y1=>
 bif decide (y1.depth>16)then
  some 20
 else
  bif decide (y1.tokens>1500)then
   some 4
  else
   bif y1.bad then
    some 8
   else
    some 0
theorem EQ(n:Nat)(x:List zb):Le (iA n x) (qI x):=by unfold iA qI;exact(.bind (J5 n _) fun _=>(.bif .rfl (.bif .rfl (.bif .rfl .rfl))))
def BH(n:Nat)(ZG:List zb×List ze->Option (List ze))(x:List zb×List ze):Option (List ze):=
 Vf n (fun(s1:Int×List ze)=>
   bif decide (s1.1<(x.1.length:Int))then
    zW (X:=Int×List ze) (
      zg (geti x.1 s1.1) fun y2=>
      need (zF s1.2.length 1 56)<|
      zg (qw y2.token.kind) fun y3=>
      bif y3 != 0 then
       zg (ZG (y2.list,s1.2++[y2.token])) fun y4=>
       need (zF y4.length 1 56)<|
       some (LX.out (s1.1,y4++[(⟨y3,[],0,[],false⟩:ze)]))
      else
       some (LX.out (s1.1,s1.2++[y2.token]))) fun j5=>
    some (LO.again (w64 (j5.1+1),j5.2))
   else
    some (LO.out s1.2):Int×List ze->Option (LO (Int×List ze) (List ze) _)) (0,x.2) fun o6=>
 some o6
def CQ(n:Nat):List zb×List ze->Option (List ze):=bg (BH n) n
theorem J9(n:Nat)(ZG nest_flat_3':List zb×List ze->Option (List ze))(h_nest_flat_3: ∀z,Le (ZG z) (nest_flat_3' z))(x:List zb×List ze):Le (BH n ZG x) (Sr nest_flat_3' x):=by unfold BH Sr;exact(.loop (fun _=>(.bif (.join (.bind .rfl fun _=>(.need (.bind .rfl fun _=>(.bif (.bind (h_nest_flat_3 _) fun _=>(.need .rfl)) .rfl)))) fun _=> .rfl) .rfl)) fun _=> .rfl)
theorem O8(n:Nat)(x:List zb×List ze):Le (CQ n x) (ZG x):=Le.rec (fun S S' h x=>J9 n S S' h x) n x
def WA(n:Nat)(x:List zb):Option (List ze):=
 Vf n (fun(s1:Int×List ze)=>
   bif decide (s1.1<(x.length:Int))then
    zW (X:=Int×List ze) (
      zg (geti x s1.1) fun y2=>
      need (zF s1.2.length 1 56)<|
      zg (qw y2.token.kind) fun y3=>
      bif y3 != 0 then
       zg (CQ n (y2.list,s1.2++[y2.token])) fun y4=>
       need (zF y4.length 1 56)<|
       some (LX.out (s1.1,y4++[(⟨y3,[],0,[],false⟩:ze)]))
      else
       some (LX.out (s1.1,s1.2++[y2.token]))) fun j5=>
    some (LO.again (w64 (j5.1+1),j5.2))
   else
    some (LO.out s1.2):Int×List ze->Option (LO (Int×List ze) (List ze) _)) (0,[]) fun o6=>
 some o6
theorem fQ(n:Nat)(x:List zb):Le (WA n x) (Qh x):=by unfold WA Qh;exact(.loop (fun _=>(.bif (.join (.bind .rfl fun _=>(.need (.bind .rfl fun _=>(.bif (.bind (O8 n _) fun _=>(.need .rfl)) .rfl)))) fun _=> .rfl) .rfl)) fun _=> .rfl)
def IG(n:Nat)(x:List zb):Option (List ze×Int):=
 zg (iA n x) fun y1=>
 bif y1 != 0 then
  some ([],y1)
 else
  zg (WA n x) fun y2=>
  some (y2,0)
theorem M5(n:Nat)(x:List zb):Le (IG n x) (Ao x):=by unfold IG Ao;exact(.bind (EQ n _) fun _=>(.bif .rfl (.bind (fQ n _) fun _=> .rfl)))
def bG(n:Nat)(x:Str):Option Bool:=
 zg (zA (!(bif x==[]then true else decide ((x.length:Int)>64))) (strings_IndexByte (x,0)) (default:Int)) fun y1=>
 bif bif bif x==[]then true else decide ((x.length:Int)>64)then true else decide (y1>=0)then
  some false
 else
  zg (strings_HasPrefix (x,[45,45])) fun y2=>
  bif y2 then
   some (!(x==[45,45]))
  else
   zg (Yv n x) fun y3=>
   some (x==y3)
theorem V7(n:Nat)(x:Str):Le (bG n x) (Mo x):=by unfold bG Mo;exact(.bind .rfl fun _=>(.bif .rfl (.bind .rfl fun _=>(.bif .rfl (.bind (rG n _) fun _=> .rfl)))))
def jA(n:Nat)(x:List ze):Option Int:=
 zg (geti x 0) fun y1=>
 bif bif y1.kind==9 then y1.text==[92]else false then
  zg (Zu ((1,13),x)) fun y2=>
  bif !y2 then
   some 0
  else
   some 2
 else
  zg (zA (y1.kind==2) (XA n (y1.text,[117,114,108])) (default:Bool)) fun y3=>
  bif bif y1.kind==2 then y3 else false then
   zW (X:=Int) (
     zg (Zu ((1,13),x)) fun y4=>
     bif y4 then
      some (LX.out 2)
     else
      some (LX.out 1)) fun j5=>
   zg (Zu ((j5,5),x)) fun y6=>
   bif !y6 then
    some 0
   else
    some (w64 (j5+1))
  else
   some 1
theorem FQ(n:Nat)(x:List ze):Le (jA n x) (qW x):=by unfold jA qW;exact(.bind .rfl fun _=>(.bif (.bind .rfl fun _=>(.bif .rfl .rfl)) (.bind (.cond (gQ n _)) fun _=>(.bif (.join (.bind .rfl fun _=>(.bif .rfl .rfl)) fun _=>(.bind .rfl fun _=>(.bif .rfl .rfl))) .rfl))))
def nA(n:Nat)(x:List ze):Option Int:=
 bif decide ((x.length:Int)>1500)then
  some 4
 else
  Vf n (fun(s1:Int)=>
    bif decide (s1<(x.length:Int))then
     zg (geti x s1) fun y2=>
     zg (pq y2) fun y3=>
     need (decide (0<=s1)&&decide (s1<=(x.length:Int))|| !(!(!y3)))<|
     zg (zA (!(!y3)) (jA n (List.drop s1.toNat x)) (default:Int)) fun y4=>
     bif bif !y3 then true else y4==0 then
      some (LO.ret 8)
     else
      some (LO.again (w64 (s1+1)))
    else
     some (LO.out ()):Int->Option (LO (Int) (Unit) _)) 0 fun o5=>
  some 0
theorem GQ(n:Nat)(x:List ze):Le (nA n x) (QM x):=by unfold nA QM;exact(.bif .rfl (.loop (fun _=>(.bif (.bind .rfl fun _=>(.bind .rfl fun _=>(.need (.bind (.cond (FQ n _)) fun _=>(.bif .rfl .rfl))))) .rfl)) fun _=> .rfl))
def FH(n:Nat)(zk:List zb->Option Bool)(x:zb):Option Bool:=
 zg (Zp ((⟨x.token,x.list⟩:zb),20)) fun y1=>
 zg (zA (!y1) (Zp ((⟨x.token,x.list⟩:zb),22)) (default:Bool)) fun y2=>
 zg (zA (!(bif y1 then true else y2)) (Zp ((⟨x.token,x.list⟩:zb),24)) (default:Bool)) fun y3=>
 zg (zA (!(bif bif y1 then true else y2 then true else y3)) (zk x.list) (default:Bool)) fun y4=>
 some (bif bif bif y1 then true else y2 then true else y3 then true else y4)
theorem U9(n:Nat)(zk decl_closers':List zb->Option Bool)(h_decl_closers: ∀z,Le (zk z) (decl_closers' z))(x:zb):Le (FH n zk x) (qD decl_closers' x):=by unfold FH qD;exact(.bind .rfl fun _=>(.bind .rfl fun _=>(.bind .rfl fun _=>(.bind (.cond (h_decl_closers _)) fun _=> .rfl))))
def Qp(n:Nat)(zk:List zb->Option Bool)(x:List zb):Option Int:=
 Vf n (fun(s1:Int)=>
   bif decide (s1<(x.length:Int))then
    zg (geti x s1) fun y2=>
    zg (FH n zk (⟨y2.token,y2.list⟩:zb)) fun y3=>
    bif y3 then
     some (LO.ret s1)
    else
     some (LO.again (w64 (s1+1)))
   else
    some (LO.out ()):Int->Option (LO (Int) (Unit) _)) 0 fun o4=>
 some (-1)
theorem zdg(n:Nat)(zk decl_closers':List zb->Option Bool)(h_decl_closers: ∀z,Le (zk z) (decl_closers' z))(x:List zb):Le (Qp n zk x) (ZL decl_closers' x):=by unfold Qp ZL;exact(.loop (fun _=>(.bif (.bind .rfl fun _=>(.bind (U9 n _ _ h_decl_closers _) fun _=>(.bif .rfl .rfl))) .rfl)) fun _=> .rfl)
def qN(n:Nat)(zk:List zb->Option Bool)(x:List zb):Option Bool:=
 zg (Qp n zk x) fun y1=>
 some (decide (y1>=0))
theorem zce(n:Nat)(zk decl_closers':List zb->Option Bool)(h_decl_closers: ∀z,Le (zk z) (decl_closers' z))(x:List zb):Le (qN n zk x) (Zm decl_closers' x):=by unfold qN Zm;exact(.bind (zdg n _ _ h_decl_closers _) fun _=> .rfl)
def JH(n:Nat)(zk:List zb->Option Bool)(x:List zb):Option Bool:=
 zg (qN n zk x) fun y1=>
 some y1
def iQ(n:Nat):List zb->Option Bool:=bg (JH n) n
theorem R9(n:Nat)(zk decl_closers':List zb->Option Bool)(h_decl_closers: ∀z,Le (zk z) (decl_closers' z))(x:List zb):Le (JH n zk x) (QL decl_closers' x):=by unfold JH QL;exact(.bind (zce n _ _ h_decl_closers _) fun _=> .rfl)
theorem O9(n:Nat)(x:List zb):Le (iQ n x) (zk x):=Le.rec (fun S S' h x=>R9 n S S' h x) n x
def qU(n:Nat)(x:List zb):Option Int:=
 Vf n (fun(s1:Int)=>
   bif decide (s1<(x.length:Int))then
    zg (geti x s1) fun y2=>
    zg (Yr (⟨y2.token,y2.list⟩:zb)) fun y3=>
    bif y3 then
     some (LO.ret s1)
    else
     some (LO.again (w64 (s1+1)))
   else
    some (LO.out ()):Int->Option (LO (Int) (Unit) _)) 0 fun o4=>
 some (-1)
theorem zcE(n:Nat)(x:List zb):Le (qU n x) (Zq x):=by unfold qU Zq;exact(.loop (fun _=>(.bif (.bind .rfl fun _=>(.bind .rfl fun _=>(.bif .rfl .rfl))) .rfl)) fun _=> .rfl)
def qx(n:Nat)(x:List zb):Option Bool:=
 zg (qU n x) fun y1=>
 some (decide (y1>=0))
theorem zbR(n:Nat)(x:List zb):Le (qx n x) (Za x):=by unfold qx Za;exact(.bind (zcE n _) fun _=> .rfl)
def dG(n:Nat)(x:zI):Option Int:=
 zg (IG n x.value) fun y1=>
 zg (bG n x.name) fun y2=>
 zg (zA (!(bif !y2 then true else y1.2 != 0)) (nA n y1.1) (default:Int)) fun y3=>
 zg (zA (!(bif bif !y2 then true else y1.2 != 0 then true else y3 != 0)) (iQ n x.value) (default:Bool)) fun y4=>
 bif bif bif bif !y2 then true else y1.2 != 0 then true else y3 != 0 then true else y4 then
  some 8
 else
  zg (qx n x.value) fun y5=>
  bif y5 then
   some 8
  else
   zg (zA ((x.value.length:Int)==0) (strings_HasPrefix (x.name,[45,45])) (default:Bool)) fun y6=>
   zg (zA (decide ((x.value.length:Int)>0)&& !(bif (x.value.length:Int)==0 then !y6 else false)) (geti x.value 0) (default:zb)) fun y7=>
   zg (zA (decide ((x.value.length:Int)>0)&& !(bif (x.value.length:Int)==0 then !y6 else false)) (Zp ((⟨y7.token,y7.list⟩:zb),13)) (default:Bool)) fun y8=>
   zg (zA (!y8&&(decide ((x.value.length:Int)>0)&& !(bif (x.value.length:Int)==0 then !y6 else false))) (geti x.value (w64 ((x.value.length:Int) - 1))) (default:zb)) fun y9=>
   zg (zA (!y8&&(decide ((x.value.length:Int)>0)&& !(bif (x.value.length:Int)==0 then !y6 else false))) (Zp ((⟨y9.token,y9.list⟩:zb),13)) (default:Bool)) fun y10=>
   bif bif bif (x.value.length:Int)==0 then !y6 else false then true else bif decide ((x.value.length:Int)>0)then bif y8 then true else y10 else false then
    some 8
   else
    some 0
theorem X7(n:Nat)(x:zI):Le (dG n x) (Mk x):=by unfold dG Mk;exact(.bind (M5 n _) fun _=>(.bind (V7 n _) fun _=>(.bind (.cond (GQ n _)) fun _=>(.bind (.cond (O9 n _)) fun _=>(.bif .rfl (.bind (zbR n _) fun _=>(.bif .rfl (.bind .rfl fun _=>(.bind .rfl fun _=>(.bind .rfl fun _=>(.bind .rfl fun _=>(.bind .rfl fun _=>(.bif .rfl .rfl)))))))))))))
def yG(n:Nat)(x:Str×Int):Option (List UInt8):=
 Vf n (fun(s1:Int×List UInt8)=>
   bif decide (s1.1<(x.1.length:Int))then
    zW (X:=Int×List UInt8) (
      zg (geti x.1 s1.1) fun y2=>
      zg (qV (y2.toNat:Int)) fun y3=>
      zg (zA (!(decide (s1.1>=x.2))&&y3) (ZP (y2.toNat:Int)) (default:Bool)) fun y4=>
      bif bif bif y3 then bif decide (s1.1>=x.2)then true else !y4 else false then bif x.2==0 then true else !(x.1==[45])else false then
       zg (ql (y2.toNat:Int)) fun y5=>
       need (zF s1.2.length 1 1)<|
       some (LX.out (s1.1,s1.2++[y5]))
      else
       zg (Zc ((y2.toNat:Int),s1.2)) fun y6=>
       some (LX.out (s1.1,y6))) fun j7=>
    some (LO.again (w64 (j7.1+1),j7.2))
   else
    some (LO.out s1.2):Int×List UInt8->Option (LO (Int×List UInt8) (List UInt8) _)) (0,[]) fun o8=>
 some o8
theorem R8(n:Nat)(x:Str×Int):Le (yG n x) (Vo x):=by unfold yG Vo;exact(.loop (fun _=>(.bif (.join (.bind .rfl fun _=>(.bind .rfl fun _=>(.bind .rfl fun _=>(.bif (.bind .rfl fun _=>(.need .rfl)) (.bind .rfl fun _=> .rfl))))) fun _=> .rfl) .rfl)) fun _=> .rfl)
def KG(n:Nat)(x:Str):Option (Str×Int):=
 zg (zA (!(x==[])) (strings_IndexByte (x,0)) (default:Int)) fun y1=>
 bif bif x==[]then true else decide (y1>=0)then
  some ([],8)
 else
  zg (ZQ x) fun y2=>
  zg (yG n (x,y2)) fun y3=>
  bif bif decide ((x.length:Int)>4000)then true else decide ((y3.length:Int)>4000)then
   some ([],28)
  else
   some (y3,0)
theorem O5(n:Nat)(x:Str):Le (KG n x) (Eo x):=by unfold KG Eo;exact(.bind .rfl fun _=>(.bif .rfl (.bind .rfl fun _=>(.bind (R8 n _) fun _=>(.bif .rfl .rfl)))))
def Qb(n:Nat)(x:(Str×Int)×List UInt8):Option (List UInt8):=
 Vf n (fun(s1:Int×List UInt8)=>
   bif decide (s1.1<(x.1.1.length:Int))then
    zW (X:=Int×List UInt8) (
      zg (geti x.1.1 s1.1) fun y2=>
      zg (qV (y2.toNat:Int)) fun y3=>
      zg (zA (!(decide (s1.1>=x.1.2))&&y3) (ZP (y2.toNat:Int)) (default:Bool)) fun y4=>
      bif bif bif y3 then bif decide (s1.1>=x.1.2)then true else !y4 else false then bif x.1.2==0 then true else !(x.1.1==[45])else false then
       zg (ql (y2.toNat:Int)) fun y5=>
       need (zF s1.2.length 1 1)<|
       some (LX.out (s1.1,s1.2++[y5]))
      else
       zg (Zc ((y2.toNat:Int),s1.2)) fun y6=>
       some (LX.out (s1.1,y6))) fun j7=>
    some (LO.again (w64 (j7.1+1),j7.2))
   else
    some (LO.out s1.2):Int×List UInt8->Option (LO (Int×List UInt8) (List UInt8) _)) (0,x.2) fun o8=>
 some o8
theorem QN(n:Nat)(x:(Str×Int)×List UInt8):Le (Qb n x) (Z9 x):=by unfold Qb Z9;exact(.loop (fun _=>(.bif (.join (.bind .rfl fun _=>(.bind .rfl fun _=>(.bind .rfl fun _=>(.bif (.bind .rfl fun _=>(.need .rfl)) (.bind .rfl fun _=> .rfl))))) fun _=> .rfl) .rfl)) fun _=> .rfl)
def xG(n:Nat)(x:ze×List UInt8):Option (List UInt8):=
 bif x.1.kind==1 then
  zg (ZQ x.1.text) fun y1=>
  zg (Qb n ((x.1.text,y1),x.2)) fun y2=>
  some y2
 else
  bif x.1.kind==2 then
   zg (ZQ x.1.text) fun y3=>
   zg (Qb n ((x.1.text,y3),x.2)) fun y4=>
   need (zF y4.length 1 1)<|
   some (y4++[(40:UInt8)])
  else
   bif x.1.kind==3 then
    need (zF x.2.length 1 1)<|
    zg (ZQ x.1.text) fun y5=>
    zg (Qb n ((x.1.text,y5),x.2++[(64:UInt8)])) fun y6=>
    some y6
   else
    bif x.1.kind==4 then
     zW (X:=Int×List UInt8) (
       bif x.1.flag then
        zg (ZQ x.1.text) fun y7=>
        some (LX.out (y7,x.2))
       else
        some (LX.out (0,x.2))) fun j8=>
     need (zF j8.2.length 1 1)<|
     zg (Qb n ((x.1.text,j8.1),j8.2++[(35:UInt8)])) fun y9=>
     some y9
    else
     bif x.1.kind==5 then
      need (zF x.2.length 1 1)<|
      need (decide (x.1.text.length<=maxLen))<|
      Vf n (fun(s10:Int×List UInt8)=>
        bif decide (s10.1<(x.1.text.length:Int))then
         zW (X:=Int×List UInt8) (
           need (decide (0<=s10.1)&&decide (s10.1<(x.1.text.length:Int)))<|
           zg x.1.text[s10.1.toNat]? fun y11=>
           zg (strings_IndexByte ([10,12,13,34,92],(y11.toNat:Int))) fun y12=>
           bif decide (y12>=0)then
            zg (Zc ((y11.toNat:Int),s10.2)) fun y13=>
            some (LX.out (s10.1,y13))
           else
            zg (ql (y11.toNat:Int)) fun y14=>
            need (zF s10.2.length 1 1)<|
            some (LX.out (s10.1,s10.2++[y14]))) fun j15=>
         some (LO.again (w64 (j15.1+1),j15.2))
        else
         some (LO.out s10.2):Int×List UInt8->Option (LO (Int×List UInt8) (List UInt8) _)) (0,x.2++[(34:UInt8)]) fun o16=>
      need (zF o16.length 1 1)<|
      some (o16++[(34:UInt8)])
     else
      bif x.1.kind==7 then
       need (zF x.2.length ([117,114,108,40]:Str).length 1)<|
       need (decide (x.1.text.length<=maxLen))<|
       Vf n (fun(s17:Int×List UInt8)=>
         bif decide (s17.1<(x.1.text.length:Int))then
          zW (X:=Int×List UInt8) (
            need (decide (0<=s17.1)&&decide (s17.1<(x.1.text.length:Int)))<|
            zg x.1.text[s17.1.toNat]? fun y18=>
            zg (zA (!(decide ((y18.toNat:Int)<=32))) (strings_IndexByte ([34,39,40,41,92,127],(y18.toNat:Int))) (default:Int)) fun y19=>
            bif bif decide ((y18.toNat:Int)<=32)then true else decide (y19>=0)then
             zg (Zc ((y18.toNat:Int),s17.2)) fun y20=>
             some (LX.out (s17.1,y20))
            else
             zg (ql (y18.toNat:Int)) fun y21=>
             need (zF s17.2.length 1 1)<|
             some (LX.out (s17.1,s17.2++[y21]))) fun j22=>
          some (LO.again (w64 (j22.1+1),j22.2))
         else
          some (LO.out s17.2):Int×List UInt8->Option (LO (Int×List UInt8) (List UInt8) _)) (0,x.2++([117,114,108,40]:Str)) fun o23=>
       need (zF o23.length 1 1)<|
       some (o23++[(41:UInt8)])
      else
       bif x.1.kind==9 then
        need (zF x.2.length x.1.text.length 1)<|
        some (x.2++x.1.text)
       else
        bif x.1.kind==10 then
         zg (qd ((x.1.num, !x.1.flag),x.2)) fun y24=>
         some y24
        else
         bif x.1.kind==11 then
          zg (qd ((x.1.num,false),x.2)) fun y25=>
          need (zF y25.length 1 1)<|
          some (y25++[(37:UInt8)])
         else
          bif x.1.kind==12 then
           zg (qd ((x.1.num, !x.1.flag),x.2)) fun y26=>
           zg (geti x.1.unit 0) fun y27=>
           need (decide (1<=(x.1.unit.length:Int))|| !(ibOr IntKind.u8 (y27.toNat:Int) 32==101))<|
           zg (zA (ibOr IntKind.u8 (y27.toNat:Int) 32==101) (Qs (List.drop 1 x.1.unit)) (default:Bool)) fun y28=>
           need (decide (1<=(x.1.unit.length:Int))|| !(bif ibOr IntKind.u8 (y27.toNat:Int) 32==101 then y28 else false))<|
           zg (zA (bif ibOr IntKind.u8 (y27.toNat:Int) 32==101 then y28 else false) (strings_HasPrefix (List.drop 1 x.1.unit,[45,45])) (default:Bool)) fun y29=>
           bif bif bif ibOr IntKind.u8 (y27.toNat:Int) 32==101 then y28 else false then !y29 else false then
            zg (geti x.1.unit 0) fun y30=>
            zg (Zc ((y30.toNat:Int),y26)) fun y31=>
            need (decide (1<=(x.1.unit.length:Int)))<|
            zg (Qb n ((List.drop 1 x.1.unit,0),y31)) fun y32=>
            some y32
           else
            zg (ZQ x.1.unit) fun y33=>
            zg (Qb n ((x.1.unit,y33),y26)) fun y34=>
            some y34
          else
           zg (Hr ()) fun y35=>
           zg (geti [y35.e0,y35.e1,y35.e2,y35.e3,y35.e4,y35.e5,y35.e6,y35.e7,y35.e8,y35.e9,y35.e10,y35.e11] (wu8 (x.1.kind - 13))) fun y36=>
           need (zF x.2.length y36.length 1)<|
           some (x.2++y36)
theorem P8(n:Nat)(x:ze×List UInt8):Le (xG n x) (Q5 x):=by unfold xG Q5;exact(.bif (.bind .rfl fun _=>(.bind (QN n _) fun _=> .rfl)) (.bif (.bind .rfl fun _=>(.bind (QN n _) fun _=>(.need .rfl))) (.bif (.need (.bind .rfl fun _=>(.bind (QN n _) fun _=> .rfl))) (.bif (.join (.bif (.bind .rfl fun _=> .rfl) .rfl) fun _=>(.need (.bind (QN n _) fun _=> .rfl))) (.bif (.need (.need (.loop (fun _=>(.bif (.join (.need (.bind .rfl fun _=>(.bind .rfl fun _=>(.bif (.bind .rfl fun _=> .rfl) (.bind .rfl fun _=>(.need .rfl)))))) fun _=> .rfl) .rfl)) fun _=>(.need .rfl)))) (.bif (.need (.need (.loop (fun _=>(.bif (.join (.need (.bind .rfl fun _=>(.bind .rfl fun _=>(.bif (.bind .rfl fun _=> .rfl) (.bind .rfl fun _=>(.need .rfl)))))) fun _=> .rfl) .rfl)) fun _=>(.need .rfl)))) (.bif (.need .rfl) (.bif (.bind .rfl fun _=> .rfl) (.bif (.bind .rfl fun _=>(.need .rfl)) (.bif (.bind .rfl fun _=>(.bind .rfl fun _=>(.need (.bind .rfl fun _=>(.need (.bind .rfl fun _=>(.bif (.bind .rfl fun _=>(.bind .rfl fun _=>(.need (.bind (QN n _) fun _=> .rfl)))) (.bind .rfl fun _=>(.bind (QN n _) fun _=> .rfl))))))))) (.bind .rfl fun _=>(.bind .rfl fun _=>(.need .rfl)))))))))))))
def LH(n:Nat)(x:List ze×List ze):Option Bool:=
 bif (x.1.length:Int) != (x.2.length:Int)then
  some false
 else
  Vf n (fun(s1:Int)=>
    bif decide (s1<(x.1.length:Int))then
     zg (geti x.1 s1) fun y2=>
     zg (geti x.2 s1) fun y3=>
     bif !(y2.kind==y3.kind&&(y2.text==y3.text&&(y2.num==y3.num&&(y2.unit==y3.unit&&(y2.flag==y3.flag&&true)))))then
      some (LO.ret false)
     else
      some (LO.again (w64 (s1+1)))
    else
     some (LO.out ()):Int->Option (LO (Int) (Unit) _)) 0 fun o4=>
  some true
theorem ze4(n:Nat)(x:List ze×List ze):Le (LH n x) (ZI x):=by unfold LH ZI;exact(.bif .rfl (.loop (fun _=>(.bif (.bind .rfl fun _=>(.bind .rfl fun _=>(.bif .rfl .rfl))) .rfl)) fun _=> .rfl))
def aG(n:Nat)(x:List ze):Option (Str×Int):=
 zg (nA n x) fun y1=>
 bif y1 != 0 then
  some ([],y1)
 else
  Vf n (fun(s2:Int×List UInt8×List zu)=>
    bif decide (s2.1<(x.length:Int))then
     need (decide (0<=s2.1)&&decide (s2.1<=(x.length:Int)))<|
     zg (jA n (List.drop s2.1.toNat x)) fun y3=>
     need (decide (0<=s2.1)&&(decide (s2.1<=w64 (s2.1+y3))&&decide (w64 (s2.1+y3)<=(x.length:Int))))<|
     Vf n (fun(s4:Int×List UInt8)=>
       bif decide (s4.1<((List.drop s2.1.toNat (List.take (w64 (s2.1+y3)).toNat x)).length:Int))then
        zg (geti (List.drop s2.1.toNat (List.take (w64 (s2.1+y3)).toNat x)) s4.1) fun y5=>
        zg (xG n (y5,s4.2)) fun y6=>
        some (LO.again (w64 (s4.1+1),y6))
       else
        some (LO.out s4.2):Int×List UInt8->Option (LO (Int×List UInt8) (List UInt8) _)) (0,[]) fun o7=>
     zW (X:=Int×List UInt8×List zu×List UInt8) (
       zg (geti x s2.1) fun y8=>
       bif bif y8.kind==9 then y3==2 else false then
        some (LX.out (s2.1,s2.2.1,s2.2.2,[(92:UInt8),(10:UInt8)]))
       else
        some (LX.out (s2.1,s2.2.1,s2.2.2,o7))) fun j9=>
     zW (X:=Int×List UInt8×List zu×zu) (
       bif decide (w64 ((j9.2.2.1.length:Int) - 4)>=0)then
        need (decide (0<=w64 ((j9.2.2.1.length:Int) - 4))&&decide (w64 ((j9.2.2.1.length:Int) - 4)<(j9.2.2.1.length:Int)))<|
        zg (j9.2.2.1[(w64 ((j9.2.2.1.length:Int) - 4)).toNat]?) fun y10=>
        some (LX.out (j9.1,j9.2.1,j9.2.2.1,y10))
       else
        some (LX.out (j9.1,j9.2.1,j9.2.2.1,(⟨0,0⟩:zu)))) fun j11=>
     need (decide (0<=j11.2.2.2.at_)&&decide (j11.2.2.2.at_<=(j11.2.1.length:Int)))<|
     need (decide (j11.2.2.2.at_.toNat+(j11.2.1.length - j11.2.2.2.at_.toNat)<=j11.2.1.length))<|
     need (df (List.take (j11.2.1.length - j11.2.2.2.at_.toNat) (List.drop j11.2.2.2.at_.toNat j11.2.1)).length j9.2.2.2.length)<|
     zg (uA n (List.take (j11.2.1.length - j11.2.2.2.at_.toNat) (List.drop j11.2.2.2.at_.toNat j11.2.1)++j9.2.2.2)) fun y12=>
     zW (X:=Int×List zu×List UInt8) (
       need (decide (0<=j11.2.2.2.token)&&(decide (j11.2.2.2.token<=w64 (j11.1+y3))&&decide (w64 (j11.1+y3)<=(x.length:Int)))|| !(!(y12.2 != 0)))<|
       zg (zA (!(y12.2 != 0)) (LH n (y12.1,List.drop j11.2.2.2.token.toNat (List.take (w64 (j11.1+y3)).toNat x))) (default:Bool)) fun y13=>
       bif bif y12.2 != 0 then true else !y13 then
        need (zF j11.2.1.length ([47,42,42,47]:Str).length 1)<|
        some (LX.out (j11.1,j11.2.2.1,j11.2.1++([47,42,42,47]:Str)))
       else
        some (LX.out (j11.1,j11.2.2.1,j11.2.1))) fun j14=>
     need (zF j14.2.1.length 1 16)<|
     need (zF j14.2.2.length j9.2.2.2.length 1)<|
     bif decide (((j14.2.2++j9.2.2.2).length:Int)>4000)then
      some (LO.ret ([],28))
     else
      some (LO.again (w64 (j14.1+y3),j14.2.2++j9.2.2.2,j14.2.1++[(⟨j14.1,(j14.2.2.length:Int)⟩:zu)]))
    else
     some (LO.out s2.2.1):Int×List UInt8×List zu->Option (LO (Int×List UInt8×List zu) (List UInt8) _)) (0,[],[]) fun o15=>
  some (o15,0)
theorem U7(n:Nat)(x:List ze):Le (aG n x) (Ko x):=by unfold aG Ko;exact(.bind (GQ n _) fun _=>(.bif .rfl (.loop (fun _=>(.bif (.need (.bind (FQ n _) fun _=>(.need (.loop (fun _=>(.bif (.bind .rfl fun _=>(.bind (P8 n _) fun _=> .rfl)) .rfl)) fun _=>(.join (.bind .rfl fun _=>(.bif .rfl .rfl)) fun _=>(.join (.bif (.need (.bind .rfl fun _=> .rfl)) .rfl) fun _=>(.need (.need (.need (.bind (DR n _) fun _=>(.join (.need (.bind (.cond (ze4 n _)) fun _=>(.bif (.need .rfl) .rfl))) fun _=>(.need (.need (.bif .rfl .rfl)))))))))))))) .rfl)) fun _=> .rfl)))
def GG(n:Nat)(x:List zb):Option (Str×Int):=
 zg (iA n x) fun y1=>
 bif y1 != 0 then
  some ([],y1)
 else
  zg (WA n x) fun y2=>
  zg (aG n y2) fun y3=>
  some (y3.1,y3.2)
theorem K5(n:Nat)(x:List zb):Le (GG n x) (yn x):=by unfold GG yn;exact(.bind (EQ n _) fun _=>(.bif .rfl (.bind (fQ n _) fun _=>(.bind (U7 n _) fun _=> .rfl))))
def NG(n:Nat)(x:zI):Option (Str×Int):=
 zg (dG n x) fun y1=>
 bif y1 != 0 then
  some ([],y1)
 else
  zg (KG n x.name) fun y2=>
  bif y2.2 != 0 then
   some ([],y2.2)
  else
   zg (GG n x.value) fun y3=>
   bif y3.2 != 0 then
    some ([],y3.2)
   else
    need (df y2.1.length ([58,32]:Str).length)<|
    need (df (y2.1++([58,32]:Str)).length y3.1.length)<|
    zW (X:=Str) (
      bif x.important then
       need (df (y2.1++([58,32]:Str)++y3.1).length ([32,33,105,109,112,111,114,116,97,110,116]:Str).length)<|
       some (LX.out (y2.1++([58,32]:Str)++y3.1++([32,33,105,109,112,111,114,116,97,110,116]:Str)))
      else
       some (LX.out (y2.1++([58,32]:Str)++y3.1))) fun j4=>
    bif decide ((j4.length:Int)>4000)then
     some ([],28)
    else
     some (j4,0)
theorem P5(n:Nat)(x:zI):Le (NG n x) (Yn x):=by unfold NG Yn;exact(.bind (X7 n _) fun _=>(.bif .rfl (.bind (O5 n _) fun _=>(.bif .rfl (.bind (K5 n _) fun _=>(.bif .rfl (.need (.need (.join (.bif (.need .rfl) .rfl) fun _=>(.bif .rfl .rfl))))))))))
def OG(n:Nat)(x:List zI):Option (Str×Int):=
 bif decide ((x.length:Int)>32)then
  some ([],4)
 else
  Vf n (fun(s1:(Bool×Int)×List Str)=>
    bif decide (s1.1.2<(x.length:Int))then
     zg (geti x s1.1.2) fun y2=>
     zg (NG n y2) fun y3=>
     bif y3.2==8 then
      some (LO.ret ([],y3.2))
     else
      need (zF s1.2.length 1 16)<|
      some (LO.again ((bif s1.1.1 then true else y3.2 != 0,w64 (s1.1.2+1)),s1.2++[y3.1]))
    else
     some (LO.out (s1.1.1,s1.2)):(Bool×Int)×List Str->Option (LO ((Bool×Int)×List Str) (Bool×List Str) _)) ((false,0),[]) fun o4=>
  zg (ak (o4.2,[59,32])) fun y5=>
  bif bif o4.1 then true else decide ((y5.length:Int)>4000)then
   some ([],28)
  else
   some (y5,0)
theorem R5(n:Nat)(x:List zI):Le (OG n x) (Dj x):=by unfold OG Dj;exact(.bif .rfl (.loop (fun _=>(.bif (.bind .rfl fun _=>(.bind (P5 n _) fun _=>(.bif .rfl (.need .rfl)))) .rfl)) fun _=>(.bind .rfl fun _=>(.bif .rfl .rfl))))
end
end Go.Lv.VT
