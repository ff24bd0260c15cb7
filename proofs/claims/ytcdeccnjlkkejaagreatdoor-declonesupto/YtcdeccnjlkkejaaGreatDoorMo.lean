/- Laws for the plain texts: loops that look for something; bytes. -/
import Derived.Test.YtcdeccnjlkkejaaGreatDoorLf
import Derived.Test.YtcdeccnjlkkejaaGreatDoorTx
set_option linter.unusedSimpArgs false
set_option linter.unusedVariables false
namespace Go.Lv.VT
abbrev big:Nat:=4194304
theorem Qc{i n:Nat}(h:i<n):decide ((i:Int)<(n:Int))=true:=Rc (by omega)
theorem Wj(n:Nat):decide ((n:Int)<(n:Int))=false:=Wd (by omega)
theorem ZF{i n:Nat}(h:i<n)(a:n<=big):w64 ((i:Int)+1)=((i+1:Nat):Int):=by rw[w64,Z8 (by omega) (by grind)];omega
theorem QX{α:Type}(b:Bool)(v d:α):zy b (some v) d=some (bif b then v else d):=by cases b<;>rfl
theorem XV {α X R:Type} {step:Int->Option (LO Int X R)} {k:X->Option R} (l:List α) (q:α->Option R) (x:X)
  (hg: ∀(i:Nat) (h:i<l.length),step (i:Int)=some (match q l[i]with|some r=> .ret r|none=> .again ((i+1:Nat):Int)))
  (hf:step (l.length:Int)=some (.out x)):ZG step 0 k=match l.findSome? q with|some r=>some r|none=>k x:=by
 have key: ∀(m:List α) (i:Nat),l.drop i=m->i<=l.length-> ∃n,qz step n (i:Int)=some (match m.findSome? q with|some r=> .ret r|none=> .out x):=by
  intro m
  induction m with
  |nil=>
   intro i hd hi;have:i=l.length:=by have:=Ke.1 hd;omega
   subst this;exact⟨1,by simp only[qz,hf,List.findSome?_nil]⟩
  |cons v m ih=>
   intro i hd hi;have hlt:i<l.length:=by
    rcases Cc i l.length with h|h
    ·exact h
    ·grind
   have hv:l[i]=v:=by have:=Rb hlt;rw[hd]at this;injection this with h1 _;exact h1.symm
   have hs:=hg i hlt;rw[hv]at hs;cases hq:q v with
   |some r=> rw[hq]at hs;exact⟨1,by simp only[qz,hs,List.findSome?_cons,hq]⟩
   |none=> rw[hq]at hs;obtain⟨n,hn⟩:=ih (i+1) (by rw[Rb hlt]at hd;injection hd) (by omega);refine⟨n+1,?_⟩;simp only[qz,hs,List.findSome?_cons,hq];exact hn
 obtain⟨n,hn⟩:=key l 0 rfl (by omega);replace hn:qz step n 0=_:=hn;rw[Xh (ji hn)];cases l.findSome? q<;>rfl
theorem dG{α R:Type}(p:α->Bool)(r:R): ∀(l:List α),l.findSome? (fun v=>bif p v then none else some r)=bif l.all p then none else some r
 |[]=>rfl
 |v::l=>by
  rw[List.findSome?_cons,List.all_cons];cases p v with
  |false=>rfl
  |true=>exact dG p r l
def idxS{α:Type}(p:α->Bool):List α->Int
 |[]=> -1
 |v::l=>bif p v then 0 else bif decide (idxS p l<0)then -1 else idxS p l+1
theorem VA{α:Type}(p:α->Bool): ∀(l:List α),decide (idxS p l>=0)=l.any p
 |[]=>rfl
 |v::l=>by
  have a:=VA p l;rw[List.any_cons,idxS]
  grind
theorem CG{α:Type}(p:α->Bool): ∀(l:List α), -1<=idxS p l/\idxS p l<l.length
 |[]=>by simp[idxS]
 |v::l=>by
  have:=CG p l;rw[idxS,Ub]
  grind
theorem GH {α:Type} {step:Int->Option (LO Int Unit Int)} (l:List α) (p:α->Bool) (hn:l.length<=big)
  (hg: ∀(i:Nat) (h:i<l.length),step (i:Int)=bif p l[i]then some (.ret (i:Int))else some (.again (w64 ((i:Int)+1))))
  (hf:step (l.length:Int)=some (.out ())):ZG step 0 (fun _=>some (-1))=some (idxS p l):=by
 have key: ∀(m:List α) (i:Nat),l.drop i=m->i<=l.length-> ∃n,qz step n (i:Int)=some (bif decide (idxS p m<0)then .out ()else .ret ((i:Int)+idxS p m)):=by
  intro m
  induction m with
  |nil=>
   intro i hd hi;have:i=l.length:=by have:=Ke.1 hd;omega
   subst this;exact⟨1,by simp only[qz,hf];rfl⟩
  |cons v m ih=>
   intro i hd hi;have hlt:i<l.length:=by
    rcases Cc i l.length with h|h
    ·exact h
    ·grind
   have hv:l[i]=v:=by have:=Rb hlt;rw[hd]at this;injection this with h1 _;exact h1.symm
   have hs:=hg i hlt;rw[hv]at hs;cases hq:p v with
   |true=> rw[hq]at hs;refine⟨1,?_⟩;simp only[qz,hs,Oa,idxS,hq];simp
   |false=>
    rw[hq,Sa,ZF hlt hn]at hs;obtain⟨n,hn'⟩:=ih (i+1) (by rw[Rb hlt]at hd;injection hd) (by omega);refine⟨n+1,?_⟩;simp only[qz,hs,idxS,hq,Sa]
    grind
 obtain⟨n,hn'⟩:=key l 0 rfl (by omega);replace hn':qz step n 0=_:=hn';rw[Xh (ji hn')];have hb:=CG p l;by_cases h0:idxS p l<0
 ·rw[Rc h0];show some (-1)=_;congr 1;omega
 ·rw[Wd h0];simp_all
noncomputable section
set_option maxRecDepth 100000
def ZV(n:Nat)(x:za):Option za:=
 Bf n (fun(s1:za)=>
   need (decide (0<=s1.at_)&&decide (s1.at_<=(s1.s.length:Int)))<|
   ze (strings_HasPrefix (List.drop s1.at_.toNat s1.s,[47,42])) fun y2=>
   bif y2 then
    need (decide (0<=w64 (s1.at_+2))&&decide (w64 (s1.at_+2)<=(s1.s.length:Int)))<|
    ze (Pj (List.drop (w64 (s1.at_+2)).toNat s1.s,[42,47])) fun y3=>
    bif decide (y3<0)then
     some (LO.ret (⟨s1.s,(s1.s.length:Int)⟩:za))
    else
     some (LO.again (⟨s1.s,w64 (s1.at_+w64 (y3+4))⟩:za))
   else
    some (LO.out s1):za->Option (LO (za) (za) _)) x fun o4=>
 some o4
theorem gM(n:Nat)(x:za):Le (ZV n x) (Zp x):=by unfold ZV Zp;exact(.loop (fun _=>(.need (.bind .rfl fun _=>(.bif (.need (.bind .rfl fun _=>(.bif .rfl .rfl))) .rfl)))) fun _=> .rfl)
def Zv(n:Nat)(x:za):Option za:=
 Bf n (fun(s1:za)=>
   ze (zf (0,s1)) fun y2=>
   ze (Zk y2) fun y3=>
   bif y3 then
    some (LO.again (⟨s1.s,w64 (s1.at_+1)⟩:za))
   else
    some (LO.out s1):za->Option (LO (za) (za) _)) x fun o4=>
 some o4
theorem qy(n:Nat)(x:za):Le (Zv n x) (zN x):=by unfold Zv zN;exact(.loop (fun _=>(.bind .rfl fun _=>(.bind .rfl fun _=>(.bif .rfl .rfl)))) fun _=> .rfl)
def qU(n:Nat)(x:za):Option (za×List UInt8):=
 ze (zf (0,(⟨x.s,w64 (x.at_+1)⟩:za))) fun y1=>
 bif y1==(-1)then
  ze (qj 65533) fun y2=>
  some ((⟨x.s,w64 (x.at_+1)⟩:za),y2)
 else
  ze (QR y1) fun y3=>
  bif decide (y3<0)then
   ze (qg (wu8 y1)) fun y4=>
   need (zB 0 1 1)<|
   some ((⟨x.s,w64 (w64 (x.at_+1)+1)⟩:za),[y4])
  else
   Bf n (fun(s5:(Int×Int)×za)=>
     bif decide (s5.1.2<6)then
      ze (zf (0,s5.2)) fun y6=>
      ze (QR y6) fun y7=>
      bif decide (y7<0)then
       some (LO.out (s5.1.1,s5.2))
      else
       some (LO.again ((ibOr IntKind.i64 (fu IntKind.i64 s5.1.1 4) y7,w64 (s5.1.2+1)),(⟨s5.2.s,w64 (s5.2.at_+1)⟩:za)))
     else
      some (LO.out (s5.1.1,s5.2)):(Int×Int)×za->Option (LO ((Int×Int)×za) (Int×za) _)) ((0,0),(⟨x.s,w64 (x.at_+1)⟩:za)) fun o8=>
   zO (X:=Int×za) (
     ze (zf (0,o8.2)) fun y9=>
     ze (Zk y9) fun y10=>
     bif y10 then
      some (LX.out (o8.1,(⟨o8.2.s,w64 (o8.2.at_+1)⟩:za)))
     else
      some (LX.out (o8.1,o8.2))) fun j11=>
   zO (X:=Int) (
     bif j11.1==0 then
      some (LX.out 65533)
     else
      some (LX.out j11.1)) fun j12=>
   ze (qj (w32 j12)) fun y13=>
   some (j11.2,y13)
theorem J4(n:Nat)(x:za):Le (qU n x) (Zy x):=by unfold qU Zy;exact(.bind .rfl fun _=>(.bif (.bind .rfl fun _=> .rfl) (.bind .rfl fun _=>(.bif (.bind .rfl fun _=>(.need .rfl)) (.loop (fun _=>(.bif (.bind .rfl fun _=>(.bind .rfl fun _=>(.bif .rfl .rfl))) .rfl)) fun _=>(.join (.bind .rfl fun _=>(.bind .rfl fun _=>(.bif .rfl .rfl))) fun _=>(.join (.bif .rfl .rfl) fun _=>(.bind .rfl fun _=> .rfl))))))))
def Zq(n:Nat)(x:za×List UInt8):Option (za×List UInt8):=
 ze (zf (0,(⟨x.1.s,w64 (x.1.at_+1)⟩:za))) fun y1=>
 bif y1==(-1)then
  ze (ql (65533,x.2)) fun y2=>
  some ((⟨x.1.s,w64 (x.1.at_+1)⟩:za),y2)
 else
  ze (QR y1) fun y3=>
  bif decide (y3<0)then
   ze (qg (wu8 y1)) fun y4=>
   need (zB x.2.length 1 1)<|
   some ((⟨x.1.s,w64 (w64 (x.1.at_+1)+1)⟩:za),x.2++[y4])
  else
   Bf n (fun(s5:(Int×Int)×za)=>
     bif decide (s5.1.2<6)then
      ze (zf (0,s5.2)) fun y6=>
      ze (QR y6) fun y7=>
      bif decide (y7<0)then
       some (LO.out (s5.1.1,s5.2))
      else
       some (LO.again ((ibOr IntKind.i64 (fu IntKind.i64 s5.1.1 4) y7,w64 (s5.1.2+1)),(⟨s5.2.s,w64 (s5.2.at_+1)⟩:za)))
     else
      some (LO.out (s5.1.1,s5.2)):(Int×Int)×za->Option (LO ((Int×Int)×za) (Int×za) _)) ((0,0),(⟨x.1.s,w64 (x.1.at_+1)⟩:za)) fun o8=>
   zO (X:=Int×za×List UInt8) (
     ze (zf (0,o8.2)) fun y9=>
     ze (Zk y9) fun y10=>
     bif y10 then
      some (LX.out (o8.1,(⟨o8.2.s,w64 (o8.2.at_+1)⟩:za),x.2))
     else
      some (LX.out (o8.1,o8.2,x.2))) fun j11=>
   zO (X:=Int×List UInt8) (
     bif j11.1==0 then
      some (LX.out (65533,j11.2.2))
     else
      some (LX.out (j11.1,j11.2.2))) fun j12=>
   ze (ql (w32 j12.1,j12.2)) fun y13=>
   some (j11.2.1,y13)
theorem qB(n:Nat)(x:za×List UInt8):Le (Zq n x) (zD x):=by unfold Zq zD;exact(.bind .rfl fun _=>(.bif (.bind .rfl fun _=> .rfl) (.bind .rfl fun _=>(.bif (.bind .rfl fun _=>(.need .rfl)) (.loop (fun _=>(.bif (.bind .rfl fun _=>(.bind .rfl fun _=>(.bif .rfl .rfl))) .rfl)) fun _=>(.join (.bind .rfl fun _=>(.bind .rfl fun _=>(.bif .rfl .rfl))) fun _=>(.join (.bif .rfl .rfl) fun _=>(.bind .rfl fun _=> .rfl))))))))
def QG(n:Nat)(x:za):Option (zg×za):=
 ze (zf (0,x)) fun y1=>
 Bf n (fun(s2:za×zg×List UInt8)=>
   ze (zf (0,s2.1)) fun y3=>
   bif y3==(-1)then
    some (LO.out (s2.1,s2.2.1,s2.2.2))
   else
    bif y3==y1 then
     some (LO.out ((⟨s2.1.s,w64 (s2.1.at_+1)⟩:za),s2.2.1,s2.2.2))
    else
     bif y3==10 then
      some (LO.ret ((⟨6,[],0,[],false⟩:zg),s2.1))
     else
      ze (zy (y3==92) (zf (1,s2.1)) (default:Int)) fun y4=>
      ze (zy (!(y4==(-1))&&y3==92) (zf (1,s2.1)) (default:Int)) fun y5=>
      bif bif y3==92 then bif y4==(-1)then true else y5==10 else false then
       some (LO.again ((⟨s2.1.s,if(s2.1.s.length:Int)<w64 (s2.1.at_+2)then(s2.1.s.length:Int)else w64 (s2.1.at_+2)⟩:za),s2.2.1,s2.2.2))
      else
       bif y3==92 then
        ze (Zq n (s2.1,s2.2.2)) fun y6=>
        some (LO.again (y6.1,s2.2.1,y6.2))
       else
        ze (qg (wu8 y3)) fun y7=>
        need (zB s2.2.2.length 1 1)<|
        some (LO.again ((⟨s2.1.s,w64 (s2.1.at_+1)⟩:za),s2.2.1,s2.2.2++[y7])):za×zg×List UInt8->Option (LO (za×zg×List UInt8) (za×zg×List UInt8) _)) ((⟨x.s,w64 (x.at_+1)⟩:za),(⟨0,[],0,[],false⟩:zg),[]) fun o8=>
 some ((⟨5,o8.2.2,0,[],false⟩:zg),o8.1)
theorem R3(n:Nat)(x:za):Le (QG n x) (Z7 x):=by unfold QG Z7;exact(.bind .rfl fun _=>(.loop (fun _=>(.bind .rfl fun _=>(.bif .rfl (.bif .rfl (.bif .rfl (.bind .rfl fun _=>(.bind .rfl fun _=>(.bif .rfl (.bif (.bind (qB n _) fun _=> .rfl) (.bind .rfl fun _=>(.need .rfl))))))))))) fun _=> .rfl))
def ZB(n:Nat)(x:za):Option (Str×za):=
 Bf n (fun(s1:za×List UInt8)=>
   ze (zf (0,s1.1)) fun y2=>
   ze (QS y2) fun y3=>
   bif y3 then
    ze (qg (wu8 y2)) fun y4=>
    need (zB s1.2.length 1 1)<|
    some (LO.again ((⟨s1.1.s,w64 (s1.1.at_+1)⟩:za),s1.2++[y4]))
   else
    ze (zy (y2 != (-1)) (zt (0,s1.1)) (default:Bool)) fun y5=>
    bif bif y2 != (-1)then y5 else false then
     ze (Zq n (s1.1,s1.2)) fun y6=>
     some (LO.again (y6.1,y6.2))
    else
     some (LO.ret (s1.2,s1.1)):za×List UInt8->Option (LO (za×List UInt8) (Unit) _)) (x,[]) fun o7=>
 none
theorem qJ(n:Nat)(x:za):Le (ZB n x) (zR x):=by unfold ZB zR;exact(.loop (fun _=>(.bind .rfl fun _=>(.bind .rfl fun _=>(.bif (.bind .rfl fun _=>(.need .rfl)) (.bind .rfl fun _=>(.bif (.bind (qB n _) fun _=> .rfl) .rfl)))))) fun _=> .none)
def Zz(n:Nat)(x:za):Option za:=
 Bf n (fun(s1:za)=>
   ze (zf (0,s1)) fun y2=>
   ze (Zt y2) fun y3=>
   bif y3 then
    some (LO.again (⟨s1.s,w64 (s1.at_+1)⟩:za))
   else
    some (LO.out s1):za->Option (LO (za) (za) _)) x fun o4=>
 some o4
theorem Qb(n:Nat)(x:za):Le (Zz n x) (Zf x):=by unfold Zz Zf;exact(.loop (fun _=>(.bind .rfl fun _=>(.bind .rfl fun _=>(.bif .rfl .rfl)))) fun _=> .rfl)
def Qu(n:Nat)(x:za):Option (Bool×za):=
 zO (X:=za) (
   ze (zf (0,x)) fun y1=>
   bif bif y1==43 then true else y1==45 then
    some (LX.out (⟨x.s,w64 (x.at_+1)⟩:za))
   else
    some (LX.out x)) fun j2=>
 ze (Zz n j2) fun y3=>
 zO (X:=Bool×za) (
   ze (zf (0,y3)) fun y4=>
   ze (zy (y4==46) (zf (1,y3)) (default:Int)) fun y5=>
   ze (zy (y4==46) (Zt y5) (default:Bool)) fun y6=>
   bif bif y4==46 then y6 else false then
    ze (Zz n (⟨y3.s,w64 (y3.at_+1)⟩:za)) fun y7=>
    some (LX.out (false,y7))
   else
    some (LX.out (true,y3))) fun j8=>
 zO (X:=Bool×za) (
   ze (zf (0,j8.2)) fun y9=>
   ze (zy (!(y9==101)) (zf (0,j8.2)) (default:Int)) fun y10=>
   bif bif y9==101 then true else y10==69 then
    zO (X:=(Bool×Int)×za) (
      ze (zf (1,j8.2)) fun y11=>
      bif bif y11==43 then true else y11==45 then
       some (LX.out ((j8.1,2),j8.2))
      else
       some (LX.out ((j8.1,1),j8.2))) fun j12=>
    ze (zf (j12.1.2,j12.2)) fun y13=>
    ze (Zt y13) fun y14=>
    bif y14 then
     ze (Zz n (⟨j12.2.s,w64 (j12.2.at_+j12.1.2)⟩:za)) fun y15=>
     some (LX.out (false,y15))
    else
     some (LX.out (j12.1.1,j12.2))
   else
    some (LX.out (j8.1,j8.2))) fun j16=>
 some (j16.1,j16.2)
theorem J3(n:Nat)(x:za):Le (Qu n x) (ZR x):=by unfold Qu ZR;exact(.join (.bind .rfl fun _=>(.bif .rfl .rfl)) fun _=>(.bind (Qb n _) fun _=>(.join (.bind .rfl fun _=>(.bind .rfl fun _=>(.bind .rfl fun _=>(.bif (.bind (Qb n _) fun _=> .rfl) .rfl)))) fun _=>(.join (.bind .rfl fun _=>(.bind .rfl fun _=>(.bif (.join (.bind .rfl fun _=>(.bif .rfl .rfl)) fun _=>(.bind .rfl fun _=>(.bind .rfl fun _=>(.bif (.bind (Qb n _) fun _=> .rfl) .rfl)))) .rfl))) fun _=> .rfl))))
def IE(n:Nat)(x:Str):Option Int:=
 ze (geti x 0) fun y1=>
 ze (Rk (x,[43,45])) fun y2=>
 zO (X:=Str×Int) (
   ze (Xr (y2,[101,69])) fun y3=>
   bif decide (y3>=0)then
    need (decide (0<=w64 (y3+1))&&decide (w64 (y3+1)<=(y2.length:Int)))<|
    ze (Rk (List.drop (w64 (y3+1)).toNat y2,[43,45])) fun y4=>
    need (decide (y4.length<=maxLen))<|
    Bf n (fun(s5:Int×Int)=>
      bif decide (s5.2<(y4.length:Int))then
       need (decide (0<=s5.2)&&decide (s5.2<(y4.length:Int)))<|
       ze y4[s5.2.toNat]? fun y6=>
       some (LO.again (if 1048576<w64 (w64 (10*s5.1)+w64 (wu8 ((y6.toNat:Int) - 48)))then 1048576 else w64 (w64 (10*s5.1)+w64 (wu8 ((y6.toNat:Int) - 48))),w64 (s5.2+1)))
      else
       some (LO.out s5.1):Int×Int->Option (LO (Int×Int) (Int) _)) (0,0) fun o7=>
    zO (X:=Str×Int×Int) (
      ze (geti y2 (w64 (y3+1))) fun y8=>
      bif (y8.toNat:Int)==45 then
       some (LX.out (y2,3,w64 (0 - o7)))
      else
       some (LX.out (y2,3,o7))) fun j9=>
    need (decide (0<=y3)&&decide (y3<=(j9.1.length:Int)))<|
    some (LX.out (List.take y3.toNat j9.1,w64 (j9.2.1+j9.2.2)))
   else
    some (LX.out (y2,3))) fun j10=>
 ze (cutF (j10.1,[46])) fun y11=>
 need (ug y11.1.length y11.2.1.length)<|
 zO (X:=Str×Int) (
   bif decide (w64 (j10.2 - (y11.2.1.length:Int))<0)then
    need (decide (0<=(if w64 (((y11.1++y11.2.1).length:Int)+w64 (j10.2 - (y11.2.1.length:Int)))>0 then w64 (((y11.1++y11.2.1).length:Int)+w64 (j10.2 - (y11.2.1.length:Int)))else 0))&&decide ((if w64 (((y11.1++y11.2.1).length:Int)+w64 (j10.2 - (y11.2.1.length:Int)))>0 then w64 (((y11.1++y11.2.1).length:Int)+w64 (j10.2 - (y11.2.1.length:Int)))else 0)<=((y11.1++y11.2.1).length:Int)))<|
    some (LX.out (List.take (if w64 (((y11.1++y11.2.1).length:Int)+w64 (j10.2 - (y11.2.1.length:Int)))>0 then w64 (((y11.1++y11.2.1).length:Int)+w64 (j10.2 - (y11.2.1.length:Int)))else 0).toNat (y11.1++y11.2.1),w64 (j10.2 - (y11.2.1.length:Int))))
   else
    some (LX.out (y11.1++y11.2.1,w64 (j10.2 - (y11.2.1.length:Int))))) fun j12=>
 need (decide (j12.1.length<=maxLen))<|
 Bf n (fun(s13:Int×Int)=>
   bif decide (s13.2<(j12.1.length:Int))then
    need (decide (0<=s13.2)&&decide (s13.2<(j12.1.length:Int)))<|
    ze j12.1[s13.2.toNat]? fun y14=>
    some (LO.again (if 1000000000000<w64 (w64 (10*s13.1)+w64 (wu8 ((y14.toNat:Int) - 48)))then 1000000000000 else w64 (w64 (10*s13.1)+w64 (wu8 ((y14.toNat:Int) - 48))),w64 (s13.2+1)))
   else
    some (LO.out s13.1):Int×Int->Option (LO (Int×Int) (Int) _)) (0,0) fun o15=>
 Bf n (fun(s16:Int×Int)=>
   bif bif bif decide (s16.1>0)then decide (s16.2>0)else false then decide (s16.2<1000000000000)else false then
    some (LO.again (w64 (s16.1 - 1),if 1000000000000<w64 (10*s16.2)then 1000000000000 else w64 (10*s16.2)))
   else
    some (LO.out s16.2):Int×Int->Option (LO (Int×Int) (Int) _)) (j12.2,o15) fun o17=>
 zO (X:=Int) (
   bif (y1.toNat:Int)==45 then
    some (LX.out (w64 (0 - o17)))
   else
    some (LX.out o17)) fun j18=>
 some j18
theorem uZ(n:Nat)(x:Str):Le (IE n x) (Qj x):=by unfold IE Qj;exact(.bind .rfl fun _=>(.bind .rfl fun _=>(.join (.bind .rfl fun _=>(.bif (.need (.bind .rfl fun _=>(.need (.loop (fun _=>(.bif (.need (.bind .rfl fun _=> .rfl)) .rfl)) fun _=>(.join (.bind .rfl fun _=>(.bif .rfl .rfl)) fun _=>(.need .rfl)))))) .rfl)) fun _=>(.bind .rfl fun _=>(.need (.join (.bif (.need .rfl) .rfl) fun _=>(.need (.loop (fun _=>(.bif (.need (.bind .rfl fun _=> .rfl)) .rfl)) fun _=>(.loop (fun _=>(.bif .rfl .rfl)) fun _=>(.join (.bif .rfl .rfl) fun _=> .rfl))))))))))
def Qv(n:Nat)(x:za):Option (zg×za):=
 ze (Qu n x) fun y1=>
 need (decide (0<=x.at_)&&(decide (x.at_<=y1.2.at_)&&decide (y1.2.at_<=(y1.2.s.length:Int))))<|
 ze (IE n (List.drop x.at_.toNat (List.take y1.2.at_.toNat y1.2.s))) fun y2=>
 zO (X:=za×zg×zg) (
   ze (zM (0,y1.2)) fun y3=>
   bif y3 then
    ze (ZB n y1.2) fun y4=>
    some (LX.out (y4.2,(⟨0,[],0,[],false⟩:zg),(⟨12,[],y2,y4.1,y1.1⟩:zg)))
   else
    ze (zf (0,y1.2)) fun y5=>
    bif y5==37 then
     some (LX.out ((⟨y1.2.s,w64 (y1.2.at_+1)⟩:za),(⟨0,[],0,[],false⟩:zg),(⟨11,[],y2,[],false⟩:zg)))
    else
     some (LX.out (y1.2,(⟨0,[],0,[],false⟩:zg),(⟨10,[],y2,[],y1.1⟩:zg)))) fun j6=>
 some (j6.2.2,j6.1)
theorem Y2(n:Nat)(x:za):Le (Qv n x) (ZT x):=by unfold Qv ZT;exact(.bind (J3 n _) fun _=>(.need (.bind (uZ n _) fun _=>(.join (.bind .rfl fun _=>(.bif (.bind (qJ n _) fun _=> .rfl) (.bind .rfl fun _=>(.bif .rfl .rfl)))) fun _=> .rfl))))
def Ru(n:Nat)(x:Str):Option Str:=
 need (decide (x.length<=maxLen))<|
 Bf n (fun(s1:Int×List UInt8)=>
   bif decide (s1.1<(x.length:Int))then
    zO (X:=Int×List UInt8) (
      need (decide (0<=s1.1)&&decide (s1.1<(s1.2.length:Int)))<|
      ze s1.2[s1.1.toNat]? fun y2=>
      bif bif decide (65<=(y2.toNat:Int))then decide ((y2.toNat:Int)<=90)else false then
       need (decide (0<=s1.1)&&decide (s1.1<(s1.2.length:Int)))<|
       ze s1.2[s1.1.toNat]? fun y3=>
       need (decide (0<=s1.1)&&decide (s1.1<(s1.2.length:Int)))<|
       ze s1.2[s1.1.toNat]? fun y4=>
       ze (qg (ibOr IntKind.u8 (y3.toNat:Int) 32)) fun y5=>
       some (LX.out (s1.1,List.set s1.2 s1.1.toNat y5))
      else
       some (LX.out (s1.1,s1.2))) fun j6=>
    some (LO.again (w64 (j6.1+1),j6.2))
   else
    some (LO.out s1.2):Int×List UInt8->Option (LO (Int×List UInt8) (List UInt8) _)) (0,x) fun o7=>
 some o7
theorem uD(n:Nat)(x:Str):Le (Ru n x) (ZL x):=by unfold Ru ZL;exact(.need (.loop (fun _=>(.bif (.join (.need (.bind .rfl fun _=>(.bif (.need (.bind .rfl fun _=>(.need (.bind .rfl fun _=>(.bind .rfl fun _=> .rfl))))) .rfl))) fun _=> .rfl) .rfl)) fun _=> .rfl))
def Yy(n:Nat)(x:Str×Str):Option Bool:=
 ze (Ru n x.1) fun y1=>
 ze (Ru n x.2) fun y2=>
 some (y1==y2)
theorem WL(n:Nat)(x:Str×Str):Le (Yy n x) (ZW x):=by unfold Yy ZW;exact(.bind (uD n _) fun _=>(.bind (uD n _) fun _=> .rfl))
def qp(n:Nat)(x:za):Option (zg×za):=
 Bf n (fun(s1:za×zg)=>
   ze (zf (0,s1.1)) fun y2=>
   bif y2==(-1)then
    some (LO.ret ((⟨8,[],0,[],false⟩:zg),s1.1))
   else
    ze (zt (0,s1.1)) fun y3=>
    bif y3 then
     ze (qU n s1.1) fun y4=>
     some (LO.again (y4.1,s1.2))
    else
     ze (geti s1.1.s (w64 (w64 (s1.1.at_+1) - 1))) fun y5=>
     bif (y5.toNat:Int)==41 then
      some (LO.ret ((⟨8,[],0,[],false⟩:zg),(⟨s1.1.s,w64 (s1.1.at_+1)⟩:za)))
     else
      some (LO.again ((⟨s1.1.s,w64 (s1.1.at_+1)⟩:za),s1.2)):za×zg->Option (LO (za×zg) (Unit) _)) (x,(⟨0,[],0,[],false⟩:zg)) fun o6=>
 none
theorem NE(n:Nat)(x:za):Le (qp n x) (ZN x):=by unfold qp ZN;exact(.loop (fun _=>(.bind .rfl fun _=>(.bif .rfl (.bind .rfl fun _=>(.bif (.bind (J4 n _) fun _=> .rfl) (.bind .rfl fun _=>(.bif .rfl .rfl))))))) fun _=> .none)
def JE(n:Nat)(x:za):Option (zg×za):=
 ze (Zv n x) fun y1=>
 Bf n (fun(s2:za×zg×List UInt8)=>
   ze (zf (0,s2.1)) fun y3=>
   zO (X:=Int×za×zg×List UInt8) (
     ze (Zk y3) fun y4=>
     bif y4 then
      ze (Zv n s2.1) fun y5=>
      ze (zf (0,y5)) fun y6=>
      bif bif y6 != 41 then y6 != (-1)else false then
       ze (qp n y5) fun y7=>
       some (LX.ret (LO.ret (y7.1,y7.2)))
      else
       some (LX.out (y6,y5,s2.2.1,s2.2.2))
     else
      some (LX.out (y3,s2.1,s2.2.1,s2.2.2))) fun j8=>
   bif j8.1==(-1)then
    some (LO.ret ((⟨7,j8.2.2.2,0,[],false⟩:zg),j8.2.1))
   else
    bif j8.1==41 then
     some (LO.ret ((⟨7,j8.2.2.2,0,[],false⟩:zg),(⟨j8.2.1.s,w64 (j8.2.1.at_+1)⟩:za)))
    else
     ze (zy (!(bif bif bif bif j8.1==34 then true else j8.1==39 then true else j8.1==40 then true else decide (j8.1<=8)then true else j8.1==11)) (qf (j8.1,14,31)) (default:Bool)) fun y9=>
     bif bif bif bif bif bif bif j8.1==34 then true else j8.1==39 then true else j8.1==40 then true else decide (j8.1<=8)then true else j8.1==11 then true else y9 then true else j8.1==127 then
      ze (qp n j8.2.1) fun y10=>
      some (LO.ret (y10.1,y10.2))
     else
      bif j8.1 != 92 then
       ze (qg (wu8 j8.1)) fun y11=>
       need (zB j8.2.2.2.length 1 1)<|
       some (LO.again ((⟨j8.2.1.s,w64 (j8.2.1.at_+1)⟩:za),j8.2.2.1,j8.2.2.2++[y11]))
      else
       ze (zt (0,j8.2.1)) fun y12=>
       bif y12 then
        ze (Zq n (j8.2.1,j8.2.2.2)) fun y13=>
        some (LO.again (y13.1,j8.2.2.1,y13.2))
       else
        ze (qp n j8.2.1) fun y14=>
        some (LO.ret (y14.1,y14.2)):za×zg×List UInt8->Option (LO (za×zg×List UInt8) (Unit) _)) (y1,(⟨0,[],0,[],false⟩:zg),[]) fun o15=>
 none
theorem vZ(n:Nat)(x:za):Le (JE n x) (Qi x):=by unfold JE Qi;exact(.bind (qy n _) fun _=>(.loop (fun _=>(.bind .rfl fun _=>(.join (.bind .rfl fun _=>(.bif (.bind (qy n _) fun _=>(.bind .rfl fun _=>(.bif (.bind (NE n _) fun _=> .rfl) .rfl))) .rfl)) fun _=>(.bif .rfl (.bif .rfl (.bind .rfl fun _=>(.bif (.bind (NE n _) fun _=> .rfl) (.bif (.bind .rfl fun _=>(.need .rfl)) (.bind .rfl fun _=>(.bif (.bind (qB n _) fun _=> .rfl) (.bind (NE n _) fun _=> .rfl))))))))))) fun _=> .none))
def QT(n:Nat)(x:za):Option (zg×za):=
 ze (ZB n x) fun y1=>
 ze (zf (0,y1.2)) fun y2=>
 bif y2 != 40 then
  some ((⟨1,y1.1,0,[],false⟩:zg),y1.2)
 else
  zO (X:=za×zg) (
    ze (Yy n (y1.1,[117,114,108])) fun y3=>
    bif y3 then
     ze (Zv n (⟨y1.2.s,w64 (y1.2.at_+1)⟩:za)) fun y4=>
     ze (zf (0,y4)) fun y5=>
     bif bif y5 != 34 then y5 != 39 else false then
      ze (JE n (⟨y1.2.s,w64 (y1.2.at_+1)⟩:za)) fun y6=>
      some (LX.ret (y6.1,y6.2))
     else
      some (LX.out ((⟨y1.2.s,w64 (y1.2.at_+1)⟩:za),(⟨0,[],0,[],false⟩:zg)))
    else
     some (LX.out ((⟨y1.2.s,w64 (y1.2.at_+1)⟩:za),(⟨0,[],0,[],false⟩:zg)))) fun j7=>
  some ((⟨2,y1.1,0,[],false⟩:zg),j7.1)
theorem O0(n:Nat)(x:za):Le (QT n x) (qw x):=by unfold QT qw;exact(.bind (qJ n _) fun _=>(.bind .rfl fun _=>(.bif .rfl (.join (.bind (WL n _) fun _=>(.bif (.bind (qy n _) fun _=>(.bind .rfl fun _=>(.bif (.bind (vZ n _) fun _=> .rfl) .rfl))) .rfl)) fun _=> .rfl))))
def KE(n:Nat)(x:za):Option (zg×za):=
 ze (zf (0,x)) fun y1=>
 need (decide (0<=x.at_)&&decide (x.at_<=(x.s.length:Int)))<|
 ze (Zk y1) fun y2=>
 bif y2 then
  ze (Zv n x) fun y3=>
  some ((⟨13,[],0,[],false⟩:zg),y3)
 else
  bif bif y1==34 then true else y1==39 then
   ze (QG n x) fun y4=>
   some (y4.1,y4.2)
  else
   ze (zy (y1==35) (zf (1,x)) (default:Int)) fun y5=>
   ze (zy (y1==35) (QS y5) (default:Bool)) fun y6=>
   ze (zy (!y6&&y1==35) (zt (1,x)) (default:Bool)) fun y7=>
   bif bif y1==35 then bif y6 then true else y7 else false then
    ze (zM (1,x)) fun y8=>
    ze (ZB n (⟨x.s,w64 (x.at_+1)⟩:za)) fun y9=>
    some ((⟨4,y9.1,0,[],y8⟩:zg),y9.2)
   else
    ze (qY x) fun y10=>
    bif y10 then
     ze (Qv n x) fun y11=>
     some (y11.1,y11.2)
    else
     ze (strings_HasPrefix (List.drop x.at_.toNat x.s,[45,45,62])) fun y12=>
     bif y12 then
      some ((⟨15,[],0,[],false⟩:zg),(⟨x.s,w64 (x.at_+3)⟩:za))
     else
      ze (strings_HasPrefix (List.drop x.at_.toNat x.s,[60,33,45,45])) fun y13=>
      bif y13 then
       some ((⟨14,[],0,[],false⟩:zg),(⟨x.s,w64 (x.at_+4)⟩:za))
      else
       ze (zy (y1==64) (zM (1,x)) (default:Bool)) fun y14=>
       bif bif y1==64 then y14 else false then
        ze (ZB n (⟨x.s,w64 (x.at_+1)⟩:za)) fun y15=>
        some ((⟨3,y15.1,0,[],false⟩:zg),y15.2)
       else
        ze (zM (0,x)) fun y16=>
        bif y16 then
         ze (QT n x) fun y17=>
         some (y17.1,y17.2)
        else
         ze (strings_IndexByte ([58,59,44,91,93,40,41,123,125],wu8 y1)) fun y18=>
         bif decide (y18>=0)then
          some ((⟨wu8 (16+wu8 y18),[],0,[],false⟩:zg),(⟨x.s,w64 (x.at_+1)⟩:za))
         else
          need (decide (1<=((List.drop x.at_.toNat x.s).length:Int)))<|
          some ((⟨9,List.take 1 (List.drop x.at_.toNat x.s),0,[],false⟩:zg),(⟨x.s,w64 (x.at_+1)⟩:za))
theorem O1(n:Nat)(x:za):Le (KE n x) (qO x):=by unfold KE qO;exact(.bind .rfl fun _=>(.need (.bind .rfl fun _=>(.bif (.bind (qy n _) fun _=> .rfl) (.bif (.bind (R3 n _) fun _=> .rfl) (.bind .rfl fun _=>(.bind .rfl fun _=>(.bind .rfl fun _=>(.bif (.bind .rfl fun _=>(.bind (qJ n _) fun _=> .rfl)) (.bind .rfl fun _=>(.bif (.bind (Y2 n _) fun _=> .rfl) (.bind .rfl fun _=>(.bif .rfl (.bind .rfl fun _=>(.bif .rfl (.bind .rfl fun _=>(.bif (.bind (qJ n _) fun _=> .rfl) (.bind .rfl fun _=>(.bif (.bind (O0 n _) fun _=> .rfl) (.bind .rfl fun _=>(.bif .rfl (.need .rfl))))))))))))))))))))))
def dD(n:Nat)(x:Str):Option (Int×List zg):=
 ze (wm x) fun y1=>
 bif y1.2 != 0 then
  some (y1.2,[])
 else
  ze (ZV n (⟨y1.1,0⟩:za)) fun y2=>
  Bf n (fun(s3:Int×List zg×za)=>
    bif decide (s3.2.2.at_<(y1.1.length:Int))then
     bif decide (w64 (s3.1+1)>1500)then
      some (LO.ret (4,s3.2.1))
     else
      ze (KE n s3.2.2) fun y4=>
      ze (iy ((y4.1,s3.2.2.at_,y4.2.at_),s3.2.1)) fun y5=>
      ze (ZV n y4.2) fun y6=>
      some (LO.again (w64 (s3.1+1),y5,y6))
    else
     some (LO.out (s3.2.1,s3.2.2)):Int×List zg×za->Option (LO (Int×List zg×za) (List zg×za) _)) (0,[],y2) fun o7=>
  some (0,o7.1)
theorem HZ(n:Nat)(x:Str):Le (dD n x) (yt x):=by unfold dD yt;exact(.bind .rfl fun _=>(.bif .rfl (.bind (gM n _) fun _=>(.loop (fun _=>(.bif (.bif .rfl (.bind (O1 n _) fun _=>(.bind .rfl fun _=>(.bind (gM n _) fun _=> .rfl)))) .rfl)) fun _=> .rfl))))
def Py(n:Nat)(x:Str):Option (List zg×Int):=
 ze (dD n x) fun y1=>
 bif y1.1 != 0 then
  some ([],y1.1)
 else
  some (y1.2,0)
theorem KM(n:Nat)(x:Str):Le (Py n x) (QQ x):=by unfold Py QQ;exact(.bind (HZ n _) fun _=>(.bif .rfl .rfl))
def gD(n:Nat)(Z5:List zb×Int->Option zn)(x:List zb×Int):Option zn:=
 Bf n (fun(s1:Int×zn)=>
   bif decide (s1.1<(x.1.length:Int))then
    zO (X:=Int×zn) (
      ze (geti x.1 s1.1) fun y2=>
      ze (Zr y2.token.kind) fun y3=>
      zO (X:=zn) (
        bif bif bif x.2 != 0 then y2.token.kind==x.2 else false then true else bif y3==0 then decide ((y2.list.length:Int)>0)else false then
         some (LX.out (⟨s1.2.depth,w64 (s1.2.tokens+1),true⟩:zn))
        else
         some (LX.out (⟨s1.2.depth,w64 (s1.2.tokens+1),s1.2.bad⟩:zn))) fun j4=>
      bif y3==0 then
       some (LX.out (s1.1,j4))
      else
       ze (Z5 (y2.list,y3)) fun y5=>
       some (LX.out (s1.1,(⟨if w64 (y5.depth+1)>j4.depth then w64 (y5.depth+1)else j4.depth,w64 (w64 (j4.tokens+y5.tokens)+1),bif j4.bad then true else y5.bad⟩:zn)))) fun j6=>
    some (LO.again (w64 (j6.1+1),j6.2))
   else
    some (LO.out s1.2):Int×zn->Option (LO (Int×zn) (zn) _)) (0,(⟨0,0,false⟩:zn)) fun o7=>
 some o7
def rJ(n:Nat):List zb×Int->Option zn:=Ag (gD n) n
theorem HY(n:Nat)(Z5 nest_look':List zb×Int->Option zn)(h_nest_look: ∀z,Le (Z5 z) (nest_look' z))(x:List zb×Int):Le (gD n Z5 x) (Eo nest_look' x):=by unfold gD Eo;exact(.loop (fun _=>(.bif (.join (.bind .rfl fun _=>(.bind .rfl fun _=>(.join (.bif .rfl .rfl) fun _=>(.bif .rfl (.bind (h_nest_look _) fun _=> .rfl))))) fun _=> .rfl) .rfl)) fun _=> .rfl)
theorem mX(n:Nat)(x:List zb×Int):Le (rJ n x) (Z5 x):=Le.rec (fun S S' h x=>HY n S S' h x) n x
def Iy(n:Nat)(x:List zb):Option Int:=
 ze (rJ n (x,0)) fun y1=>
 bif decide (y1.depth>16)then
  some 20
 else
  bif decide (y1.tokens>1500)then
   some 4
  else
   bif y1.bad then
    some 8
   else
    some 0
theorem mK(n:Nat)(x:List zb):Le (Iy n x) (ZM x):=by unfold Iy ZM;exact(.bind (mX n _) fun _=>(.bif .rfl (.bif .rfl (.bif .rfl .rfl))))
def sD(n:Nat)(Zj:List zb×List zg->Option (List zg))(x:List zb×List zg):Option (List zg):=
 Bf n (fun(s1:Int×List zg)=>
   bif decide (s1.1<(x.1.length:Int))then
    zO (X:=Int×List zg) (
      ze (geti x.1 s1.1) fun y2=>
      need (zB s1.2.length 1 56)<|
      ze (Zr y2.token.kind) fun y3=>
      bif y3 != 0 then
       ze (Zj (y2.list,s1.2++[y2.token])) fun y4=>
       need (zB y4.length 1 56)<|
       some (LX.out (s1.1,y4++[(⟨y3,[],0,[],false⟩:zg)]))
      else
       some (LX.out (s1.1,s1.2++[y2.token]))) fun j5=>
    some (LO.again (w64 (j5.1+1),j5.2))
   else
    some (LO.out s1.2):Int×List zg->Option (LO (Int×List zg) (List zg) _)) (0,x.2) fun o6=>
 some o6
def NL(n:Nat):List zb×List zg->Option (List zg):=Ag (sD n) n
theorem JZ(n:Nat)(Zj nest_flat_3':List zb×List zg->Option (List zg))(h_nest_flat_3: ∀z,Le (Zj z) (nest_flat_3' z))(x:List zb×List zg):Le (sD n Zj x) (Q3 nest_flat_3' x):=by unfold sD Q3;exact(.loop (fun _=>(.bif (.join (.bind .rfl fun _=>(.need (.bind .rfl fun _=>(.bif (.bind (h_nest_flat_3 _) fun _=>(.need .rfl)) .rfl)))) fun _=> .rfl) .rfl)) fun _=> .rfl)
theorem AZ(n:Nat)(x:List zb×List zg):Le (NL n x) (Zj x):=Le.rec (fun S S' h x=>JZ n S S' h x) n x
def Xy(n:Nat)(x:List zb):Option (List zg):=
 Bf n (fun(s1:Int×List zg)=>
   bif decide (s1.1<(x.length:Int))then
    zO (X:=Int×List zg) (
      ze (geti x s1.1) fun y2=>
      need (zB s1.2.length 1 56)<|
      ze (Zr y2.token.kind) fun y3=>
      bif y3 != 0 then
       ze (NL n (y2.list,s1.2++[y2.token])) fun y4=>
       need (zB y4.length 1 56)<|
       some (LX.out (s1.1,y4++[(⟨y3,[],0,[],false⟩:zg)]))
      else
       some (LX.out (s1.1,s1.2++[y2.token]))) fun j5=>
    some (LO.again (w64 (j5.1+1),j5.2))
   else
    some (LO.out s1.2):Int×List zg->Option (LO (Int×List zg) (List zg) _)) (0,[]) fun o6=>
 some o6
theorem yL(n:Nat)(x:List zb):Le (Xy n x) (qR x):=by unfold Xy qR;exact(.loop (fun _=>(.bif (.join (.bind .rfl fun _=>(.need (.bind .rfl fun _=>(.bif (.bind (AZ n _) fun _=>(.need .rfl)) .rfl)))) fun _=> .rfl) .rfl)) fun _=> .rfl)
def oC(n:Nat)(x:List zb):Option (List zg×Int):=
 ze (Iy n x) fun y1=>
 bif y1 != 0 then
  some ([],y1)
 else
  ze (Xy n x) fun y2=>
  some (y2,0)
theorem WX(n:Nat)(x:List zb):Le (oC n x) (Ll x):=by unfold oC Ll;exact(.bind (mK n _) fun _=>(.bif .rfl (.bind (yL n _) fun _=> .rfl)))
def OD(n:Nat)(x:Str):Option Bool:=
 ze (zy (!(bif x==[]then true else decide ((x.length:Int)>64))) (strings_IndexByte (x,0)) (default:Int)) fun y1=>
 bif bif bif x==[]then true else decide ((x.length:Int)>64)then true else decide (y1>=0)then
  some false
 else
  ze (strings_HasPrefix (x,[45,45])) fun y2=>
  bif y2 then
   some (!(x==[45,45]))
  else
   ze (Ru n x) fun y3=>
   some (x==y3)
theorem FY(n:Nat)(x:Str):Le (OD n x) (Vl x):=by unfold OD Vl;exact(.bind .rfl fun _=>(.bif .rfl (.bind .rfl fun _=>(.bif .rfl (.bind (uD n _) fun _=> .rfl)))))
def Jy(n:Nat)(x:List zg):Option Int:=
 ze (geti x 0) fun y1=>
 bif bif y1.kind==9 then y1.text==[92]else false then
  ze (ZC ((1,13),x)) fun y2=>
  bif !y2 then
   some 0
  else
   some 2
 else
  ze (zy (y1.kind==2) (Yy n (y1.text,[117,114,108])) (default:Bool)) fun y3=>
  bif bif y1.kind==2 then y3 else false then
   zO (X:=Int) (
     ze (ZC ((1,13),x)) fun y4=>
     bif y4 then
      some (LX.out 2)
     else
      some (LX.out 1)) fun j5=>
   ze (ZC ((j5,5),x)) fun y6=>
   bif !y6 then
    some 0
   else
    some (w64 (j5+1))
  else
   some 1
theorem nK(n:Nat)(x:List zg):Le (Jy n x) (Q0 x):=by unfold Jy Q0;exact(.bind .rfl fun _=>(.bif (.bind .rfl fun _=>(.bif .rfl .rfl)) (.bind (.cond (WL n _)) fun _=>(.bif (.join (.bind .rfl fun _=>(.bif .rfl .rfl)) fun _=>(.bind .rfl fun _=>(.bif .rfl .rfl))) .rfl))))
def Ky(n:Nat)(x:List zg):Option Int:=
 bif decide ((x.length:Int)>1500)then
  some 4
 else
  Bf n (fun(s1:Int)=>
    bif decide (s1<(x.length:Int))then
     ze (geti x s1) fun y2=>
     ze (bn y2) fun y3=>
     need (decide (0<=s1)&&decide (s1<=(x.length:Int))|| !(!(!y3)))<|
     ze (zy (!(!y3)) (Jy n (List.drop s1.toNat x)) (default:Int)) fun y4=>
     bif bif !y3 then true else y4==0 then
      some (LO.ret 8)
     else
      some (LO.again (w64 (s1+1)))
    else
     some (LO.out ()):Int->Option (LO (Int) (Unit) _)) 0 fun o5=>
  some 0
theorem oK(n:Nat)(x:List zg):Le (Ky n x) (QB x):=by unfold Ky QB;exact(.bif .rfl (.loop (fun _=>(.bif (.bind .rfl fun _=>(.bind .rfl fun _=>(.need (.bind (.cond (nK n _)) fun _=>(.bif .rfl .rfl))))) .rfl)) fun _=> .rfl))
def FE(n:Nat)(zk:List zb->Option Bool)(x:zb):Option Bool:=
 ze (zZ ((⟨x.token,x.list⟩:zb),20)) fun y1=>
 ze (zy (!y1) (zZ ((⟨x.token,x.list⟩:zb),22)) (default:Bool)) fun y2=>
 ze (zy (!(bif y1 then true else y2)) (zZ ((⟨x.token,x.list⟩:zb),24)) (default:Bool)) fun y3=>
 ze (zy (!(bif bif y1 then true else y2 then true else y3)) (zk x.list) (default:Bool)) fun y4=>
 some (bif bif bif y1 then true else y2 then true else y3 then true else y4)
theorem fZ(n:Nat)(zk decl_closers':List zb->Option Bool)(h_decl_closers: ∀z,Le (zk z) (decl_closers' z))(x:zb):Le (FE n zk x) (qb decl_closers' x):=by unfold FE qb;exact(.bind .rfl fun _=>(.bind .rfl fun _=>(.bind .rfl fun _=>(.bind (.cond (h_decl_closers _)) fun _=> .rfl))))
def Qh(n:Nat)(zk:List zb->Option Bool)(x:List zb):Option Int:=
 Bf n (fun(s1:Int)=>
   bif decide (s1<(x.length:Int))then
    ze (geti x s1) fun y2=>
    ze (FE n zk (⟨y2.token,y2.list⟩:zb)) fun y3=>
    bif y3 then
     some (LO.ret s1)
    else
     some (LO.again (w64 (s1+1)))
   else
    some (LO.out ()):Int->Option (LO (Int) (Unit) _)) 0 fun o4=>
 some (-1)
theorem M4(n:Nat)(zk decl_closers':List zb->Option Bool)(h_decl_closers: ∀z,Le (zk z) (decl_closers' z))(x:List zb):Le (Qh n zk x) (Zo decl_closers' x):=by unfold Qh Zo;exact(.loop (fun _=>(.bif (.bind .rfl fun _=>(.bind (fZ n _ _ h_decl_closers _) fun _=>(.bif .rfl .rfl))) .rfl)) fun _=> .rfl)
def qo(n:Nat)(zk:List zb->Option Bool)(x:List zb):Option Bool:=
 ze (Qh n zk x) fun y1=>
 some (decide (y1>=0))
theorem X4(n:Nat)(zk decl_closers':List zb->Option Bool)(h_decl_closers: ∀z,Le (zk z) (decl_closers' z))(x:List zb):Le (qo n zk x) (zW decl_closers' x):=by unfold qo zW;exact(.bind (M4 n _ _ h_decl_closers _) fun _=> .rfl)
def EE(n:Nat)(zk:List zb->Option Bool)(x:List zb):Option Bool:=
 ze (qo n zk x) fun y1=>
 some y1
def YL(n:Nat):List zb->Option Bool:=Ag (EE n) n
theorem iZ(n:Nat)(zk decl_closers':List zb->Option Bool)(h_decl_closers: ∀z,Le (zk z) (decl_closers' z))(x:List zb):Le (EE n zk x) (QA decl_closers' x):=by unfold EE QA;exact(.bind (X4 n _ _ h_decl_closers _) fun _=> .rfl)
theorem IZ(n:Nat)(x:List zb):Le (YL n x) (zk x):=Le.rec (fun S S' h x=>iZ n S S' h x) n x
def qD(n:Nat)(x:List zb):Option Int:=
 Bf n (fun(s1:Int)=>
   bif decide (s1<(x.length:Int))then
    ze (geti x s1) fun y2=>
    ze (Ro (⟨y2.token,y2.list⟩:zb)) fun y3=>
    bif y3 then
     some (LO.ret s1)
    else
     some (LO.again (w64 (s1+1)))
   else
    some (LO.out ()):Int->Option (LO (Int) (Unit) _)) 0 fun o4=>
 some (-1)
theorem X3(n:Nat)(x:List zb):Le (qD n x) (Zd x):=by unfold qD Zd;exact(.loop (fun _=>(.bif (.bind .rfl fun _=>(.bind .rfl fun _=>(.bif .rfl .rfl))) .rfl)) fun _=> .rfl)
def ZY(n:Nat)(x:List zb):Option Bool:=
 ze (qD n x) fun y1=>
 some (decide (y1>=0))
theorem R4(n:Nat)(x:List zb):Le (ZY n x) (zH x):=by unfold ZY zH;exact(.bind (X3 n _) fun _=> .rfl)
def PD(n:Nat)(x:zV):Option Int:=
 ze (oC n x.value) fun y1=>
 ze (OD n x.name) fun y2=>
 ze (zy (!(bif !y2 then true else y1.2 != 0)) (Ky n y1.1) (default:Int)) fun y3=>
 ze (zy (!(bif bif !y2 then true else y1.2 != 0 then true else y3 != 0)) (YL n x.value) (default:Bool)) fun y4=>
 bif bif bif bif !y2 then true else y1.2 != 0 then true else y3 != 0 then true else y4 then
  some 8
 else
  ze (ZY n x.value) fun y5=>
  bif y5 then
   some 8
  else
   ze (zy ((x.value.length:Int)==0) (strings_HasPrefix (x.name,[45,45])) (default:Bool)) fun y6=>
   ze (zy (decide ((x.value.length:Int)>0)&& !(bif (x.value.length:Int)==0 then !y6 else false)) (geti x.value 0) (default:zb)) fun y7=>
   ze (zy (decide ((x.value.length:Int)>0)&& !(bif (x.value.length:Int)==0 then !y6 else false)) (zZ ((⟨y7.token,y7.list⟩:zb),13)) (default:Bool)) fun y8=>
   ze (zy (!y8&&(decide ((x.value.length:Int)>0)&& !(bif (x.value.length:Int)==0 then !y6 else false))) (geti x.value (w64 ((x.value.length:Int) - 1))) (default:zb)) fun y9=>
   ze (zy (!y8&&(decide ((x.value.length:Int)>0)&& !(bif (x.value.length:Int)==0 then !y6 else false))) (zZ ((⟨y9.token,y9.list⟩:zb),13)) (default:Bool)) fun y10=>
   bif bif bif (x.value.length:Int)==0 then !y6 else false then true else bif decide ((x.value.length:Int)>0)then bif y8 then true else y10 else false then
    some 8
   else
    some 0
theorem GY(n:Nat)(x:zV):Le (PD n x) (QY x):=by unfold PD QY;exact(.bind (WX n _) fun _=>(.bind (FY n _) fun _=>(.bind (.cond (oK n _)) fun _=>(.bind (.cond (IZ n _)) fun _=>(.bif .rfl (.bind (R4 n _) fun _=>(.bif .rfl (.bind .rfl fun _=>(.bind .rfl fun _=>(.bind .rfl fun _=>(.bind .rfl fun _=>(.bind .rfl fun _=>(.bif .rfl .rfl)))))))))))))
def jD(n:Nat)(x:Str×Int):Option (List UInt8):=
 Bf n (fun(s1:Int×List UInt8)=>
   bif decide (s1.1<(x.1.length:Int))then
    zO (X:=Int×List UInt8) (
      ze (geti x.1 s1.1) fun y2=>
      ze (Qa (y2.toNat:Int)) fun y3=>
      ze (zy (!(decide (s1.1>=x.2))&&y3) (ZA (y2.toNat:Int)) (default:Bool)) fun y4=>
      bif bif bif y3 then bif decide (s1.1>=x.2)then true else !y4 else false then bif x.2==0 then true else !(x.1==[45])else false then
       ze (qg (y2.toNat:Int)) fun y5=>
       need (zB s1.2.length 1 1)<|
       some (LX.out (s1.1,s1.2++[y5]))
      else
       ze (z8 ((y2.toNat:Int),s1.2)) fun y6=>
       some (LX.out (s1.1,y6))) fun j7=>
    some (LO.again (w64 (j7.1+1),j7.2))
   else
    some (LO.out s1.2):Int×List UInt8->Option (LO (Int×List UInt8) (List UInt8) _)) (0,[]) fun o8=>
 some o8
theorem CZ(n:Nat)(x:Str×Int):Le (jD n x) (Rt x):=by unfold jD Rt;exact(.loop (fun _=>(.bif (.join (.bind .rfl fun _=>(.bind .rfl fun _=>(.bind .rfl fun _=>(.bif (.bind .rfl fun _=>(.need .rfl)) (.bind .rfl fun _=> .rfl))))) fun _=> .rfl) .rfl)) fun _=> .rfl)
def tC(n:Nat)(x:Str):Option (Str×Int):=
 ze (zy (!(x==[])) (strings_IndexByte (x,0)) (default:Int)) fun y1=>
 bif bif x==[]then true else decide (y1>=0)then
  some ([],8)
 else
  ze (ZK x) fun y2=>
  ze (jD n (x,y2)) fun y3=>
  bif bif decide ((x.length:Int)>4000)then true else decide ((y3.length:Int)>4000)then
   some ([],28)
  else
   some (y3,0)
theorem XX(n:Nat)(x:Str):Le (tC n x) (Yr x):=by unfold tC Yr;exact(.bind .rfl fun _=>(.bif .rfl (.bind .rfl fun _=>(.bind (CZ n _) fun _=>(.bif .rfl .rfl)))))
def qG(n:Nat)(x:(Str×Int)×List UInt8):Option (List UInt8):=
 Bf n (fun(s1:Int×List UInt8)=>
   bif decide (s1.1<(x.1.1.length:Int))then
    zO (X:=Int×List UInt8) (
      ze (geti x.1.1 s1.1) fun y2=>
      ze (Qa (y2.toNat:Int)) fun y3=>
      ze (zy (!(decide (s1.1>=x.1.2))&&y3) (ZA (y2.toNat:Int)) (default:Bool)) fun y4=>
      bif bif bif y3 then bif decide (s1.1>=x.1.2)then true else !y4 else false then bif x.1.2==0 then true else !(x.1.1==[45])else false then
       ze (qg (y2.toNat:Int)) fun y5=>
       need (zB s1.2.length 1 1)<|
       some (LX.out (s1.1,s1.2++[y5]))
      else
       ze (z8 ((y2.toNat:Int),s1.2)) fun y6=>
       some (LX.out (s1.1,y6))) fun j7=>
    some (LO.again (w64 (j7.1+1),j7.2))
   else
    some (LO.out s1.2):Int×List UInt8->Option (LO (Int×List UInt8) (List UInt8) _)) (0,x.2) fun o8=>
 some o8
theorem QC(n:Nat)(x:(Str×Int)×List UInt8):Le (qG n x) (qQ x):=by unfold qG qQ;exact(.loop (fun _=>(.bif (.join (.bind .rfl fun _=>(.bind .rfl fun _=>(.bind .rfl fun _=>(.bif (.bind .rfl fun _=>(.need .rfl)) (.bind .rfl fun _=> .rfl))))) fun _=> .rfl) .rfl)) fun _=> .rfl)
def iD(n:Nat)(x:zg×List UInt8):Option (List UInt8):=
 bif x.1.kind==1 then
  ze (ZK x.1.text) fun y1=>
  ze (qG n ((x.1.text,y1),x.2)) fun y2=>
  some y2
 else
  bif x.1.kind==2 then
   ze (ZK x.1.text) fun y3=>
   ze (qG n ((x.1.text,y3),x.2)) fun y4=>
   need (zB y4.length 1 1)<|
   some (y4++[(40:UInt8)])
  else
   bif x.1.kind==3 then
    need (zB x.2.length 1 1)<|
    ze (ZK x.1.text) fun y5=>
    ze (qG n ((x.1.text,y5),x.2++[(64:UInt8)])) fun y6=>
    some y6
   else
    bif x.1.kind==4 then
     zO (X:=Int×List UInt8) (
       bif x.1.flag then
        ze (ZK x.1.text) fun y7=>
        some (LX.out (y7,x.2))
       else
        some (LX.out (0,x.2))) fun j8=>
     need (zB j8.2.length 1 1)<|
     ze (qG n ((x.1.text,j8.1),j8.2++[(35:UInt8)])) fun y9=>
     some y9
    else
     bif x.1.kind==5 then
      need (zB x.2.length 1 1)<|
      need (decide (x.1.text.length<=maxLen))<|
      Bf n (fun(s10:Int×List UInt8)=>
        bif decide (s10.1<(x.1.text.length:Int))then
         zO (X:=Int×List UInt8) (
           need (decide (0<=s10.1)&&decide (s10.1<(x.1.text.length:Int)))<|
           ze x.1.text[s10.1.toNat]? fun y11=>
           ze (strings_IndexByte ([10,12,13,34,92],(y11.toNat:Int))) fun y12=>
           bif decide (y12>=0)then
            ze (z8 ((y11.toNat:Int),s10.2)) fun y13=>
            some (LX.out (s10.1,y13))
           else
            ze (qg (y11.toNat:Int)) fun y14=>
            need (zB s10.2.length 1 1)<|
            some (LX.out (s10.1,s10.2++[y14]))) fun j15=>
         some (LO.again (w64 (j15.1+1),j15.2))
        else
         some (LO.out s10.2):Int×List UInt8->Option (LO (Int×List UInt8) (List UInt8) _)) (0,x.2++[(34:UInt8)]) fun o16=>
      need (zB o16.length 1 1)<|
      some (o16++[(34:UInt8)])
     else
      bif x.1.kind==7 then
       need (zB x.2.length ([117,114,108,40]:Str).length 1)<|
       need (decide (x.1.text.length<=maxLen))<|
       Bf n (fun(s17:Int×List UInt8)=>
         bif decide (s17.1<(x.1.text.length:Int))then
          zO (X:=Int×List UInt8) (
            need (decide (0<=s17.1)&&decide (s17.1<(x.1.text.length:Int)))<|
            ze x.1.text[s17.1.toNat]? fun y18=>
            ze (zy (!(decide ((y18.toNat:Int)<=32))) (strings_IndexByte ([34,39,40,41,92,127],(y18.toNat:Int))) (default:Int)) fun y19=>
            bif bif decide ((y18.toNat:Int)<=32)then true else decide (y19>=0)then
             ze (z8 ((y18.toNat:Int),s17.2)) fun y20=>
             some (LX.out (s17.1,y20))
            else
             ze (qg (y18.toNat:Int)) fun y21=>
             need (zB s17.2.length 1 1)<|
             some (LX.out (s17.1,s17.2++[y21]))) fun j22=>
          some (LO.again (w64 (j22.1+1),j22.2))
         else
          some (LO.out s17.2):Int×List UInt8->Option (LO (Int×List UInt8) (List UInt8) _)) (0,x.2++([117,114,108,40]:Str)) fun o23=>
       need (zB o23.length 1 1)<|
       some (o23++[(41:UInt8)])
      else
       bif x.1.kind==9 then
        need (zB x.2.length x.1.text.length 1)<|
        some (x.2++x.1.text)
       else
        bif x.1.kind==10 then
         ze (qH ((x.1.num, !x.1.flag),x.2)) fun y24=>
         some y24
        else
         bif x.1.kind==11 then
          ze (qH ((x.1.num,false),x.2)) fun y25=>
          need (zB y25.length 1 1)<|
          some (y25++[(37:UInt8)])
         else
          bif x.1.kind==12 then
           ze (qH ((x.1.num, !x.1.flag),x.2)) fun y26=>
           ze (geti x.1.unit 0) fun y27=>
           need (decide (1<=(x.1.unit.length:Int))|| !(ibOr IntKind.u8 (y27.toNat:Int) 32==101))<|
           ze (zy (ibOr IntKind.u8 (y27.toNat:Int) 32==101) (Qm (List.drop 1 x.1.unit)) (default:Bool)) fun y28=>
           need (decide (1<=(x.1.unit.length:Int))|| !(bif ibOr IntKind.u8 (y27.toNat:Int) 32==101 then y28 else false))<|
           ze (zy (bif ibOr IntKind.u8 (y27.toNat:Int) 32==101 then y28 else false) (strings_HasPrefix (List.drop 1 x.1.unit,[45,45])) (default:Bool)) fun y29=>
           bif bif bif ibOr IntKind.u8 (y27.toNat:Int) 32==101 then y28 else false then !y29 else false then
            ze (geti x.1.unit 0) fun y30=>
            ze (z8 ((y30.toNat:Int),y26)) fun y31=>
            need (decide (1<=(x.1.unit.length:Int)))<|
            ze (qG n ((List.drop 1 x.1.unit,0),y31)) fun y32=>
            some y32
           else
            ze (ZK x.1.unit) fun y33=>
            ze (qG n ((x.1.unit,y33),y26)) fun y34=>
            some y34
          else
           ze (Vx ()) fun y35=>
           ze (geti [y35.e0,y35.e1,y35.e2,y35.e3,y35.e4,y35.e5,y35.e6,y35.e7,y35.e8,y35.e9,y35.e10,y35.e11] (wu8 (x.1.kind - 13))) fun y36=>
           need (zB x.2.length y36.length 1)<|
           some (x.2++y36)
theorem BZ(n:Nat)(x:zg×List UInt8):Le (iD n x) (Pt x):=by unfold iD Pt;exact(.bif (.bind .rfl fun _=>(.bind (QC n _) fun _=> .rfl)) (.bif (.bind .rfl fun _=>(.bind (QC n _) fun _=>(.need .rfl))) (.bif (.need (.bind .rfl fun _=>(.bind (QC n _) fun _=> .rfl))) (.bif (.join (.bif (.bind .rfl fun _=> .rfl) .rfl) fun _=>(.need (.bind (QC n _) fun _=> .rfl))) (.bif (.need (.need (.loop (fun _=>(.bif (.join (.need (.bind .rfl fun _=>(.bind .rfl fun _=>(.bif (.bind .rfl fun _=> .rfl) (.bind .rfl fun _=>(.need .rfl)))))) fun _=> .rfl) .rfl)) fun _=>(.need .rfl)))) (.bif (.need (.need (.loop (fun _=>(.bif (.join (.need (.bind .rfl fun _=>(.bind .rfl fun _=>(.bif (.bind .rfl fun _=> .rfl) (.bind .rfl fun _=>(.need .rfl)))))) fun _=> .rfl) .rfl)) fun _=>(.need .rfl)))) (.bif (.need .rfl) (.bif (.bind .rfl fun _=> .rfl) (.bif (.bind .rfl fun _=>(.need .rfl)) (.bif (.bind .rfl fun _=>(.bind .rfl fun _=>(.need (.bind .rfl fun _=>(.need (.bind .rfl fun _=>(.bif (.bind .rfl fun _=>(.bind .rfl fun _=>(.need (.bind (QC n _) fun _=> .rfl)))) (.bind .rfl fun _=>(.bind (QC n _) fun _=> .rfl))))))))) (.bind .rfl fun _=>(.bind .rfl fun _=>(.need .rfl)))))))))))))
def ME(n:Nat)(x:List zg×List zg):Option Bool:=
 bif (x.1.length:Int) != (x.2.length:Int)then
  some false
 else
  Bf n (fun(s1:Int)=>
    bif decide (s1<(x.1.length:Int))then
     ze (geti x.1 s1) fun y2=>
     ze (geti x.2 s1) fun y3=>
     bif !(y2.kind==y3.kind&&(y2.text==y3.text&&(y2.num==y3.num&&(y2.unit==y3.unit&&(y2.flag==y3.flag&&true)))))then
      some (LO.ret false)
     else
      some (LO.again (w64 (s1+1)))
    else
     some (LO.out ()):Int->Option (LO (Int) (Unit) _)) 0 fun o4=>
  some true
theorem U1(n:Nat)(x:List zg×List zg):Le (ME n x) (qN x):=by unfold ME qN;exact(.bif .rfl (.loop (fun _=>(.bif (.bind .rfl fun _=>(.bind .rfl fun _=>(.bif .rfl .rfl))) .rfl)) fun _=> .rfl))
def ND(n:Nat)(x:List zg):Option (Str×Int):=
 ze (Ky n x) fun y1=>
 bif y1 != 0 then
  some ([],y1)
 else
  Bf n (fun(s2:Int×List UInt8×List zw)=>
    bif decide (s2.1<(x.length:Int))then
     need (decide (0<=s2.1)&&decide (s2.1<=(x.length:Int)))<|
     ze (Jy n (List.drop s2.1.toNat x)) fun y3=>
     need (decide (0<=s2.1)&&(decide (s2.1<=w64 (s2.1+y3))&&decide (w64 (s2.1+y3)<=(x.length:Int))))<|
     Bf n (fun(s4:Int×List UInt8)=>
       bif decide (s4.1<((List.drop s2.1.toNat (List.take (w64 (s2.1+y3)).toNat x)).length:Int))then
        ze (geti (List.drop s2.1.toNat (List.take (w64 (s2.1+y3)).toNat x)) s4.1) fun y5=>
        ze (iD n (y5,s4.2)) fun y6=>
        some (LO.again (w64 (s4.1+1),y6))
       else
        some (LO.out s4.2):Int×List UInt8->Option (LO (Int×List UInt8) (List UInt8) _)) (0,[]) fun o7=>
     zO (X:=Int×List UInt8×List zw×List UInt8) (
       ze (geti x s2.1) fun y8=>
       bif bif y8.kind==9 then y3==2 else false then
        some (LX.out (s2.1,s2.2.1,s2.2.2,[(92:UInt8),(10:UInt8)]))
       else
        some (LX.out (s2.1,s2.2.1,s2.2.2,o7))) fun j9=>
     zO (X:=Int×List UInt8×List zw×zw) (
       bif decide (w64 ((j9.2.2.1.length:Int) - 4)>=0)then
        need (decide (0<=w64 ((j9.2.2.1.length:Int) - 4))&&decide (w64 ((j9.2.2.1.length:Int) - 4)<(j9.2.2.1.length:Int)))<|
        ze (j9.2.2.1[(w64 ((j9.2.2.1.length:Int) - 4)).toNat]?) fun y10=>
        some (LX.out (j9.1,j9.2.1,j9.2.2.1,y10))
       else
        some (LX.out (j9.1,j9.2.1,j9.2.2.1,(⟨0,0⟩:zw)))) fun j11=>
     need (decide (0<=j11.2.2.2.at_)&&decide (j11.2.2.2.at_<=(j11.2.1.length:Int)))<|
     need (decide (j11.2.2.2.at_.toNat+(j11.2.1.length - j11.2.2.2.at_.toNat)<=j11.2.1.length))<|
     need (ug (List.take (j11.2.1.length - j11.2.2.2.at_.toNat) (List.drop j11.2.2.2.at_.toNat j11.2.1)).length j9.2.2.2.length)<|
     ze (Py n (List.take (j11.2.1.length - j11.2.2.2.at_.toNat) (List.drop j11.2.2.2.at_.toNat j11.2.1)++j9.2.2.2)) fun y12=>
     zO (X:=Int×List zw×List UInt8) (
       need (decide (0<=j11.2.2.2.token)&&(decide (j11.2.2.2.token<=w64 (j11.1+y3))&&decide (w64 (j11.1+y3)<=(x.length:Int)))|| !(!(y12.2 != 0)))<|
       ze (zy (!(y12.2 != 0)) (ME n (y12.1,List.drop j11.2.2.2.token.toNat (List.take (w64 (j11.1+y3)).toNat x))) (default:Bool)) fun y13=>
       bif bif y12.2 != 0 then true else !y13 then
        need (zB j11.2.1.length ([47,42,42,47]:Str).length 1)<|
        some (LX.out (j11.1,j11.2.2.1,j11.2.1++([47,42,42,47]:Str)))
       else
        some (LX.out (j11.1,j11.2.2.1,j11.2.1))) fun j14=>
     need (zB j14.2.1.length 1 16)<|
     need (zB j14.2.2.length j9.2.2.2.length 1)<|
     bif decide (((j14.2.2++j9.2.2.2).length:Int)>4000)then
      some (LO.ret ([],28))
     else
      some (LO.again (w64 (j14.1+y3),j14.2.2++j9.2.2.2,j14.2.1++[(⟨j14.1,(j14.2.2.length:Int)⟩:zw)]))
    else
     some (LO.out s2.2.1):Int×List UInt8×List zw->Option (LO (Int×List UInt8×List zw) (List UInt8) _)) (0,[],[]) fun o15=>
  some (o15,0)
theorem EY(n:Nat)(x:List zg):Le (ND n x) (Ht x):=by unfold ND Ht;exact(.bind (oK n _) fun _=>(.bif .rfl (.loop (fun _=>(.bif (.need (.bind (nK n _) fun _=>(.need (.loop (fun _=>(.bif (.bind .rfl fun _=>(.bind (BZ n _) fun _=> .rfl)) .rfl)) fun _=>(.join (.bind .rfl fun _=>(.bif .rfl .rfl)) fun _=>(.join (.bif (.need (.bind .rfl fun _=> .rfl)) .rfl) fun _=>(.need (.need (.need (.bind (KM n _) fun _=>(.join (.need (.bind (.cond (U1 n _)) fun _=>(.bif (.need .rfl) .rfl))) fun _=>(.need (.need (.bif .rfl .rfl)))))))))))))) .rfl)) fun _=> .rfl)))
def LD(n:Nat)(x:List zb):Option (Str×Int):=
 ze (Iy n x) fun y1=>
 bif y1 != 0 then
  some ([],y1)
 else
  ze (Xy n x) fun y2=>
  ze (ND n y2) fun y3=>
  some (y3.1,y3.2)
theorem VX(n:Nat)(x:List zb):Le (LD n x) (Us x):=by unfold LD Us;exact(.bind (mK n _) fun _=>(.bif .rfl (.bind (yL n _) fun _=>(.bind (EY n _) fun _=> .rfl))))
def xC(n:Nat)(x:zV):Option (Str×Int):=
 ze (PD n x) fun y1=>
 bif y1 != 0 then
  some ([],y1)
 else
  ze (tC n x.name) fun y2=>
  bif y2.2 != 0 then
   some ([],y2.2)
  else
   ze (LD n x.value) fun y3=>
   bif y3.2 != 0 then
    some ([],y3.2)
   else
    need (ug y2.1.length ([58,32]:Str).length)<|
    need (ug (y2.1++([58,32]:Str)).length y3.1.length)<|
    zO (X:=Str) (
      bif x.important then
       need (ug (y2.1++([58,32]:Str)++y3.1).length ([32,33,105,109,112,111,114,116,97,110,116]:Str).length)<|
       some (LX.out (y2.1++([58,32]:Str)++y3.1++([32,33,105,109,112,111,114,116,97,110,116]:Str)))
      else
       some (LX.out (y2.1++([58,32]:Str)++y3.1))) fun j4=>
    bif decide ((j4.length:Int)>4000)then
     some ([],28)
    else
     some (j4,0)
theorem YX(n:Nat)(x:zV):Le (xC n x) (kr x):=by unfold xC kr;exact(.bind (GY n _) fun _=>(.bif .rfl (.bind (XX n _) fun _=>(.bif .rfl (.bind (VX n _) fun _=>(.bif .rfl (.need (.need (.join (.bif (.need .rfl) .rfl) fun _=>(.bif .rfl .rfl))))))))))
def yC(n:Nat)(x:List zV):Option (Str×Int):=
 bif decide ((x.length:Int)>32)then
  some ([],4)
 else
  Bf n (fun(s1:(Bool×Int)×List Str)=>
    bif decide (s1.1.2<(x.length:Int))then
     ze (geti x s1.1.2) fun y2=>
     ze (xC n y2) fun y3=>
     bif y3.2==8 then
      some (LO.ret ([],y3.2))
     else
      need (zB s1.2.length 1 16)<|
      some (LO.again ((bif s1.1.1 then true else y3.2 != 0,w64 (s1.1.2+1)),s1.2++[y3.1]))
    else
     some (LO.out (s1.1.1,s1.2)):(Bool×Int)×List Str->Option (LO ((Bool×Int)×List Str) (Bool×List Str) _)) ((false,0),[]) fun o4=>
  ze (Nk (o4.2,[59,32])) fun y5=>
  bif bif o4.1 then true else decide ((y5.length:Int)>4000)then
   some ([],28)
  else
   some (y5,0)
theorem aX(n:Nat)(x:List zV):Le (yC n x) (mr x):=by unfold yC mr;exact(.bif .rfl (.loop (fun _=>(.bif (.bind .rfl fun _=>(.bind (YX n _) fun _=>(.bif .rfl (.need .rfl)))) .rfl)) fun _=>(.bind .rfl fun _=>(.bif .rfl .rfl))))
end
end Go.Lv.VT
