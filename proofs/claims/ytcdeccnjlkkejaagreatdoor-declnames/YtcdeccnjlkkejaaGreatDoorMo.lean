/- Laws for the plain texts: loops that look for something; bytes. -/
import Derived.Test.YtcdeccnjlkkejaaGreatDoorLf
import Derived.Test.YtcdeccnjlkkejaaGreatDoorTx
set_option linter.unusedSimpArgs false
set_option linter.unusedVariables false
namespace Go.Lv.VT
abbrev big:Nat:=4194304
theorem Dh{i n:Nat}(h:i<n):decide ((i:Int)<(n:Int))=true:=Ga (by omega)
theorem uj(n:Nat):decide ((n:Int)<(n:Int))=false:=aa (by omega)
theorem QK{i n:Nat}(h:i<n)(a:n<=big):w64 ((i:Int)+1)=((i+1:Nat):Int):=by rw[w64,Qg (by omega) (by grind)];omega
theorem QB{α:Type}(b:Bool)(v d:α):zx b (some v) d=some (bif b then v else d):=by cases b<;>rfl
theorem eY {α X R:Type} {step:Int->Option (LO Int X R)} {k:X->Option R} (l:List α) (q:α->Option R) (x:X)
  (hg: ∀(i:Nat) (h:i<l.length),step (i:Int)=some (match q l[i]with|some r=> .ret r|none=> .again ((i+1:Nat):Int)))
  (hf:step (l.length:Int)=some (.out x)):ZR step 0 k=match l.findSome? q with|some r=>some r|none=>k x:=by
 have key: ∀(m:List α) (i:Nat),l.drop i=m->i<=l.length-> ∃n,Qo step n (i:Int)=some (match m.findSome? q with|some r=> .ret r|none=> .out x):=by
  intro m
  induction m with
  |nil=>
   intro i hd hi;have:i=l.length:=by have:=Yd.1 hd;omega
   subst this;exact⟨1,by simp only[Qo,hf,List.findSome?_nil]⟩
  |cons v m ih=>
   intro i hd hi;have hlt:i<l.length:=by
    rcases Yc i l.length with h|h
    ·exact h
    ·grind
   have hv:l[i]=v:=by have:=ma hlt;rw[hd]at this;injection this with h1 _;exact h1.symm
   have hs:=hg i hlt;rw[hv]at hs;cases hq:q v with
   |some r=> rw[hq]at hs;exact⟨1,by simp only[Qo,hs,List.findSome?_cons,hq]⟩
   |none=> rw[hq]at hs;obtain⟨n,hn⟩:=ih (i+1) (by rw[ma hlt]at hd;injection hd) (by omega);refine⟨n+1,?_⟩;simp only[Qo,hs,List.findSome?_cons,hq];exact hn
 obtain⟨n,hn⟩:=key l 0 rfl (by omega);replace hn:Qo step n 0=_:=hn;rw[Bi (Am hn)];cases l.findSome? q<;>rfl
theorem iJ{α R:Type}(p:α->Bool)(r:R): ∀(l:List α),l.findSome? (fun v=>bif p v then none else some r)=bif l.all p then none else some r
 |[]=>rfl
 |v::l=>by
  rw[List.findSome?_cons,Nc];cases p v with
  |false=>rfl
  |true=>exact iJ p r l
def idxS{α:Type}(p:α->Bool):List α->Int
 |[]=> -1
 |v::l=>bif p v then 0 else bif decide (idxS p l<0)then -1 else idxS p l+1
theorem NC{α:Type}(p:α->Bool): ∀(l:List α),decide (idxS p l>=0)=l.any p
 |[]=>rfl
 |v::l=>by
  have a:=NC p l;rw[List.any_cons,idxS]
  grind
theorem OI{α:Type}(p:α->Bool): ∀(l:List α), -1<=idxS p l/\idxS p l<l.length
 |[]=>by simp[idxS]
 |v::l=>by
  have:=OI p l;rw[idxS,Ka]
  grind
theorem UK {α:Type} {step:Int->Option (LO Int Unit Int)} (l:List α) (p:α->Bool) (hn:l.length<=big)
  (hg: ∀(i:Nat) (h:i<l.length),step (i:Int)=bif p l[i]then some (.ret (i:Int))else some (.again (w64 ((i:Int)+1))))
  (hf:step (l.length:Int)=some (.out ())):ZR step 0 (fun _=>some (-1))=some (idxS p l):=by
 have key: ∀(m:List α) (i:Nat),l.drop i=m->i<=l.length-> ∃n,Qo step n (i:Int)=some (bif decide (idxS p m<0)then .out ()else .ret ((i:Int)+idxS p m)):=by
  intro m
  induction m with
  |nil=>
   intro i hd hi;have:i=l.length:=by have:=Yd.1 hd;omega
   subst this;exact⟨1,by simp only[Qo,hf];rfl⟩
  |cons v m ih=>
   intro i hd hi;have hlt:i<l.length:=by
    rcases Yc i l.length with h|h
    ·exact h
    ·grind
   have hv:l[i]=v:=by have:=ma hlt;rw[hd]at this;injection this with h1 _;exact h1.symm
   have hs:=hg i hlt;rw[hv]at hs;cases hq:p v with
   |true=> rw[hq]at hs;refine⟨1,?_⟩;simp only[Qo,hs,Ea,idxS,hq];simp
   |false=>
    rw[hq,Da,QK hlt hn]at hs;obtain⟨n,hn'⟩:=ih (i+1) (by rw[ma hlt]at hd;injection hd) (by omega);refine⟨n+1,?_⟩;simp only[Qo,hs,idxS,hq,Da]
    grind
 obtain⟨n,hn'⟩:=key l 0 rfl (by omega);replace hn':Qo step n 0=_:=hn';rw[Bi (Am hn')];have hb:=OI p l;by_cases h0:idxS p l<0
 ·rw[Ga h0];show some (-1)=_;congr 1;omega
 ·rw[aa h0];simp_all
noncomputable section
set_option maxRecDepth 100000
def qh(n:Nat)(x:za):Option za:=
 Lf n (fun(s1:za)=>
   need (decide (0<=s1.at_)&&decide (s1.at_<=(s1.s.length:Int)))<|
   zg (strings_HasPrefix (List.drop s1.at_.toNat s1.s,[47,42])) fun y2=>
   bif y2 then
    need (decide (0<=w64 (s1.at_+2))&&decide (w64 (s1.at_+2)<=(s1.s.length:Int)))<|
    zg (Ji (List.drop (w64 (s1.at_+2)).toNat s1.s,[42,47])) fun y3=>
    bif decide (y3<0)then
     some (LO.ret (⟨s1.s,(s1.s.length:Int)⟩:za))
    else
     some (LO.again (⟨s1.s,w64 (s1.at_+w64 (y3+4))⟩:za))
   else
    some (LO.out s1):za->Option (LO (za) (za) _)) x fun o4=>
 some o4
theorem WP(n:Nat)(x:za):Le (qh n x) (Zb x):=by unfold qh Zb;exact(.loop (fun _=>(.need (.bind .rfl fun _=>(.bif (.need (.bind .rfl fun _=>(.bif .rfl .rfl))) .rfl)))) fun _=> .rfl)
def ZN(n:Nat)(x:za):Option za:=
 Lf n (fun(s1:za)=>
   zg (zf (0,s1)) fun y2=>
   zg (Zr y2) fun y3=>
   bif y3 then
    some (LO.again (⟨s1.s,w64 (s1.at_+1)⟩:za))
   else
    some (LO.out s1):za->Option (LO (za) (za) _)) x fun o4=>
 some o4
theorem qH(n:Nat)(x:za):Le (ZN n x) (zQ x):=by unfold ZN zQ;exact(.loop (fun _=>(.bind .rfl fun _=>(.bind .rfl fun _=>(.bif .rfl .rfl)))) fun _=> .rfl)
def Qa(n:Nat)(x:za):Option (za×List UInt8):=
 zg (zf (0,(⟨x.s,w64 (x.at_+1)⟩:za))) fun y1=>
 bif y1==(-1)then
  zg (Zw 65533) fun y2=>
  some ((⟨x.s,w64 (x.at_+1)⟩:za),y2)
 else
  zg (Qz y1) fun y3=>
  bif decide (y3<0)then
   zg (qf (wu8 y1)) fun y4=>
   need (zD 0 1 1)<|
   some ((⟨x.s,w64 (w64 (x.at_+1)+1)⟩:za),[y4])
  else
   Lf n (fun(s5:(Int×Int)×za)=>
     bif decide (s5.1.2<6)then
      zg (zf (0,s5.2)) fun y6=>
      zg (Qz y6) fun y7=>
      bif decide (y7<0)then
       some (LO.out (s5.1.1,s5.2))
      else
       some (LO.again ((ibOr IntKind.i64 (ik IntKind.i64 s5.1.1 4) y7,w64 (s5.1.2+1)),(⟨s5.2.s,w64 (s5.2.at_+1)⟩:za)))
     else
      some (LO.out (s5.1.1,s5.2)):(Int×Int)×za->Option (LO ((Int×Int)×za) (Int×za) _)) ((0,0),(⟨x.s,w64 (x.at_+1)⟩:za)) fun o8=>
   zY (X:=Int×za) (
     zg (zf (0,o8.2)) fun y9=>
     zg (Zr y9) fun y10=>
     bif y10 then
      some (LX.out (o8.1,(⟨o8.2.s,w64 (o8.2.at_+1)⟩:za)))
     else
      some (LX.out (o8.1,o8.2))) fun j11=>
   zY (X:=Int) (
     bif j11.1==0 then
      some (LX.out 65533)
     else
      some (LX.out j11.1)) fun j12=>
   zg (Zw (w32 j12)) fun y13=>
   some (j11.2,y13)
theorem D8(n:Nat)(x:za):Le (Qa n x) (Zh x):=by unfold Qa Zh;exact(.bind .rfl fun _=>(.bif (.bind .rfl fun _=> .rfl) (.bind .rfl fun _=>(.bif (.bind .rfl fun _=>(.need .rfl)) (.loop (fun _=>(.bif (.bind .rfl fun _=>(.bind .rfl fun _=>(.bif .rfl .rfl))) .rfl)) fun _=>(.join (.bind .rfl fun _=>(.bind .rfl fun _=>(.bif .rfl .rfl))) fun _=>(.join (.bif .rfl .rfl) fun _=>(.bind .rfl fun _=> .rfl))))))))
def ZG(n:Nat)(x:za×List UInt8):Option (za×List UInt8):=
 zg (zf (0,(⟨x.1.s,w64 (x.1.at_+1)⟩:za))) fun y1=>
 bif y1==(-1)then
  zg (Zx (65533,x.2)) fun y2=>
  some ((⟨x.1.s,w64 (x.1.at_+1)⟩:za),y2)
 else
  zg (Qz y1) fun y3=>
  bif decide (y3<0)then
   zg (qf (wu8 y1)) fun y4=>
   need (zD x.2.length 1 1)<|
   some ((⟨x.1.s,w64 (w64 (x.1.at_+1)+1)⟩:za),x.2++[y4])
  else
   Lf n (fun(s5:(Int×Int)×za)=>
     bif decide (s5.1.2<6)then
      zg (zf (0,s5.2)) fun y6=>
      zg (Qz y6) fun y7=>
      bif decide (y7<0)then
       some (LO.out (s5.1.1,s5.2))
      else
       some (LO.again ((ibOr IntKind.i64 (ik IntKind.i64 s5.1.1 4) y7,w64 (s5.1.2+1)),(⟨s5.2.s,w64 (s5.2.at_+1)⟩:za)))
     else
      some (LO.out (s5.1.1,s5.2)):(Int×Int)×za->Option (LO ((Int×Int)×za) (Int×za) _)) ((0,0),(⟨x.1.s,w64 (x.1.at_+1)⟩:za)) fun o8=>
   zY (X:=Int×za×List UInt8) (
     zg (zf (0,o8.2)) fun y9=>
     zg (Zr y9) fun y10=>
     bif y10 then
      some (LX.out (o8.1,(⟨o8.2.s,w64 (o8.2.at_+1)⟩:za),x.2))
     else
      some (LX.out (o8.1,o8.2,x.2))) fun j11=>
   zY (X:=Int×List UInt8) (
     bif j11.1==0 then
      some (LX.out (65533,j11.2.2))
     else
      some (LX.out (j11.1,j11.2.2))) fun j12=>
   zg (Zx (w32 j12.1,j12.2)) fun y13=>
   some (j11.2.1,y13)
theorem qJ(n:Nat)(x:za×List UInt8):Le (ZG n x) (zL x):=by unfold ZG zL;exact(.bind .rfl fun _=>(.bif (.bind .rfl fun _=> .rfl) (.bind .rfl fun _=>(.bif (.bind .rfl fun _=>(.need .rfl)) (.loop (fun _=>(.bif (.bind .rfl fun _=>(.bind .rfl fun _=>(.bif .rfl .rfl))) .rfl)) fun _=>(.join (.bind .rfl fun _=>(.bind .rfl fun _=>(.bif .rfl .rfl))) fun _=>(.join (.bif .rfl .rfl) fun _=>(.bind .rfl fun _=> .rfl))))))))
def QI(n:Nat)(x:za):Option (ze×za):=
 zg (zf (0,x)) fun y1=>
 Lf n (fun(s2:za×ze×List UInt8)=>
   zg (zf (0,s2.1)) fun y3=>
   bif y3==(-1)then
    some (LO.out (s2.1,s2.2.1,s2.2.2))
   else
    bif y3==y1 then
     some (LO.out ((⟨s2.1.s,w64 (s2.1.at_+1)⟩:za),s2.2.1,s2.2.2))
    else
     bif y3==10 then
      some (LO.ret ((⟨6,[],0,[],false⟩:ze),s2.1))
     else
      zg (zx (y3==92) (zf (1,s2.1)) (default:Int)) fun y4=>
      zg (zx (!(y4==(-1))&&y3==92) (zf (1,s2.1)) (default:Int)) fun y5=>
      bif bif y3==92 then bif y4==(-1)then true else y5==10 else false then
       some (LO.again ((⟨s2.1.s,if(s2.1.s.length:Int)<w64 (s2.1.at_+2)then(s2.1.s.length:Int)else w64 (s2.1.at_+2)⟩:za),s2.2.1,s2.2.2))
      else
       bif y3==92 then
        zg (ZG n (s2.1,s2.2.2)) fun y6=>
        some (LO.again (y6.1,s2.2.1,y6.2))
       else
        zg (qf (wu8 y3)) fun y7=>
        need (zD s2.2.2.length 1 1)<|
        some (LO.again ((⟨s2.1.s,w64 (s2.1.at_+1)⟩:za),s2.2.1,s2.2.2++[y7])):za×ze×List UInt8->Option (LO (za×ze×List UInt8) (za×ze×List UInt8) _)) ((⟨x.s,w64 (x.at_+1)⟩:za),(⟨0,[],0,[],false⟩:ze),[]) fun o8=>
 some ((⟨5,o8.2.2,0,[],false⟩:ze),o8.1)
theorem u7(n:Nat)(x:za):Le (QI n x) (ZA x):=by unfold QI ZA;exact(.bind .rfl fun _=>(.loop (fun _=>(.bind .rfl fun _=>(.bif .rfl (.bif .rfl (.bif .rfl (.bind .rfl fun _=>(.bind .rfl fun _=>(.bif .rfl (.bif (.bind (qJ n _) fun _=> .rfl) (.bind .rfl fun _=>(.need .rfl))))))))))) fun _=> .rfl))
def ZX(n:Nat)(x:za):Option (Str×za):=
 Lf n (fun(s1:za×List UInt8)=>
   zg (zf (0,s1.1)) fun y2=>
   zg (Qk y2) fun y3=>
   bif y3 then
    zg (qf (wu8 y2)) fun y4=>
    need (zD s1.2.length 1 1)<|
    some (LO.again ((⟨s1.1.s,w64 (s1.1.at_+1)⟩:za),s1.2++[y4]))
   else
    zg (zx (y2 != (-1)) (zq (0,s1.1)) (default:Bool)) fun y5=>
    bif bif y2 != (-1)then y5 else false then
     zg (ZG n (s1.1,s1.2)) fun y6=>
     some (LO.again (y6.1,y6.2))
    else
     some (LO.ret (s1.2,s1.1)):za×List UInt8->Option (LO (za×List UInt8) (Unit) _)) (x,[]) fun o7=>
 none
theorem qU(n:Nat)(x:za):Le (ZX n x) (zM x):=by unfold ZX zM;exact(.loop (fun _=>(.bind .rfl fun _=>(.bind .rfl fun _=>(.bif (.bind .rfl fun _=>(.need .rfl)) (.bind .rfl fun _=>(.bif (.bind (qJ n _) fun _=> .rfl) .rfl)))))) fun _=> .none)
def ZV(n:Nat)(x:za):Option za:=
 Lf n (fun(s1:za)=>
   zg (zf (0,s1)) fun y2=>
   zg (Zg y2) fun y3=>
   bif y3 then
    some (LO.again (⟨s1.s,w64 (s1.at_+1)⟩:za))
   else
    some (LO.out s1):za->Option (LO (za) (za) _)) x fun o4=>
 some o4
theorem Qc(n:Nat)(x:za):Le (ZV n x) (zO x):=by unfold ZV zO;exact(.loop (fun _=>(.bind .rfl fun _=>(.bind .rfl fun _=>(.bif .rfl .rfl)))) fun _=> .rfl)
def Qr(n:Nat)(x:za):Option (Bool×za):=
 zY (X:=za) (
   zg (zf (0,x)) fun y1=>
   bif bif y1==43 then true else y1==45 then
    some (LX.out (⟨x.s,w64 (x.at_+1)⟩:za))
   else
    some (LX.out x)) fun j2=>
 zg (ZV n j2) fun y3=>
 zY (X:=Bool×za) (
   zg (zf (0,y3)) fun y4=>
   zg (zx (y4==46) (zf (1,y3)) (default:Int)) fun y5=>
   zg (zx (y4==46) (Zg y5) (default:Bool)) fun y6=>
   bif bif y4==46 then y6 else false then
    zg (ZV n (⟨y3.s,w64 (y3.at_+1)⟩:za)) fun y7=>
    some (LX.out (false,y7))
   else
    some (LX.out (true,y3))) fun j8=>
 zY (X:=Bool×za) (
   zg (zf (0,j8.2)) fun y9=>
   zg (zx (!(y9==101)) (zf (0,j8.2)) (default:Int)) fun y10=>
   bif bif y9==101 then true else y10==69 then
    zY (X:=(Bool×Int)×za) (
      zg (zf (1,j8.2)) fun y11=>
      bif bif y11==43 then true else y11==45 then
       some (LX.out ((j8.1,2),j8.2))
      else
       some (LX.out ((j8.1,1),j8.2))) fun j12=>
    zg (zf (j12.1.2,j12.2)) fun y13=>
    zg (Zg y13) fun y14=>
    bif y14 then
     zg (ZV n (⟨j12.2.s,w64 (j12.2.at_+j12.1.2)⟩:za)) fun y15=>
     some (LX.out (false,y15))
    else
     some (LX.out (j12.1.1,j12.2))
   else
    some (LX.out (j8.1,j8.2))) fun j16=>
 some (j16.1,j16.2)
theorem L8(n:Nat)(x:za):Le (Qr n x) (Zq x):=by unfold Qr Zq;exact(.join (.bind .rfl fun _=>(.bif .rfl .rfl)) fun _=>(.bind (Qc n _) fun _=>(.join (.bind .rfl fun _=>(.bind .rfl fun _=>(.bind .rfl fun _=>(.bif (.bind (Qc n _) fun _=> .rfl) .rfl)))) fun _=>(.join (.bind .rfl fun _=>(.bind .rfl fun _=>(.bif (.join (.bind .rfl fun _=>(.bif .rfl .rfl)) fun _=>(.bind .rfl fun _=>(.bind .rfl fun _=>(.bif (.bind (Qc n _) fun _=> .rfl) .rfl)))) .rfl))) fun _=> .rfl))))
def kF(n:Nat)(x:Str):Option Int:=
 zg (geti x 0) fun y1=>
 zg (Ih (x,[43,45])) fun y2=>
 zY (X:=Str×Int) (
   zg (Qv (y2,[101,69])) fun y3=>
   bif decide (y3>=0)then
    need (decide (0<=w64 (y3+1))&&decide (w64 (y3+1)<=(y2.length:Int)))<|
    zg (Ih (List.drop (w64 (y3+1)).toNat y2,[43,45])) fun y4=>
    need (decide (y4.length<=maxLen))<|
    Lf n (fun(s5:Int×Int)=>
      bif decide (s5.2<(y4.length:Int))then
       need (decide (0<=s5.2)&&decide (s5.2<(y4.length:Int)))<|
       zg y4[s5.2.toNat]? fun y6=>
       some (LO.again (if 1048576<w64 (w64 (10*s5.1)+w64 (wu8 ((y6.toNat:Int) - 48)))then 1048576 else w64 (w64 (10*s5.1)+w64 (wu8 ((y6.toNat:Int) - 48))),w64 (s5.2+1)))
      else
       some (LO.out s5.1):Int×Int->Option (LO (Int×Int) (Int) _)) (0,0) fun o7=>
    zY (X:=Str×Int×Int) (
      zg (geti y2 (w64 (y3+1))) fun y8=>
      bif (y8.toNat:Int)==45 then
       some (LX.out (y2,3,w64 (0 - o7)))
      else
       some (LX.out (y2,3,o7))) fun j9=>
    need (decide (0<=y3)&&decide (y3<=(j9.1.length:Int)))<|
    some (LX.out (List.take y3.toNat j9.1,w64 (j9.2.1+j9.2.2)))
   else
    some (LX.out (y2,3))) fun j10=>
 zg (cutF (j10.1,[46])) fun y11=>
 need (df y11.1.length y11.2.1.length)<|
 zY (X:=Str×Int) (
   bif decide (w64 (j10.2 - (y11.2.1.length:Int))<0)then
    need (decide (0<=(if w64 (((y11.1++y11.2.1).length:Int)+w64 (j10.2 - (y11.2.1.length:Int)))>0 then w64 (((y11.1++y11.2.1).length:Int)+w64 (j10.2 - (y11.2.1.length:Int)))else 0))&&decide ((if w64 (((y11.1++y11.2.1).length:Int)+w64 (j10.2 - (y11.2.1.length:Int)))>0 then w64 (((y11.1++y11.2.1).length:Int)+w64 (j10.2 - (y11.2.1.length:Int)))else 0)<=((y11.1++y11.2.1).length:Int)))<|
    some (LX.out (List.take (if w64 (((y11.1++y11.2.1).length:Int)+w64 (j10.2 - (y11.2.1.length:Int)))>0 then w64 (((y11.1++y11.2.1).length:Int)+w64 (j10.2 - (y11.2.1.length:Int)))else 0).toNat (y11.1++y11.2.1),w64 (j10.2 - (y11.2.1.length:Int))))
   else
    some (LX.out (y11.1++y11.2.1,w64 (j10.2 - (y11.2.1.length:Int))))) fun j12=>
 need (decide (j12.1.length<=maxLen))<|
 Lf n (fun(s13:Int×Int)=>
   bif decide (s13.2<(j12.1.length:Int))then
    need (decide (0<=s13.2)&&decide (s13.2<(j12.1.length:Int)))<|
    zg j12.1[s13.2.toNat]? fun y14=>
    some (LO.again (if 1000000000000<w64 (w64 (10*s13.1)+w64 (wu8 ((y14.toNat:Int) - 48)))then 1000000000000 else w64 (w64 (10*s13.1)+w64 (wu8 ((y14.toNat:Int) - 48))),w64 (s13.2+1)))
   else
    some (LO.out s13.1):Int×Int->Option (LO (Int×Int) (Int) _)) (0,0) fun o15=>
 Lf n (fun(s16:Int×Int)=>
   bif bif bif decide (s16.1>0)then decide (s16.2>0)else false then decide (s16.2<1000000000000)else false then
    some (LO.again (w64 (s16.1 - 1),if 1000000000000<w64 (10*s16.2)then 1000000000000 else w64 (10*s16.2)))
   else
    some (LO.out s16.2):Int×Int->Option (LO (Int×Int) (Int) _)) (j12.2,o15) fun o17=>
 zY (X:=Int) (
   bif (y1.toNat:Int)==45 then
    some (LX.out (w64 (0 - o17)))
   else
    some (LX.out o17)) fun j18=>
 some j18
theorem F7(n:Nat)(x:Str):Le (kF n x) (Zv x):=by unfold kF Zv;exact(.bind .rfl fun _=>(.bind .rfl fun _=>(.join (.bind .rfl fun _=>(.bif (.need (.bind .rfl fun _=>(.need (.loop (fun _=>(.bif (.need (.bind .rfl fun _=> .rfl)) .rfl)) fun _=>(.join (.bind .rfl fun _=>(.bif .rfl .rfl)) fun _=>(.need .rfl)))))) .rfl)) fun _=>(.bind .rfl fun _=>(.need (.join (.bif (.need .rfl) .rfl) fun _=>(.need (.loop (fun _=>(.bif (.need (.bind .rfl fun _=> .rfl)) .rfl)) fun _=>(.loop (fun _=>(.bif .rfl .rfl)) fun _=>(.join (.bif .rfl .rfl) fun _=> .rfl))))))))))
def Qs(n:Nat)(x:za):Option (ze×za):=
 zg (Qr n x) fun y1=>
 need (decide (0<=x.at_)&&(decide (x.at_<=y1.2.at_)&&decide (y1.2.at_<=(y1.2.s.length:Int))))<|
 zg (kF n (List.drop x.at_.toNat (List.take y1.2.at_.toNat y1.2.s))) fun y2=>
 zY (X:=za×ze×ze) (
   zg (zy (0,y1.2)) fun y3=>
   bif y3 then
    zg (ZX n y1.2) fun y4=>
    some (LX.out (y4.2,(⟨0,[],0,[],false⟩:ze),(⟨12,[],y2,y4.1,y1.1⟩:ze)))
   else
    zg (zf (0,y1.2)) fun y5=>
    bif y5==37 then
     some (LX.out ((⟨y1.2.s,w64 (y1.2.at_+1)⟩:za),(⟨0,[],0,[],false⟩:ze),(⟨11,[],y2,[],false⟩:ze)))
    else
     some (LX.out (y1.2,(⟨0,[],0,[],false⟩:ze),(⟨10,[],y2,[],y1.1⟩:ze)))) fun j6=>
 some (j6.2.2,j6.1)
theorem K8(n:Nat)(x:za):Le (Qs n x) (Ze x):=by unfold Qs Ze;exact(.bind (L8 n _) fun _=>(.need (.bind (F7 n _) fun _=>(.join (.bind .rfl fun _=>(.bif (.bind (qU n _) fun _=> .rfl) (.bind .rfl fun _=>(.bif .rfl .rfl)))) fun _=> .rfl))))
def Gu(n:Nat)(x:Str):Option Str:=
 need (decide (x.length<=maxLen))<|
 Lf n (fun(s1:Int×List UInt8)=>
   bif decide (s1.1<(x.length:Int))then
    zY (X:=Int×List UInt8) (
      need (decide (0<=s1.1)&&decide (s1.1<(s1.2.length:Int)))<|
      zg s1.2[s1.1.toNat]? fun y2=>
      bif bif decide (65<=(y2.toNat:Int))then decide ((y2.toNat:Int)<=90)else false then
       need (decide (0<=s1.1)&&decide (s1.1<(s1.2.length:Int)))<|
       zg s1.2[s1.1.toNat]? fun y3=>
       need (decide (0<=s1.1)&&decide (s1.1<(s1.2.length:Int)))<|
       zg s1.2[s1.1.toNat]? fun y4=>
       zg (qf (ibOr IntKind.u8 (y3.toNat:Int) 32)) fun y5=>
       some (LX.out (s1.1,List.set s1.2 s1.1.toNat y5))
      else
       some (LX.out (s1.1,s1.2))) fun j6=>
    some (LO.again (w64 (j6.1+1),j6.2))
   else
    some (LO.out s1.2):Int×List UInt8->Option (LO (Int×List UInt8) (List UInt8) _)) (0,x) fun o7=>
 some o7
theorem YF(n:Nat)(x:Str):Le (Gu n x) (Z5 x):=by unfold Gu Z5;exact(.need (.loop (fun _=>(.bif (.join (.need (.bind .rfl fun _=>(.bif (.need (.bind .rfl fun _=>(.need (.bind .rfl fun _=>(.bind .rfl fun _=> .rfl))))) .rfl))) fun _=> .rfl) .rfl)) fun _=> .rfl))
def Ty(n:Nat)(x:Str×Str):Option Bool:=
 zg (Gu n x.1) fun y1=>
 zg (Gu n x.2) fun y2=>
 some (y1==y2)
theorem cO(n:Nat)(x:Str×Str):Le (Ty n x) (qi x):=by unfold Ty qi;exact(.bind (YF n _) fun _=>(.bind (YF n _) fun _=> .rfl))
def qG(n:Nat)(x:za):Option (ze×za):=
 Lf n (fun(s1:za×ze)=>
   zg (zf (0,s1.1)) fun y2=>
   bif y2==(-1)then
    some (LO.ret ((⟨8,[],0,[],false⟩:ze),s1.1))
   else
    zg (zq (0,s1.1)) fun y3=>
    bif y3 then
     zg (Qa n s1.1) fun y4=>
     some (LO.again (y4.1,s1.2))
    else
     zg (geti s1.1.s (w64 (w64 (s1.1.at_+1) - 1))) fun y5=>
     bif (y5.toNat:Int)==41 then
      some (LO.ret ((⟨8,[],0,[],false⟩:ze),(⟨s1.1.s,w64 (s1.1.at_+1)⟩:za)))
     else
      some (LO.again ((⟨s1.1.s,w64 (s1.1.at_+1)⟩:za),s1.2)):za×ze->Option (LO (za×ze) (Unit) _)) (x,(⟨0,[],0,[],false⟩:ze)) fun o6=>
 none
theorem Q9(n:Nat)(x:za):Le (qG n x) (Zu x):=by unfold qG Zu;exact(.loop (fun _=>(.bind .rfl fun _=>(.bif .rfl (.bind .rfl fun _=>(.bif (.bind (D8 n _) fun _=> .rfl) (.bind .rfl fun _=>(.bif .rfl .rfl))))))) fun _=> .none)
def lF(n:Nat)(x:za):Option (ze×za):=
 zg (ZN n x) fun y1=>
 Lf n (fun(s2:za×ze×List UInt8)=>
   zg (zf (0,s2.1)) fun y3=>
   zY (X:=Int×za×ze×List UInt8) (
     zg (Zr y3) fun y4=>
     bif y4 then
      zg (ZN n s2.1) fun y5=>
      zg (zf (0,y5)) fun y6=>
      bif bif y6 != 41 then y6 != (-1)else false then
       zg (qG n y5) fun y7=>
       some (LX.ret (LO.ret (y7.1,y7.2)))
      else
       some (LX.out (y6,y5,s2.2.1,s2.2.2))
     else
      some (LX.out (y3,s2.1,s2.2.1,s2.2.2))) fun j8=>
   bif j8.1==(-1)then
    some (LO.ret ((⟨7,j8.2.2.2,0,[],false⟩:ze),j8.2.1))
   else
    bif j8.1==41 then
     some (LO.ret ((⟨7,j8.2.2.2,0,[],false⟩:ze),(⟨j8.2.1.s,w64 (j8.2.1.at_+1)⟩:za)))
    else
     zg (zx (!(bif bif bif bif j8.1==34 then true else j8.1==39 then true else j8.1==40 then true else decide (j8.1<=8)then true else j8.1==11)) (ZO (j8.1,14,31)) (default:Bool)) fun y9=>
     bif bif bif bif bif bif bif j8.1==34 then true else j8.1==39 then true else j8.1==40 then true else decide (j8.1<=8)then true else j8.1==11 then true else y9 then true else j8.1==127 then
      zg (qG n j8.2.1) fun y10=>
      some (LO.ret (y10.1,y10.2))
     else
      bif j8.1 != 92 then
       zg (qf (wu8 j8.1)) fun y11=>
       need (zD j8.2.2.2.length 1 1)<|
       some (LO.again ((⟨j8.2.1.s,w64 (j8.2.1.at_+1)⟩:za),j8.2.2.1,j8.2.2.2++[y11]))
      else
       zg (zq (0,j8.2.1)) fun y12=>
       bif y12 then
        zg (ZG n (j8.2.1,j8.2.2.2)) fun y13=>
        some (LO.again (y13.1,j8.2.2.1,y13.2))
       else
        zg (qG n j8.2.1) fun y14=>
        some (LO.ret (y14.1,y14.2)):za×ze×List UInt8->Option (LO (za×ze×List UInt8) (Unit) _)) (y1,(⟨0,[],0,[],false⟩:ze),[]) fun o15=>
 none
theorem P7(n:Nat)(x:za):Le (lF n x) (Z8 x):=by unfold lF Z8;exact(.bind (qH n _) fun _=>(.loop (fun _=>(.bind .rfl fun _=>(.join (.bind .rfl fun _=>(.bif (.bind (qH n _) fun _=>(.bind .rfl fun _=>(.bif (.bind (Q9 n _) fun _=> .rfl) .rfl))) .rfl)) fun _=>(.bif .rfl (.bif .rfl (.bind .rfl fun _=>(.bif (.bind (Q9 n _) fun _=> .rfl) (.bif (.bind .rfl fun _=>(.need .rfl)) (.bind .rfl fun _=>(.bif (.bind (qJ n _) fun _=> .rfl) (.bind (Q9 n _) fun _=> .rfl))))))))))) fun _=> .none))
def QU(n:Nat)(x:za):Option (ze×za):=
 zg (ZX n x) fun y1=>
 zg (zf (0,y1.2)) fun y2=>
 bif y2 != 40 then
  some ((⟨1,y1.1,0,[],false⟩:ze),y1.2)
 else
  zY (X:=za×ze) (
    zg (Ty n (y1.1,[117,114,108])) fun y3=>
    bif y3 then
     zg (ZN n (⟨y1.2.s,w64 (y1.2.at_+1)⟩:za)) fun y4=>
     zg (zf (0,y4)) fun y5=>
     bif bif y5 != 34 then y5 != 39 else false then
      zg (lF n (⟨y1.2.s,w64 (y1.2.at_+1)⟩:za)) fun y6=>
      some (LX.ret (y6.1,y6.2))
     else
      some (LX.out ((⟨y1.2.s,w64 (y1.2.at_+1)⟩:za),(⟨0,[],0,[],false⟩:ze)))
    else
     some (LX.out ((⟨y1.2.s,w64 (y1.2.at_+1)⟩:za),(⟨0,[],0,[],false⟩:ze)))) fun j7=>
  some ((⟨2,y1.1,0,[],false⟩:ze),j7.1)
theorem X7(n:Nat)(x:za):Le (QU n x) (Zi x):=by unfold QU Zi;exact(.bind (qU n _) fun _=>(.bind .rfl fun _=>(.bif .rfl (.join (.bind (cO n _) fun _=>(.bif (.bind (qH n _) fun _=>(.bind .rfl fun _=>(.bif (.bind (P7 n _) fun _=> .rfl) .rfl))) .rfl)) fun _=> .rfl))))
def mF(n:Nat)(x:za):Option (ze×za):=
 zg (zf (0,x)) fun y1=>
 need (decide (0<=x.at_)&&decide (x.at_<=(x.s.length:Int)))<|
 zg (Zr y1) fun y2=>
 bif y2 then
  zg (ZN n x) fun y3=>
  some ((⟨13,[],0,[],false⟩:ze),y3)
 else
  bif bif y1==34 then true else y1==39 then
   zg (QI n x) fun y4=>
   some (y4.1,y4.2)
  else
   zg (zx (y1==35) (zf (1,x)) (default:Int)) fun y5=>
   zg (zx (y1==35) (Qk y5) (default:Bool)) fun y6=>
   zg (zx (!y6&&y1==35) (zq (1,x)) (default:Bool)) fun y7=>
   bif bif y1==35 then bif y6 then true else y7 else false then
    zg (zy (1,x)) fun y8=>
    zg (ZX n (⟨x.s,w64 (x.at_+1)⟩:za)) fun y9=>
    some ((⟨4,y9.1,0,[],y8⟩:ze),y9.2)
   else
    zg (Zl x) fun y10=>
    bif y10 then
     zg (Qs n x) fun y11=>
     some (y11.1,y11.2)
    else
     zg (strings_HasPrefix (List.drop x.at_.toNat x.s,[45,45,62])) fun y12=>
     bif y12 then
      some ((⟨15,[],0,[],false⟩:ze),(⟨x.s,w64 (x.at_+3)⟩:za))
     else
      zg (strings_HasPrefix (List.drop x.at_.toNat x.s,[60,33,45,45])) fun y13=>
      bif y13 then
       some ((⟨14,[],0,[],false⟩:ze),(⟨x.s,w64 (x.at_+4)⟩:za))
      else
       zg (zx (y1==64) (zy (1,x)) (default:Bool)) fun y14=>
       bif bif y1==64 then y14 else false then
        zg (ZX n (⟨x.s,w64 (x.at_+1)⟩:za)) fun y15=>
        some ((⟨3,y15.1,0,[],false⟩:ze),y15.2)
       else
        zg (zy (0,x)) fun y16=>
        bif y16 then
         zg (QU n x) fun y17=>
         some (y17.1,y17.2)
        else
         zg (strings_IndexByte ([58,59,44,91,93,40,41,123,125],wu8 y1)) fun y18=>
         bif decide (y18>=0)then
          some ((⟨wu8 (16+wu8 y18),[],0,[],false⟩:ze),(⟨x.s,w64 (x.at_+1)⟩:za))
         else
          need (decide (1<=((List.drop x.at_.toNat x.s).length:Int)))<|
          some ((⟨9,List.take 1 (List.drop x.at_.toNat x.s),0,[],false⟩:ze),(⟨x.s,w64 (x.at_+1)⟩:za))
theorem K7(n:Nat)(x:za):Le (mF n x) (ZC x):=by unfold mF ZC;exact(.bind .rfl fun _=>(.need (.bind .rfl fun _=>(.bif (.bind (qH n _) fun _=> .rfl) (.bif (.bind (u7 n _) fun _=> .rfl) (.bind .rfl fun _=>(.bind .rfl fun _=>(.bind .rfl fun _=>(.bif (.bind .rfl fun _=>(.bind (qU n _) fun _=> .rfl)) (.bind .rfl fun _=>(.bif (.bind (K8 n _) fun _=> .rfl) (.bind .rfl fun _=>(.bif .rfl (.bind .rfl fun _=>(.bif .rfl (.bind .rfl fun _=>(.bif (.bind (qU n _) fun _=> .rfl) (.bind .rfl fun _=>(.bif (.bind (X7 n _) fun _=> .rfl) (.bind .rfl fun _=>(.bif .rfl (.need .rfl))))))))))))))))))))))
def TF(n:Nat)(x:Str):Option (Int×List ze):=
 zg (Ki x) fun y1=>
 bif y1.2 != 0 then
  some (y1.2,[])
 else
  zg (qh n (⟨y1.1,0⟩:za)) fun y2=>
  Lf n (fun(s3:Int×List ze×za)=>
    bif decide (s3.2.2.at_<(y1.1.length:Int))then
     bif decide (w64 (s3.1+1)>1500)then
      some (LO.ret (4,s3.2.1))
     else
      zg (mF n s3.2.2) fun y4=>
      zg (qO ((y4.1,s3.2.2.at_,y4.2.at_),s3.2.1)) fun y5=>
      zg (qh n y4.2) fun y6=>
      some (LO.again (w64 (s3.1+1),y5,y6))
    else
     some (LO.out (s3.2.1,s3.2.2)):Int×List ze×za->Option (LO (Int×List ze×za) (List ze×za) _)) (0,[],y2) fun o7=>
  some (0,o7.1)
theorem J6(n:Nat)(x:Str):Le (TF n x) (QT x):=by unfold TF QT;exact(.bind .rfl fun _=>(.bif .rfl (.bind (WP n _) fun _=>(.loop (fun _=>(.bif (.bif .rfl (.bind (K7 n _) fun _=>(.bind .rfl fun _=>(.bind (WP n _) fun _=> .rfl)))) .rfl)) fun _=> .rfl))))
def Au(n:Nat)(x:Str):Option (List ze×Int):=
 zg (TF n x) fun y1=>
 bif y1.1 != 0 then
  some ([],y1.1)
 else
  some (y1.2,0)
theorem Yy(n:Nat)(x:Str):Le (Au n x) (qX x):=by unfold Au qX;exact(.bind (J6 n _) fun _=>(.bif .rfl .rfl))
def DF(n:Nat)(qo:List zb×Int->Option zw)(x:List zb×Int):Option zw:=
 Lf n (fun(s1:Int×zw)=>
   bif decide (s1.1<(x.1.length:Int))then
    zY (X:=Int×zw) (
      zg (geti x.1 s1.1) fun y2=>
      zg (qj y2.token.kind) fun y3=>
      zY (X:=zw) (
        bif bif bif x.2 != 0 then y2.token.kind==x.2 else false then true else bif y3==0 then decide ((y2.list.length:Int)>0)else false then
         some (LX.out (⟨s1.2.depth,w64 (s1.2.tokens+1),true⟩:zw))
        else
         some (LX.out (⟨s1.2.depth,w64 (s1.2.tokens+1),s1.2.bad⟩:zw))) fun j4=>
      bif y3==0 then
       some (LX.out (s1.1,j4))
      else
       zg (qo (y2.list,y3)) fun y5=>
       some (LX.out (s1.1,(⟨if w64 (y5.depth+1)>j4.depth then w64 (y5.depth+1)else j4.depth,w64 (w64 (j4.tokens+y5.tokens)+1),bif j4.bad then true else y5.bad⟩:zw)))) fun j6=>
    some (LO.again (w64 (j6.1+1),j6.2))
   else
    some (LO.out s1.2):Int×zw->Option (LO (Int×zw) (zw) _)) (0,(⟨0,0,false⟩:zw)) fun o7=>
 some o7
def vM(n:Nat):List zb×Int->Option zw:=vg (DF n) n
theorem M3(n:Nat)(qo nest_look':List zb×Int->Option zw)(h_nest_look: ∀z,Le (qo z) (nest_look' z))(x:List zb×Int):Le (DF n qo x) (Ep nest_look' x):=by unfold DF Ep;exact(.loop (fun _=>(.bif (.join (.bind .rfl fun _=>(.bind .rfl fun _=>(.join (.bif .rfl .rfl) fun _=>(.bif .rfl (.bind (h_nest_look _) fun _=> .rfl))))) fun _=> .rfl) .rfl)) fun _=> .rfl)
theorem M0(n:Nat)(x:List zb×Int):Le (vM n x) (qo x):=Le.rec (fun S S' h x=>M3 n S S' h x) n x
def Ky(n:Nat)(x:List zb):Option Int:=
 zg (vM n (x,0)) fun y1=>
 bif decide (y1.depth>16)then
  some 20
 else
  bif decide (y1.tokens>1500)then
   some 4
  else
   bif y1.bad then
    some 8
   else
    some 0
theorem vN(n:Nat)(x:List zb):Le (Ky n x) (Z7 x):=by unfold Ky Z7;exact(.bind (M0 n _) fun _=>(.bif .rfl (.bif .rfl (.bif .rfl .rfl))))
def RF(n:Nat)(Zz:List zb×List ze->Option (List ze))(x:List zb×List ze):Option (List ze):=
 Lf n (fun(s1:Int×List ze)=>
   bif decide (s1.1<(x.1.length:Int))then
    zY (X:=Int×List ze) (
      zg (geti x.1 s1.1) fun y2=>
      need (zD s1.2.length 1 56)<|
      zg (qj y2.token.kind) fun y3=>
      bif y3 != 0 then
       zg (Zz (y2.list,s1.2++[y2.token])) fun y4=>
       need (zD y4.length 1 56)<|
       some (LX.out (s1.1,y4++[(⟨y3,[],0,[],false⟩:ze)]))
      else
       some (LX.out (s1.1,s1.2++[y2.token]))) fun j5=>
    some (LO.again (w64 (j5.1+1),j5.2))
   else
    some (LO.out s1.2):Int×List ze->Option (LO (Int×List ze) (List ze) _)) (0,x.2) fun o6=>
 some o6
def RO(n:Nat):List zb×List ze->Option (List ze):=vg (RF n) n
theorem L6(n:Nat)(Zz nest_flat_3':List zb×List ze->Option (List ze))(h_nest_flat_3: ∀z,Le (Zz z) (nest_flat_3' z))(x:List zb×List ze):Le (RF n Zz x) (Q3 nest_flat_3' x):=by unfold RF Q3;exact(.loop (fun _=>(.bif (.join (.bind .rfl fun _=>(.need (.bind .rfl fun _=>(.bif (.bind (h_nest_flat_3 _) fun _=>(.need .rfl)) .rfl)))) fun _=> .rfl) .rfl)) fun _=> .rfl)
theorem O5(n:Nat)(x:List zb×List ze):Le (RO n x) (Zz x):=Le.rec (fun S S' h x=>L6 n S S' h x) n x
def Sy(n:Nat)(x:List zb):Option (List ze):=
 Lf n (fun(s1:Int×List ze)=>
   bif decide (s1.1<(x.length:Int))then
    zY (X:=Int×List ze) (
      zg (geti x s1.1) fun y2=>
      need (zD s1.2.length 1 56)<|
      zg (qj y2.token.kind) fun y3=>
      bif y3 != 0 then
       zg (RO n (y2.list,s1.2++[y2.token])) fun y4=>
       need (zD y4.length 1 56)<|
       some (LX.out (s1.1,y4++[(⟨y3,[],0,[],false⟩:ze)]))
      else
       some (LX.out (s1.1,s1.2++[y2.token]))) fun j5=>
    some (LO.again (w64 (j5.1+1),j5.2))
   else
    some (LO.out s1.2):Int×List ze->Option (LO (Int×List ze) (List ze) _)) (0,[]) fun o6=>
 some o6
theorem bO(n:Nat)(x:List zb):Le (Sy n x) (qZ x):=by unfold Sy qZ;exact(.loop (fun _=>(.bif (.join (.bind .rfl fun _=>(.need (.bind .rfl fun _=>(.bif (.bind (O5 n _) fun _=>(.need .rfl)) .rfl)))) fun _=> .rfl) .rfl)) fun _=> .rfl)
def NE(n:Nat)(x:List zb):Option (List ze×Int):=
 zg (Ky n x) fun y1=>
 bif y1 != 0 then
  some ([],y1)
 else
  zg (Sy n x) fun y2=>
  some (y2,0)
theorem U0(n:Nat)(x:List zb):Le (NE n x) (Hm x):=by unfold NE Hm;exact(.bind (vN n _) fun _=>(.bif .rfl (.bind (bO n _) fun _=> .rfl)))
def mE(n:Nat)(x:Str):Option Bool:=
 zg (zx (!(bif x==[]then true else decide ((x.length:Int)>64))) (strings_IndexByte (x,0)) (default:Int)) fun y1=>
 bif bif bif x==[]then true else decide ((x.length:Int)>64)then true else decide (y1>=0)then
  some false
 else
  zg (strings_HasPrefix (x,[45,45])) fun y2=>
  bif y2 then
   some (!(x==[45,45]))
  else
   zg (Gu n x) fun y3=>
   some (x==y3)
theorem J3(n:Nat)(x:Str):Le (mE n x) (Rm x):=by unfold mE Rm;exact(.bind .rfl fun _=>(.bif .rfl (.bind .rfl fun _=>(.bif .rfl (.bind (YF n _) fun _=> .rfl)))))
def Ny(n:Nat)(x:List ze):Option Int:=
 zg (geti x 0) fun y1=>
 bif bif y1.kind==9 then y1.text==[92]else false then
  zg (Zo ((1,13),x)) fun y2=>
  bif !y2 then
   some 0
  else
   some 2
 else
  zg (zx (y1.kind==2) (Ty n (y1.text,[117,114,108])) (default:Bool)) fun y3=>
  bif bif y1.kind==2 then y3 else false then
   zY (X:=Int) (
     zg (Zo ((1,13),x)) fun y4=>
     bif y4 then
      some (LX.out 2)
     else
      some (LX.out 1)) fun j5=>
   zg (Zo ((j5,5),x)) fun y6=>
   bif !y6 then
    some 0
   else
    some (w64 (j5+1))
  else
   some 1
theorem wN(n:Nat)(x:List ze):Le (Ny n x) (qN x):=by unfold Ny qN;exact(.bind .rfl fun _=>(.bif (.bind .rfl fun _=>(.bif .rfl .rfl)) (.bind (.cond (cO n _)) fun _=>(.bif (.join (.bind .rfl fun _=>(.bif .rfl .rfl)) fun _=>(.bind .rfl fun _=>(.bif .rfl .rfl))) .rfl))))
def Oy(n:Nat)(x:List ze):Option Int:=
 bif decide ((x.length:Int)>1500)then
  some 4
 else
  Lf n (fun(s1:Int)=>
    bif decide (s1<(x.length:Int))then
     zg (geti x s1) fun y2=>
     zg (wo y2) fun y3=>
     need (decide (0<=s1)&&decide (s1<=(x.length:Int))|| !(!(!y3)))<|
     zg (zx (!(!y3)) (Ny n (List.drop s1.toNat x)) (default:Int)) fun y4=>
     bif bif !y3 then true else y4==0 then
      some (LO.ret 8)
     else
      some (LO.again (w64 (s1+1)))
    else
     some (LO.out ()):Int->Option (LO (Int) (Unit) _)) 0 fun o5=>
  some 0
theorem xN(n:Nat)(x:List ze):Le (Oy n x) (QE x):=by unfold Oy QE;exact(.bif .rfl (.loop (fun _=>(.bif (.bind .rfl fun _=>(.bind .rfl fun _=>(.need (.bind (.cond (wN n _)) fun _=>(.bif .rfl .rfl))))) .rfl)) fun _=> .rfl))
def iF(n:Nat)(zk:List zb->Option Bool)(x:zb):Option Bool:=
 zg (Zm ((⟨x.token,x.list⟩:zb),20)) fun y1=>
 zg (zx (!y1) (Zm ((⟨x.token,x.list⟩:zb),22)) (default:Bool)) fun y2=>
 zg (zx (!(bif y1 then true else y2)) (Zm ((⟨x.token,x.list⟩:zb),24)) (default:Bool)) fun y3=>
 zg (zx (!(bif bif y1 then true else y2 then true else y3)) (zk x.list) (default:Bool)) fun y4=>
 some (bif bif bif y1 then true else y2 then true else y3 then true else y4)
theorem O6(n:Nat)(zk decl_closers':List zb->Option Bool)(h_decl_closers: ∀z,Le (zk z) (decl_closers' z))(x:zb):Le (iF n zk x) (qz decl_closers' x):=by unfold iF qz;exact(.bind .rfl fun _=>(.bind .rfl fun _=>(.bind .rfl fun _=>(.bind (.cond (h_decl_closers _)) fun _=> .rfl))))
def Qe(n:Nat)(zk:List zb->Option Bool)(x:List zb):Option Int:=
 Lf n (fun(s1:Int)=>
   bif decide (s1<(x.length:Int))then
    zg (geti x s1) fun y2=>
    zg (iF n zk (⟨y2.token,y2.list⟩:zb)) fun y3=>
    bif y3 then
     some (LO.ret s1)
    else
     some (LO.again (w64 (s1+1)))
   else
    some (LO.out ()):Int->Option (LO (Int) (Unit) _)) 0 fun o4=>
 some (-1)
theorem J8(n:Nat)(zk decl_closers':List zb->Option Bool)(h_decl_closers: ∀z,Le (zk z) (decl_closers' z))(x:List zb):Le (Qe n zk x) (ZF decl_closers' x):=by unfold Qe ZF;exact(.loop (fun _=>(.bif (.bind .rfl fun _=>(.bind (O6 n _ _ h_decl_closers _) fun _=>(.bif .rfl .rfl))) .rfl)) fun _=> .rfl)
def qF(n:Nat)(zk:List zb->Option Bool)(x:List zb):Option Bool:=
 zg (Qe n zk x) fun y1=>
 some (decide (y1>=0))
theorem U8(n:Nat)(zk decl_closers':List zb->Option Bool)(h_decl_closers: ∀z,Le (zk z) (decl_closers' z))(x:List zb):Le (qF n zk x) (Zj decl_closers' x):=by unfold qF Zj;exact(.bind (J8 n _ _ h_decl_closers _) fun _=> .rfl)
def gF(n:Nat)(zk:List zb->Option Bool)(x:List zb):Option Bool:=
 zg (qF n zk x) fun y1=>
 some y1
def dO(n:Nat):List zb->Option Bool:=vg (gF n) n
theorem R6(n:Nat)(zk decl_closers':List zb->Option Bool)(h_decl_closers: ∀z,Le (zk z) (decl_closers' z))(x:List zb):Le (gF n zk x) (QC decl_closers' x):=by unfold gF QC;exact(.bind (U8 n _ _ h_decl_closers _) fun _=> .rfl)
theorem K6(n:Nat)(x:List zb):Le (dO n x) (zk x):=Le.rec (fun S S' h x=>R6 n S S' h x) n x
def qL(n:Nat)(x:List zb):Option Int:=
 Lf n (fun(s1:Int)=>
   bif decide (s1<(x.length:Int))then
    zg (geti x s1) fun y2=>
    zg (Yp (⟨y2.token,y2.list⟩:zb)) fun y3=>
    bif y3 then
     some (LO.ret s1)
    else
     some (LO.again (w64 (s1+1)))
   else
    some (LO.out ()):Int->Option (LO (Int) (Unit) _)) 0 fun o4=>
 some (-1)
theorem F8(n:Nat)(x:List zb):Le (qL n x) (Zn x):=by unfold qL Zn;exact(.loop (fun _=>(.bif (.bind .rfl fun _=>(.bind .rfl fun _=>(.bif .rfl .rfl))) .rfl)) fun _=> .rfl)
def ql(n:Nat)(x:List zb):Option Bool:=
 zg (qL n x) fun y1=>
 some (decide (y1>=0))
theorem N8(n:Nat)(x:List zb):Le (ql n x) (z8 x):=by unfold ql z8;exact(.bind (F8 n _) fun _=> .rfl)
def pE(n:Nat)(x:zT):Option Int:=
 zg (NE n x.value) fun y1=>
 zg (mE n x.name) fun y2=>
 zg (zx (!(bif !y2 then true else y1.2 != 0)) (Oy n y1.1) (default:Int)) fun y3=>
 zg (zx (!(bif bif !y2 then true else y1.2 != 0 then true else y3 != 0)) (dO n x.value) (default:Bool)) fun y4=>
 bif bif bif bif !y2 then true else y1.2 != 0 then true else y3 != 0 then true else y4 then
  some 8
 else
  zg (ql n x.value) fun y5=>
  bif y5 then
   some 8
  else
   zg (zx ((x.value.length:Int)==0) (strings_HasPrefix (x.name,[45,45])) (default:Bool)) fun y6=>
   zg (zx (decide ((x.value.length:Int)>0)&& !(bif (x.value.length:Int)==0 then !y6 else false)) (geti x.value 0) (default:zb)) fun y7=>
   zg (zx (decide ((x.value.length:Int)>0)&& !(bif (x.value.length:Int)==0 then !y6 else false)) (Zm ((⟨y7.token,y7.list⟩:zb),13)) (default:Bool)) fun y8=>
   zg (zx (!y8&&(decide ((x.value.length:Int)>0)&& !(bif (x.value.length:Int)==0 then !y6 else false))) (geti x.value (w64 ((x.value.length:Int) - 1))) (default:zb)) fun y9=>
   zg (zx (!y8&&(decide ((x.value.length:Int)>0)&& !(bif (x.value.length:Int)==0 then !y6 else false))) (Zm ((⟨y9.token,y9.list⟩:zb),13)) (default:Bool)) fun y10=>
   bif bif bif (x.value.length:Int)==0 then !y6 else false then true else bif decide ((x.value.length:Int)>0)then bif y8 then true else y10 else false then
    some 8
   else
    some 0
theorem K3(n:Nat)(x:zT):Le (pE n x) (zW x):=by unfold pE zW;exact(.bind (U0 n _) fun _=>(.bind (J3 n _) fun _=>(.bind (.cond (xN n _)) fun _=>(.bind (.cond (K6 n _)) fun _=>(.bif .rfl (.bind (N8 n _) fun _=>(.bif .rfl (.bind .rfl fun _=>(.bind .rfl fun _=>(.bind .rfl fun _=>(.bind .rfl fun _=>(.bind .rfl fun _=>(.bif .rfl .rfl)))))))))))))
def KF(n:Nat)(x:Str×Int):Option (List UInt8):=
 Lf n (fun(s1:Int×List UInt8)=>
   bif decide (s1.1<(x.1.length:Int))then
    zY (X:=Int×List UInt8) (
      zg (geti x.1 s1.1) fun y2=>
      zg (qM (y2.toNat:Int)) fun y3=>
      zg (zx (!(decide (s1.1>=x.2))&&y3) (ZL (y2.toNat:Int)) (default:Bool)) fun y4=>
      bif bif bif y3 then bif decide (s1.1>=x.2)then true else !y4 else false then bif x.2==0 then true else !(x.1==[45])else false then
       zg (qf (y2.toNat:Int)) fun y5=>
       need (zD s1.2.length 1 1)<|
       some (LX.out (s1.1,s1.2++[y5]))
      else
       zg (Zc ((y2.toNat:Int),s1.2)) fun y6=>
       some (LX.out (s1.1,y6))) fun j7=>
    some (LO.again (w64 (j7.1+1),j7.2))
   else
    some (LO.out s1.2):Int×List UInt8->Option (LO (Int×List UInt8) (List UInt8) _)) (0,[]) fun o8=>
 some o8
theorem R5(n:Nat)(x:Str×Int):Le (KF n x) (Vm x):=by unfold KF Vm;exact(.loop (fun _=>(.bif (.join (.bind .rfl fun _=>(.bind .rfl fun _=>(.bind .rfl fun _=>(.bif (.bind .rfl fun _=>(.need .rfl)) (.bind .rfl fun _=> .rfl))))) fun _=> .rfl) .rfl)) fun _=> .rfl)
def PE(n:Nat)(x:Str):Option (Str×Int):=
 zg (zx (!(x==[])) (strings_IndexByte (x,0)) (default:Int)) fun y1=>
 bif bif x==[]then true else decide (y1>=0)then
  some ([],8)
 else
  zg (ZM x) fun y2=>
  zg (KF n (x,y2)) fun y3=>
  bif bif decide ((x.length:Int)>4000)then true else decide ((y3.length:Int)>4000)then
   some ([],28)
  else
   some (y3,0)
theorem X0(n:Nat)(x:Str):Le (PE n x) (Km x):=by unfold PE Km;exact(.bind .rfl fun _=>(.bif .rfl (.bind .rfl fun _=>(.bind (R5 n _) fun _=>(.bif .rfl .rfl)))))
def qQ(n:Nat)(x:(Str×Int)×List UInt8):Option (List UInt8):=
 Lf n (fun(s1:Int×List UInt8)=>
   bif decide (s1.1<(x.1.1.length:Int))then
    zY (X:=Int×List UInt8) (
      zg (geti x.1.1 s1.1) fun y2=>
      zg (qM (y2.toNat:Int)) fun y3=>
      zg (zx (!(decide (s1.1>=x.1.2))&&y3) (ZL (y2.toNat:Int)) (default:Bool)) fun y4=>
      bif bif bif y3 then bif decide (s1.1>=x.1.2)then true else !y4 else false then bif x.1.2==0 then true else !(x.1.1==[45])else false then
       zg (qf (y2.toNat:Int)) fun y5=>
       need (zD s1.2.length 1 1)<|
       some (LX.out (s1.1,s1.2++[y5]))
      else
       zg (Zc ((y2.toNat:Int),s1.2)) fun y6=>
       some (LX.out (s1.1,y6))) fun j7=>
    some (LO.again (w64 (j7.1+1),j7.2))
   else
    some (LO.out s1.2):Int×List UInt8->Option (LO (Int×List UInt8) (List UInt8) _)) (0,x.2) fun o8=>
 some o8
theorem QF(n:Nat)(x:(Str×Int)×List UInt8):Le (qQ n x) (Z4 x):=by unfold qQ Z4;exact(.loop (fun _=>(.bif (.join (.bind .rfl fun _=>(.bind .rfl fun _=>(.bind .rfl fun _=>(.bif (.bind .rfl fun _=>(.need .rfl)) (.bind .rfl fun _=> .rfl))))) fun _=> .rfl) .rfl)) fun _=> .rfl)
def JF(n:Nat)(x:ze×List UInt8):Option (List UInt8):=
 bif x.1.kind==1 then
  zg (ZM x.1.text) fun y1=>
  zg (qQ n ((x.1.text,y1),x.2)) fun y2=>
  some y2
 else
  bif x.1.kind==2 then
   zg (ZM x.1.text) fun y3=>
   zg (qQ n ((x.1.text,y3),x.2)) fun y4=>
   need (zD y4.length 1 1)<|
   some (y4++[(40:UInt8)])
  else
   bif x.1.kind==3 then
    need (zD x.2.length 1 1)<|
    zg (ZM x.1.text) fun y5=>
    zg (qQ n ((x.1.text,y5),x.2++[(64:UInt8)])) fun y6=>
    some y6
   else
    bif x.1.kind==4 then
     zY (X:=Int×List UInt8) (
       bif x.1.flag then
        zg (ZM x.1.text) fun y7=>
        some (LX.out (y7,x.2))
       else
        some (LX.out (0,x.2))) fun j8=>
     need (zD j8.2.length 1 1)<|
     zg (qQ n ((x.1.text,j8.1),j8.2++[(35:UInt8)])) fun y9=>
     some y9
    else
     bif x.1.kind==5 then
      need (zD x.2.length 1 1)<|
      need (decide (x.1.text.length<=maxLen))<|
      Lf n (fun(s10:Int×List UInt8)=>
        bif decide (s10.1<(x.1.text.length:Int))then
         zY (X:=Int×List UInt8) (
           need (decide (0<=s10.1)&&decide (s10.1<(x.1.text.length:Int)))<|
           zg x.1.text[s10.1.toNat]? fun y11=>
           zg (strings_IndexByte ([10,12,13,34,92],(y11.toNat:Int))) fun y12=>
           bif decide (y12>=0)then
            zg (Zc ((y11.toNat:Int),s10.2)) fun y13=>
            some (LX.out (s10.1,y13))
           else
            zg (qf (y11.toNat:Int)) fun y14=>
            need (zD s10.2.length 1 1)<|
            some (LX.out (s10.1,s10.2++[y14]))) fun j15=>
         some (LO.again (w64 (j15.1+1),j15.2))
        else
         some (LO.out s10.2):Int×List UInt8->Option (LO (Int×List UInt8) (List UInt8) _)) (0,x.2++[(34:UInt8)]) fun o16=>
      need (zD o16.length 1 1)<|
      some (o16++[(34:UInt8)])
     else
      bif x.1.kind==7 then
       need (zD x.2.length ([117,114,108,40]:Str).length 1)<|
       need (decide (x.1.text.length<=maxLen))<|
       Lf n (fun(s17:Int×List UInt8)=>
         bif decide (s17.1<(x.1.text.length:Int))then
          zY (X:=Int×List UInt8) (
            need (decide (0<=s17.1)&&decide (s17.1<(x.1.text.length:Int)))<|
            zg x.1.text[s17.1.toNat]? fun y18=>
            zg (zx (!(decide ((y18.toNat:Int)<=32))) (strings_IndexByte ([34,39,40,41,92,127],(y18.toNat:Int))) (default:Int)) fun y19=>
            bif bif decide ((y18.toNat:Int)<=32)then true else decide (y19>=0)then
             zg (Zc ((y18.toNat:Int),s17.2)) fun y20=>
             some (LX.out (s17.1,y20))
            else
             zg (qf (y18.toNat:Int)) fun y21=>
             need (zD s17.2.length 1 1)<|
             some (LX.out (s17.1,s17.2++[y21]))) fun j22=>
          some (LO.again (w64 (j22.1+1),j22.2))
         else
          some (LO.out s17.2):Int×List UInt8->Option (LO (Int×List UInt8) (List UInt8) _)) (0,x.2++([117,114,108,40]:Str)) fun o23=>
       need (zD o23.length 1 1)<|
       some (o23++[(41:UInt8)])
      else
       bif x.1.kind==9 then
        need (zD x.2.length x.1.text.length 1)<|
        some (x.2++x.1.text)
       else
        bif x.1.kind==10 then
         zg (qa ((x.1.num, !x.1.flag),x.2)) fun y24=>
         some y24
        else
         bif x.1.kind==11 then
          zg (qa ((x.1.num,false),x.2)) fun y25=>
          need (zD y25.length 1 1)<|
          some (y25++[(37:UInt8)])
         else
          bif x.1.kind==12 then
           zg (qa ((x.1.num, !x.1.flag),x.2)) fun y26=>
           zg (geti x.1.unit 0) fun y27=>
           need (decide (1<=(x.1.unit.length:Int))|| !(ibOr IntKind.u8 (y27.toNat:Int) 32==101))<|
           zg (zx (ibOr IntKind.u8 (y27.toNat:Int) 32==101) (Qj (List.drop 1 x.1.unit)) (default:Bool)) fun y28=>
           need (decide (1<=(x.1.unit.length:Int))|| !(bif ibOr IntKind.u8 (y27.toNat:Int) 32==101 then y28 else false))<|
           zg (zx (bif ibOr IntKind.u8 (y27.toNat:Int) 32==101 then y28 else false) (strings_HasPrefix (List.drop 1 x.1.unit,[45,45])) (default:Bool)) fun y29=>
           bif bif bif ibOr IntKind.u8 (y27.toNat:Int) 32==101 then y28 else false then !y29 else false then
            zg (geti x.1.unit 0) fun y30=>
            zg (Zc ((y30.toNat:Int),y26)) fun y31=>
            need (decide (1<=(x.1.unit.length:Int)))<|
            zg (qQ n ((List.drop 1 x.1.unit,0),y31)) fun y32=>
            some y32
           else
            zg (ZM x.1.unit) fun y33=>
            zg (qQ n ((x.1.unit,y33),y26)) fun y34=>
            some y34
          else
           zg (Pp ()) fun y35=>
           zg (geti [y35.e0,y35.e1,y35.e2,y35.e3,y35.e4,y35.e5,y35.e6,y35.e7,y35.e8,y35.e9,y35.e10,y35.e11] (wu8 (x.1.kind - 13))) fun y36=>
           need (zD x.2.length y36.length 1)<|
           some (x.2++y36)
theorem P5(n:Nat)(x:ze×List UInt8):Le (JF n x) (QQ x):=by unfold JF QQ;exact(.bif (.bind .rfl fun _=>(.bind (QF n _) fun _=> .rfl)) (.bif (.bind .rfl fun _=>(.bind (QF n _) fun _=>(.need .rfl))) (.bif (.need (.bind .rfl fun _=>(.bind (QF n _) fun _=> .rfl))) (.bif (.join (.bif (.bind .rfl fun _=> .rfl) .rfl) fun _=>(.need (.bind (QF n _) fun _=> .rfl))) (.bif (.need (.need (.loop (fun _=>(.bif (.join (.need (.bind .rfl fun _=>(.bind .rfl fun _=>(.bif (.bind .rfl fun _=> .rfl) (.bind .rfl fun _=>(.need .rfl)))))) fun _=> .rfl) .rfl)) fun _=>(.need .rfl)))) (.bif (.need (.need (.loop (fun _=>(.bif (.join (.need (.bind .rfl fun _=>(.bind .rfl fun _=>(.bif (.bind .rfl fun _=> .rfl) (.bind .rfl fun _=>(.need .rfl)))))) fun _=> .rfl) .rfl)) fun _=>(.need .rfl)))) (.bif (.need .rfl) (.bif (.bind .rfl fun _=> .rfl) (.bif (.bind .rfl fun _=>(.need .rfl)) (.bif (.bind .rfl fun _=>(.bind .rfl fun _=>(.need (.bind .rfl fun _=>(.need (.bind .rfl fun _=>(.bif (.bind .rfl fun _=>(.bind .rfl fun _=>(.need (.bind (QF n _) fun _=> .rfl)))) (.bind .rfl fun _=>(.bind (QF n _) fun _=> .rfl))))))))) (.bind .rfl fun _=>(.bind .rfl fun _=>(.need .rfl)))))))))))))
def oF(n:Nat)(x:List ze×List ze):Option Bool:=
 bif (x.1.length:Int) != (x.2.length:Int)then
  some false
 else
  Lf n (fun(s1:Int)=>
    bif decide (s1<(x.1.length:Int))then
     zg (geti x.1 s1) fun y2=>
     zg (geti x.2 s1) fun y3=>
     bif !(y2.kind==y3.kind&&(y2.text==y3.text&&(y2.num==y3.num&&(y2.unit==y3.unit&&(y2.flag==y3.flag&&true)))))then
      some (LO.ret false)
     else
      some (LO.again (w64 (s1+1)))
    else
     some (LO.out ()):Int->Option (LO (Int) (Unit) _)) 0 fun o4=>
  some true
theorem M7(n:Nat)(x:List ze×List ze):Le (oF n x) (ZB x):=by unfold oF ZB;exact(.bif .rfl (.loop (fun _=>(.bif (.bind .rfl fun _=>(.bind .rfl fun _=>(.bif .rfl .rfl))) .rfl)) fun _=> .rfl))
def jE(n:Nat)(x:List ze):Option (Str×Int):=
 zg (Oy n x) fun y1=>
 bif y1 != 0 then
  some ([],y1)
 else
  Lf n (fun(s2:Int×List UInt8×List zu)=>
    bif decide (s2.1<(x.length:Int))then
     need (decide (0<=s2.1)&&decide (s2.1<=(x.length:Int)))<|
     zg (Ny n (List.drop s2.1.toNat x)) fun y3=>
     need (decide (0<=s2.1)&&(decide (s2.1<=w64 (s2.1+y3))&&decide (w64 (s2.1+y3)<=(x.length:Int))))<|
     Lf n (fun(s4:Int×List UInt8)=>
       bif decide (s4.1<((List.drop s2.1.toNat (List.take (w64 (s2.1+y3)).toNat x)).length:Int))then
        zg (geti (List.drop s2.1.toNat (List.take (w64 (s2.1+y3)).toNat x)) s4.1) fun y5=>
        zg (JF n (y5,s4.2)) fun y6=>
        some (LO.again (w64 (s4.1+1),y6))
       else
        some (LO.out s4.2):Int×List UInt8->Option (LO (Int×List UInt8) (List UInt8) _)) (0,[]) fun o7=>
     zY (X:=Int×List UInt8×List zu×List UInt8) (
       zg (geti x s2.1) fun y8=>
       bif bif y8.kind==9 then y3==2 else false then
        some (LX.out (s2.1,s2.2.1,s2.2.2,[(92:UInt8),(10:UInt8)]))
       else
        some (LX.out (s2.1,s2.2.1,s2.2.2,o7))) fun j9=>
     zY (X:=Int×List UInt8×List zu×zu) (
       bif decide (w64 ((j9.2.2.1.length:Int) - 4)>=0)then
        need (decide (0<=w64 ((j9.2.2.1.length:Int) - 4))&&decide (w64 ((j9.2.2.1.length:Int) - 4)<(j9.2.2.1.length:Int)))<|
        zg (j9.2.2.1[(w64 ((j9.2.2.1.length:Int) - 4)).toNat]?) fun y10=>
        some (LX.out (j9.1,j9.2.1,j9.2.2.1,y10))
       else
        some (LX.out (j9.1,j9.2.1,j9.2.2.1,(⟨0,0⟩:zu)))) fun j11=>
     need (decide (0<=j11.2.2.2.at_)&&decide (j11.2.2.2.at_<=(j11.2.1.length:Int)))<|
     need (decide (j11.2.2.2.at_.toNat+(j11.2.1.length - j11.2.2.2.at_.toNat)<=j11.2.1.length))<|
     need (df (List.take (j11.2.1.length - j11.2.2.2.at_.toNat) (List.drop j11.2.2.2.at_.toNat j11.2.1)).length j9.2.2.2.length)<|
     zg (Au n (List.take (j11.2.1.length - j11.2.2.2.at_.toNat) (List.drop j11.2.2.2.at_.toNat j11.2.1)++j9.2.2.2)) fun y12=>
     zY (X:=Int×List zu×List UInt8) (
       need (decide (0<=j11.2.2.2.token)&&(decide (j11.2.2.2.token<=w64 (j11.1+y3))&&decide (w64 (j11.1+y3)<=(x.length:Int)))|| !(!(y12.2 != 0)))<|
       zg (zx (!(y12.2 != 0)) (oF n (y12.1,List.drop j11.2.2.2.token.toNat (List.take (w64 (j11.1+y3)).toNat x))) (default:Bool)) fun y13=>
       bif bif y12.2 != 0 then true else !y13 then
        need (zD j11.2.1.length ([47,42,42,47]:Str).length 1)<|
        some (LX.out (j11.1,j11.2.2.1,j11.2.1++([47,42,42,47]:Str)))
       else
        some (LX.out (j11.1,j11.2.2.1,j11.2.1))) fun j14=>
     need (zD j14.2.1.length 1 16)<|
     need (zD j14.2.2.length j9.2.2.2.length 1)<|
     bif decide (((j14.2.2++j9.2.2.2).length:Int)>4000)then
      some (LO.ret ([],28))
     else
      some (LO.again (w64 (j14.1+y3),j14.2.2++j9.2.2.2,j14.2.1++[(⟨j14.1,(j14.2.2.length:Int)⟩:zu)]))
    else
     some (LO.out s2.2.1):Int×List UInt8×List zu->Option (LO (Int×List UInt8×List zu) (List UInt8) _)) (0,[],[]) fun o15=>
  some (o15,0)
theorem Y2(n:Nat)(x:List ze):Le (jE n x) (Pm x):=by unfold jE Pm;exact(.bind (xN n _) fun _=>(.bif .rfl (.loop (fun _=>(.bif (.need (.bind (wN n _) fun _=>(.need (.loop (fun _=>(.bif (.bind .rfl fun _=>(.bind (P5 n _) fun _=> .rfl)) .rfl)) fun _=>(.join (.bind .rfl fun _=>(.bif .rfl .rfl)) fun _=>(.join (.bif (.need (.bind .rfl fun _=> .rfl)) .rfl) fun _=>(.need (.need (.need (.bind (Yy n _) fun _=>(.join (.need (.bind (.cond (M7 n _)) fun _=>(.bif (.need .rfl) .rfl))) fun _=>(.need (.need (.bif .rfl .rfl)))))))))))))) .rfl)) fun _=> .rfl)))
def ME(n:Nat)(x:List zb):Option (Str×Int):=
 zg (Ky n x) fun y1=>
 bif y1 != 0 then
  some ([],y1)
 else
  zg (Sy n x) fun y2=>
  zg (jE n y2) fun y3=>
  some (y3.1,y3.2)
theorem O0(n:Nat)(x:List zb):Le (ME n x) (Gm x):=by unfold ME Gm;exact(.bind (vN n _) fun _=>(.bif .rfl (.bind (bO n _) fun _=>(.bind (Y2 n _) fun _=> .rfl))))
def UE(n:Nat)(x:zT):Option (Str×Int):=
 zg (pE n x) fun y1=>
 bif y1 != 0 then
  some ([],y1)
 else
  zg (PE n x.name) fun y2=>
  bif y2.2 != 0 then
   some ([],y2.2)
  else
   zg (ME n x.value) fun y3=>
   bif y3.2 != 0 then
    some ([],y3.2)
   else
    need (df y2.1.length ([58,32]:Str).length)<|
    need (df (y2.1++([58,32]:Str)).length y3.1.length)<|
    zY (X:=Str) (
      bif x.important then
       need (df (y2.1++([58,32]:Str)++y3.1).length ([32,33,105,109,112,111,114,116,97,110,116]:Str).length)<|
       some (LX.out (y2.1++([58,32]:Str)++y3.1++([32,33,105,109,112,111,114,116,97,110,116]:Str)))
      else
       some (LX.out (y2.1++([58,32]:Str)++y3.1))) fun j4=>
    bif decide ((j4.length:Int)>4000)then
     some ([],28)
    else
     some (j4,0)
theorem Y0(n:Nat)(x:zT):Le (UE n x) (Qu x):=by unfold UE Qu;exact(.bind (K3 n _) fun _=>(.bif .rfl (.bind (X0 n _) fun _=>(.bif .rfl (.bind (O0 n _) fun _=>(.bif .rfl (.need (.need (.join (.bif (.need .rfl) .rfl) fun _=>(.bif .rfl .rfl))))))))))
def Fy(n:Nat)(x:List zT):Option (Str×Int):=
 bif decide ((x.length:Int)>32)then
  some ([],4)
 else
  Lf n (fun(s1:(Bool×Int)×List Str)=>
    bif decide (s1.1.2<(x.length:Int))then
     zg (geti x s1.1.2) fun y2=>
     zg (UE n y2) fun y3=>
     bif y3.2==8 then
      some (LO.ret ([],y3.2))
     else
      need (zD s1.2.length 1 16)<|
      some (LO.again ((bif s1.1.1 then true else y3.2 != 0,w64 (s1.1.2+1)),s1.2++[y3.1]))
    else
     some (LO.out (s1.1.1,s1.2)):(Bool×Int)×List Str->Option (LO ((Bool×Int)×List Str) (Bool×List Str) _)) ((false,0),[]) fun o4=>
  zg (Vj (o4.2,[59,32])) fun y5=>
  bif bif o4.1 then true else decide ((y5.length:Int)>4000)then
   some ([],28)
  else
   some (y5,0)
theorem sN(n:Nat)(x:List zT):Le (Fy n x) (qd x):=by unfold Fy qd;exact(.bif .rfl (.loop (fun _=>(.bif (.bind .rfl fun _=>(.bind (Y0 n _) fun _=>(.bif .rfl (.need .rfl)))) .rfl)) fun _=>(.bind .rfl fun _=>(.bif .rfl .rfl))))
end
end Go.Lv.VT
