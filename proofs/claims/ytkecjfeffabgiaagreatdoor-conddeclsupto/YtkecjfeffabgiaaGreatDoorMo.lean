/- Laws for the plain texts: loops that look for something; bytes. -/
import Derived.Test.YtkecjfeffabgiaaGreatDoorLf
import Derived.Test.YtkecjfeffabgiaaGreatDoorTx
set_option linter.unusedSimpArgs false
set_option linter.unusedVariables false
namespace Go.Lv.VT
abbrev big:Nat:=4194304
theorem Zl{i n:Nat}(h:i<n):decide ((i:Int)<(n:Int))=true:=Xa (by omega)
theorem Qc(n:Nat):decide ((n:Int)<(n:Int))=false:=Fb (by omega)
theorem Zb{i n:Nat}(h:i<n)(a:n<=big):w64 ((i:Int)+1)=((i+1:Nat):Int):=by rw[w64,Zp (by omega) (by grind)];omega
theorem Zd{α:Type}(b:Bool)(v d:α):zo b (some v) d=some (bif b then v else d):=by cases b<;>rfl
theorem Nl {α X R:Type} {step:Int->Option (LO Int X R)} {k:X->Option R} (l:List α) (q:α->Option R) (x:X)
  (hg: ∀(i:Nat) (h:i<l.length),step (i:Int)=some (match q l[i]with|some r=> .ret r|none=> .again ((i+1:Nat):Int)))
  (hf:step (l.length:Int)=some (.out x)):zX step 0 k=match l.findSome? q with|some r=>some r|none=>k x:=by
 have key: ∀(m:List α) (i:Nat),l.drop i=m->i<=l.length-> ∃n,qD step n (i:Int)=some (match m.findSome? q with|some r=> .ret r|none=> .out x):=by
  intro m
  induction m with
  |nil=>
   intro i hd hi;have:i=l.length:=by have:=Rc.1 hd;omega
   subst this;exact⟨1,by simp only[qD,hf,List.findSome?_nil]⟩
  |cons v m ih=>
   intro i hd hi;have hlt:i<l.length:=by
    rcases Ce i l.length with h|h
    ·exact h
    ·grind
   have hv:l[i]=v:=by have:=Va hlt;rw[hd]at this;injection this with h1 _;exact h1.symm
   have hs:=hg i hlt;rw[hv]at hs;cases hq:q v with
   |some r=> rw[hq]at hs;exact⟨1,by simp only[qD,hs,List.findSome?_cons,hq]⟩
   |none=> rw[hq]at hs;obtain⟨n,hn⟩:=ih (i+1) (by rw[Va hlt]at hd;injection hd) (by omega);refine⟨n+1,?_⟩;simp only[qD,hs,List.findSome?_cons,hq];exact hn
 obtain⟨n,hn⟩:=key l 0 rfl (by omega);replace hn:qD step n 0=_:=hn;rw[lg (Fh hn)];cases l.findSome? q<;>rfl
theorem Ko{α R:Type}(p:α->Bool)(r:R): ∀(l:List α),l.findSome? (fun v=>bif p v then none else some r)=bif l.all p then none else some r
 |[]=>rfl
 |v::l=>by
  rw[List.findSome?_cons,List.all_cons];cases p v with
  |false=>rfl
  |true=>exact Ko p r l
theorem bD{α R:Type}(p:α->Bool)(r:R): ∀(l:List α),l.findSome? (fun v=>bif p v then some r else none)=bif l.any p then some r else none
 |[]=>rfl
 |v::l=>by
  rw[List.findSome?_cons,List.any_cons];cases p v with
  |true=>rfl
  |false=>exact bD p r l
def idxS{α:Type}(p:α->Bool):List α->Int
 |[]=> -1
 |v::l=>bif p v then 0 else bif decide (idxS p l<0)then -1 else idxS p l+1
theorem Ps{α:Type}(p:α->Bool): ∀(l:List α),decide (idxS p l>=0)=l.any p
 |[]=>rfl
 |v::l=>by
  have a:=Ps p l;rw[List.any_cons,idxS]
  grind
theorem vI{α:Type}(p:α->Bool): ∀(l:List α), -1<=idxS p l/\idxS p l<l.length
 |[]=>by simp[idxS]
 |v::l=>by
  have:=vI p l;rw[idxS,Bb]
  grind
theorem Xx {α:Type} {step:Int->Option (LO Int Unit Int)} (l:List α) (p:α->Bool) (hn:l.length<=big)
  (hg: ∀(i:Nat) (h:i<l.length),step (i:Int)=bif p l[i]then some (.ret (i:Int))else some (.again (w64 ((i:Int)+1))))
  (hf:step (l.length:Int)=some (.out ())):zX step 0 (fun _=>some (-1))=some (idxS p l):=by
 have key: ∀(m:List α) (i:Nat),l.drop i=m->i<=l.length-> ∃n,qD step n (i:Int)=some (bif decide (idxS p m<0)then .out ()else .ret ((i:Int)+idxS p m)):=by
  intro m
  induction m with
  |nil=>
   intro i hd hi;have:i=l.length:=by have:=Rc.1 hd;omega
   subst this;exact⟨1,by simp only[qD,hf];rfl⟩
  |cons v m ih=>
   intro i hd hi;have hlt:i<l.length:=by
    rcases Ce i l.length with h|h
    ·exact h
    ·grind
   have hv:l[i]=v:=by have:=Va hlt;rw[hd]at this;injection this with h1 _;exact h1.symm
   have hs:=hg i hlt;rw[hv]at hs;cases hq:p v with
   |true=> rw[hq]at hs;refine⟨1,?_⟩;simp only[qD,hs,Ea,idxS,hq];simp
   |false=>
    rw[hq,Da,Zb hlt hn]at hs;obtain⟨n,hn'⟩:=ih (i+1) (by rw[Va hlt]at hd;injection hd) (by omega);refine⟨n+1,?_⟩;simp only[qD,hs,idxS,hq,Da]
    grind
 obtain⟨n,hn'⟩:=key l 0 rfl (by omega);replace hn':qD step n 0=_:=hn';rw[lg (Fh hn')];have hb:=vI p l;by_cases h0:idxS p l<0
 ·rw[Xa h0];show some (-1)=_;congr 1;omega
 ·rw[Fb h0];simp_all
noncomputable section
set_option maxRecDepth 100000
def bF(n:Nat)(qo:List ze×Int->Option zB)(x:List ze×Int):Option zB:=
 ZI n (fun(s1:Int×zB)=>
   bif decide (s1.1<(x.1.length:Int))then
    zD (X:=Int×zB) (
      zb (geti x.1 s1.1) fun y2=>
      zb (qV y2.token.kind) fun y3=>
      zD (X:=zB) (
        bif bif bif x.2 != 0 then y2.token.kind==x.2 else false then true else bif y3==0 then decide ((y2.list.length:Int)>0)else false then
         some (LX.out (⟨s1.2.depth,w64 (s1.2.tokens+1),true⟩:zB))
        else
         some (LX.out (⟨s1.2.depth,w64 (s1.2.tokens+1),s1.2.bad⟩:zB))) fun j4=>
      bif y3==0 then
       some (LX.out (s1.1,j4))
      else
       zb (qo (y2.list,y3)) fun y5=>
       some (LX.out (s1.1,(⟨if w64 (y5.depth+1)>j4.depth then w64 (y5.depth+1)else j4.depth,w64 (w64 (j4.tokens+y5.tokens)+1),bif j4.bad then true else y5.bad⟩:zB)))) fun j6=>
    some (LO.again (w64 (j6.1+1),j6.2))
   else
    some (LO.out s1.2):Int×zB->Option (LO (Int×zB) (zB) _)) (0,(⟨0,0,false⟩:zB)) fun o7=>
 some o7
def WE(n:Nat):List ze×Int->Option zB:=Df (bF n) n
theorem jY(n:Nat)(qo nest_look':List ze×Int->Option zB)(h_nest_look: ∀z,Le (qo z) (nest_look' z))(x:List ze×Int):Le (bF n qo x) (Ep nest_look' x):=by unfold bF Ep;exact(.loop (fun _=>(.bif (.join (.bind .rfl fun _=>(.bind .rfl fun _=>(.join (.bif .rfl .rfl) fun _=>(.bif .rfl (.bind (h_nest_look _) fun _=> .rfl))))) fun _=> .rfl) .rfl)) fun _=> .rfl)
theorem GN(n:Nat)(x:List ze×Int):Le (WE n x) (qo x):=Le.rec (fun S S' h x=>jY n S S' h x) n x
def QR(n:Nat)(x:List ze):Option Int:=
 zb (WE n (x,0)) fun y1=>
 bif decide (y1.depth>16)then
  some 20
 else
  bif decide (y1.tokens>1500)then
   some 4
  else
   bif y1.bad then
    some 8
   else
    some 0
theorem ul(n:Nat)(x:List ze):Le (QR n x) (ZF x):=by unfold QR ZF;exact(.bind (GN n _) fun _=>(.bif .rfl (.bif .rfl (.bif .rfl .rfl))))
def CF(n:Nat)(x:List ze):Option (Int×Int):=
 zb (QR n x) fun y1=>
 bif y1 != 0 then
  some (0,y1)
 else
  zb (WE n (x,0)) fun y2=>
  some (y2.depth,0)
theorem WY(n:Nat)(x:List ze):Le (CF n x) (Ml x):=by unfold CF Ml;exact(.bind (ul n _) fun _=>(.bif .rfl (.bind (GN n _) fun _=> .rfl)))
def XG(n:Nat)(ZJ:List ze×List zf->Option (List zf))(x:List ze×List zf):Option (List zf):=
 ZI n (fun(s1:Int×List zf)=>
   bif decide (s1.1<(x.1.length:Int))then
    zD (X:=Int×List zf) (
      zb (geti x.1 s1.1) fun y2=>
      need (zR s1.2.length 1 56)<|
      zb (qV y2.token.kind) fun y3=>
      bif y3 != 0 then
       zb (ZJ (y2.list,s1.2++[y2.token])) fun y4=>
       need (zR y4.length 1 56)<|
       some (LX.out (s1.1,y4++[(⟨y3,[],0,[],false⟩:zf)]))
      else
       some (LX.out (s1.1,s1.2++[y2.token]))) fun j5=>
    some (LO.again (w64 (j5.1+1),j5.2))
   else
    some (LO.out s1.2):Int×List zf->Option (LO (Int×List zf) (List zf) _)) (0,x.2) fun o6=>
 some o6
def XN(n:Nat):List ze×List zf->Option (List zf):=Df (XG n) n
theorem O5(n:Nat)(ZJ nest_flat_3':List ze×List zf->Option (List zf))(h_nest_flat_3: ∀z,Le (ZJ z) (nest_flat_3' z))(x:List ze×List zf):Le (XG n ZJ x) (Dq nest_flat_3' x):=by unfold XG Dq;exact(.loop (fun _=>(.bif (.join (.bind .rfl fun _=>(.need (.bind .rfl fun _=>(.bif (.bind (h_nest_flat_3 _) fun _=>(.need .rfl)) .rfl)))) fun _=> .rfl) .rfl)) fun _=> .rfl)
theorem sZ(n:Nat)(x:List ze×List zf):Le (XN n x) (ZJ x):=Le.rec (fun S S' h x=>O5 n S S' h x) n x
def Oz(n:Nat)(x:List ze):Option (List zf):=
 ZI n (fun(s1:Int×List zf)=>
   bif decide (s1.1<(x.length:Int))then
    zD (X:=Int×List zf) (
      zb (geti x s1.1) fun y2=>
      need (zR s1.2.length 1 56)<|
      zb (qV y2.token.kind) fun y3=>
      bif y3 != 0 then
       zb (XN n (y2.list,s1.2++[y2.token])) fun y4=>
       need (zR y4.length 1 56)<|
       some (LX.out (s1.1,y4++[(⟨y3,[],0,[],false⟩:zf)]))
      else
       some (LX.out (s1.1,s1.2++[y2.token]))) fun j5=>
    some (LO.again (w64 (j5.1+1),j5.2))
   else
    some (LO.out s1.2):Int×List zf->Option (LO (Int×List zf) (List zf) _)) (0,[]) fun o6=>
 some o6
theorem IP(n:Nat)(x:List ze):Le (Oz n x) (Q0 x):=by unfold Oz Q0;exact(.loop (fun _=>(.bif (.join (.bind .rfl fun _=>(.need (.bind .rfl fun _=>(.bif (.bind (sZ n _) fun _=>(.need .rfl)) .rfl)))) fun _=> .rfl) .rfl)) fun _=> .rfl)
def YE(n:Nat)(x:List ze):Option (List zf×Int):=
 zb (QR n x) fun y1=>
 bif y1 != 0 then
  some ([],y1)
 else
  zb (Oz n x) fun y2=>
  some (y2,0)
theorem KX(n:Nat)(x:List ze):Le (YE n x) (Bl x):=by unfold YE Bl;exact(.bind (ul n _) fun _=>(.bif .rfl (.bind (IP n _) fun _=> .rfl)))
def QO(n:Nat)(x:Str):Option Str:=
 need (decide (x.length<=maxLen))<|
 ZI n (fun(s1:Int×List UInt8)=>
   bif decide (s1.1<(x.length:Int))then
    zD (X:=Int×List UInt8) (
      need (decide (0<=s1.1)&&decide (s1.1<(s1.2.length:Int)))<|
      zb s1.2[s1.1.toNat]? fun y2=>
      bif bif decide (65<=(y2.toNat:Int))then decide ((y2.toNat:Int)<=90)else false then
       need (decide (0<=s1.1)&&decide (s1.1<(s1.2.length:Int)))<|
       zb s1.2[s1.1.toNat]? fun y3=>
       need (decide (0<=s1.1)&&decide (s1.1<(s1.2.length:Int)))<|
       zb s1.2[s1.1.toNat]? fun y4=>
       zb (ZQ (ibOr IntKind.u8 (y3.toNat:Int) 32)) fun y5=>
       some (LX.out (s1.1,List.set s1.2 s1.1.toNat y5))
      else
       some (LX.out (s1.1,s1.2))) fun j6=>
    some (LO.again (w64 (j6.1+1),j6.2))
   else
    some (LO.out s1.2):Int×List UInt8->Option (LO (Int×List UInt8) (List UInt8) _)) (0,x) fun o7=>
 some o7
theorem Mq(n:Nat)(x:Str):Le (QO n x) (ZH x):=by unfold QO ZH;exact(.need (.loop (fun _=>(.bif (.join (.need (.bind .rfl fun _=>(.bif (.need (.bind .rfl fun _=>(.need (.bind .rfl fun _=>(.bind .rfl fun _=> .rfl))))) .rfl))) fun _=> .rfl) .rfl)) fun _=> .rfl))
def tF(n:Nat)(x:Str):Option Bool:=
 zb (zo (!(bif x==[]then true else decide ((x.length:Int)>64))) (strings_IndexByte (x,0)) (default:Int)) fun y1=>
 bif bif bif x==[]then true else decide ((x.length:Int)>64)then true else decide (y1>=0)then
  some false
 else
  zb (strings_HasPrefix (x,[45,45])) fun y2=>
  bif y2 then
   some (!(x==[45,45]))
  else
   zb (QO n x) fun y3=>
   some (x==y3)
theorem YY(n:Nat)(x:Str):Le (tF n x) (Rl x):=by unfold tF Rl;exact(.bind .rfl fun _=>(.bif .rfl (.bind .rfl fun _=>(.bif .rfl (.bind (Mq n _) fun _=> .rfl)))))
def yl(n:Nat)(x:Str×Str):Option Bool:=
 zb (QO n x.1) fun y1=>
 zb (QO n x.2) fun y2=>
 some (y1==y2)
theorem Ev(n:Nat)(x:Str×Str):Le (yl n x) (ZU x):=by unfold yl ZU;exact(.bind (Mq n _) fun _=>(.bind (Mq n _) fun _=> .rfl))
def Hz(n:Nat)(x:List zf):Option Int:=
 zb (geti x 0) fun y1=>
 bif bif y1.kind==9 then y1.text==[92]else false then
  zb (qj ((1,13),x)) fun y2=>
  bif !y2 then
   some 0
  else
   some 2
 else
  zb (zo (y1.kind==2) (yl n (y1.text,[117,114,108])) (default:Bool)) fun y3=>
  bif bif y1.kind==2 then y3 else false then
   zD (X:=Int) (
     zb (qj ((1,13),x)) fun y4=>
     bif y4 then
      some (LX.out 2)
     else
      some (LX.out 1)) fun j5=>
   zb (qj ((j5,5),x)) fun y6=>
   bif !y6 then
    some 0
   else
    some (w64 (j5+1))
  else
   some 1
theorem OO(n:Nat)(x:List zf):Le (Hz n x) (Xi x):=by unfold Hz Xi;exact(.bind .rfl fun _=>(.bif (.bind .rfl fun _=>(.bif .rfl .rfl)) (.bind (.cond (Ev n _)) fun _=>(.bif (.join (.bind .rfl fun _=>(.bif .rfl .rfl)) fun _=>(.bind .rfl fun _=>(.bif .rfl .rfl))) .rfl))))
def Iz(n:Nat)(x:List zf):Option Int:=
 bif decide ((x.length:Int)>1500)then
  some 4
 else
  ZI n (fun(s1:Int)=>
    bif decide (s1<(x.length:Int))then
     zb (geti x s1) fun y2=>
     zb (Uo y2) fun y3=>
     need (decide (0<=s1)&&decide (s1<=(x.length:Int))|| !(!(!y3)))<|
     zb (zo (!(!y3)) (Hz n (List.drop s1.toNat x)) (default:Int)) fun y4=>
     bif bif !y3 then true else y4==0 then
      some (LO.ret 8)
     else
      some (LO.again (w64 (s1+1)))
    else
     some (LO.out ()):Int->Option (LO (Int) (Unit) _)) 0 fun o5=>
  some 0
theorem Pz(n:Nat)(x:List zf):Le (Iz n x) (QF x):=by unfold Iz QF;exact(.bif .rfl (.loop (fun _=>(.bif (.bind .rfl fun _=>(.bind .rfl fun _=>(.need (.bind (.cond (OO n _)) fun _=>(.bif .rfl .rfl))))) .rfl)) fun _=> .rfl))
def vG(n:Nat)(zt:List ze->Option Bool)(x:ze):Option Bool:=
 zb (ZA ((⟨x.token,x.list⟩:ze),20)) fun y1=>
 zb (zo (!y1) (ZA ((⟨x.token,x.list⟩:ze),22)) (default:Bool)) fun y2=>
 zb (zo (!(bif y1 then true else y2)) (ZA ((⟨x.token,x.list⟩:ze),24)) (default:Bool)) fun y3=>
 zb (zo (!(bif bif y1 then true else y2 then true else y3)) (zt x.list) (default:Bool)) fun y4=>
 some (bif bif bif y1 then true else y2 then true else y3 then true else y4)
theorem D8(n:Nat)(zt decl_closers':List ze->Option Bool)(h_decl_closers: ∀z,Le (zt z) (decl_closers' z))(x:ze):Le (vG n zt x) (Qe decl_closers' x):=by unfold vG Qe;exact(.bind .rfl fun _=>(.bind .rfl fun _=>(.bind .rfl fun _=>(.bind (.cond (h_decl_closers _)) fun _=> .rfl))))
def XH(n:Nat)(zt:List ze->Option Bool)(x:List ze):Option Int:=
 ZI n (fun(s1:Int)=>
   bif decide (s1<(x.length:Int))then
    zb (geti x s1) fun y2=>
    zb (vG n zt (⟨y2.token,y2.list⟩:ze)) fun y3=>
    bif y3 then
     some (LO.ret s1)
    else
     some (LO.again (w64 (s1+1)))
   else
    some (LO.out ()):Int->Option (LO (Int) (Unit) _)) 0 fun o4=>
 some (-1)
theorem zf7(n:Nat)(zt decl_closers':List ze->Option Bool)(h_decl_closers: ∀z,Le (zt z) (decl_closers' z))(x:List ze):Le (XH n zt x) (ZN decl_closers' x):=by unfold XH ZN;exact(.loop (fun _=>(.bif (.bind .rfl fun _=>(.bind (D8 n _ _ h_decl_closers _) fun _=>(.bif .rfl .rfl))) .rfl)) fun _=> .rfl)
def Qv(n:Nat)(zt:List ze->Option Bool)(x:List ze):Option Bool:=
 zb (XH n zt x) fun y1=>
 some (decide (y1>=0))
theorem zev(n:Nat)(zt decl_closers':List ze->Option Bool)(h_decl_closers: ∀z,Le (zt z) (decl_closers' z))(x:List ze):Le (Qv n zt x) (Zq decl_closers' x):=by unfold Qv Zq;exact(.bind (zf7 n _ _ h_decl_closers _) fun _=> .rfl)
def uG(n:Nat)(zt:List ze->Option Bool)(x:List ze):Option Bool:=
 zb (Qv n zt x) fun y1=>
 some y1
def UO(n:Nat):List ze->Option Bool:=Df (uG n) n
theorem P7(n:Nat)(zt decl_closers':List ze->Option Bool)(h_decl_closers: ∀z,Le (zt z) (decl_closers' z))(x:List ze):Le (uG n zt x) (Oq decl_closers' x):=by unfold uG Oq;exact(.bind (zev n _ _ h_decl_closers _) fun _=> .rfl)
theorem K5(n:Nat)(x:List ze):Le (UO n x) (zt x):=Le.rec (fun S S' h x=>P7 n S S' h x) n x
def QD(n:Nat)(x:List ze):Option Int:=
 ZI n (fun(s1:Int)=>
   bif decide (s1<(x.length:Int))then
    zb (geti x s1) fun y2=>
    zb (gp (⟨y2.token,y2.list⟩:ze)) fun y3=>
    bif y3 then
     some (LO.ret s1)
    else
     some (LO.again (w64 (s1+1)))
   else
    some (LO.out ()):Int->Option (LO (Int) (Unit) _)) 0 fun o4=>
 some (-1)
theorem ze9(n:Nat)(x:List ze):Le (QD n x) (Zx x):=by unfold QD Zx;exact(.loop (fun _=>(.bif (.bind .rfl fun _=>(.bind .rfl fun _=>(.bif .rfl .rfl))) .rfl)) fun _=> .rfl)
def qW(n:Nat)(x:List ze):Option Bool:=
 zb (QD n x) fun y1=>
 some (decide (y1>=0))
theorem zdX(n:Nat)(x:List ze):Le (qW n x) (Zc x):=by unfold qW Zc;exact(.bind (ze9 n _) fun _=> .rfl)
def Tu(n:Nat)(x:zA):Option Int:=
 zb (YE n x.value) fun y1=>
 zb (tF n x.name) fun y2=>
 zb (zo (!(bif !y2 then true else y1.2 != 0)) (Iz n y1.1) (default:Int)) fun y3=>
 zb (zo (!(bif bif !y2 then true else y1.2 != 0 then true else y3 != 0)) (UO n x.value) (default:Bool)) fun y4=>
 bif bif bif bif !y2 then true else y1.2 != 0 then true else y3 != 0 then true else y4 then
  some 8
 else
  zb (qW n x.value) fun y5=>
  bif y5 then
   some 8
  else
   zb (zo ((x.value.length:Int)==0) (strings_HasPrefix (x.name,[45,45])) (default:Bool)) fun y6=>
   zb (zo (decide ((x.value.length:Int)>0)&& !(bif (x.value.length:Int)==0 then !y6 else false)) (geti x.value 0) (default:ze)) fun y7=>
   zb (zo (decide ((x.value.length:Int)>0)&& !(bif (x.value.length:Int)==0 then !y6 else false)) (ZA ((⟨y7.token,y7.list⟩:ze),13)) (default:Bool)) fun y8=>
   zb (zo (!y8&&(decide ((x.value.length:Int)>0)&& !(bif (x.value.length:Int)==0 then !y6 else false))) (geti x.value (w64 ((x.value.length:Int) - 1))) (default:ze)) fun y9=>
   zb (zo (!y8&&(decide ((x.value.length:Int)>0)&& !(bif (x.value.length:Int)==0 then !y6 else false))) (ZA ((⟨y9.token,y9.list⟩:ze),13)) (default:Bool)) fun y10=>
   bif bif bif (x.value.length:Int)==0 then !y6 else false then true else bif decide ((x.value.length:Int)>0)then bif y8 then true else y10 else false then
    some 8
   else
    some 0
theorem fF(n:Nat)(x:zA):Le (Tu n x) (QE x):=by unfold Tu QE;exact(.bind (KX n _) fun _=>(.bind (YY n _) fun _=>(.bind (.cond (Pz n _)) fun _=>(.bind (.cond (K5 n _)) fun _=>(.bif .rfl (.bind (zdX n _) fun _=>(.bif .rfl (.bind .rfl fun _=>(.bind .rfl fun _=>(.bind .rfl fun _=>(.bind .rfl fun _=>(.bind .rfl fun _=>(.bif .rfl .rfl)))))))))))))
def TG(n:Nat)(Z6:zh×Int->Option ((Int×Bool)×Int))(x:zh×Int):Option ((Int×Bool)×Int):=
 bif decide (w64 (x.2+1)>1500)then
  some ((0,false),w64 (x.2+1))
 else
  bif x.1.kind==7 then
   zb (CF n x.1.decl.value) fun y1=>
   zb (zo (bif bif bif (x.1.list.length:Int)==0 then x.1.name==[]else false then x.1.num==0 else false then y1.2==0 else false) (Tu n x.1.decl) (default:Int)) fun y2=>
   some ((w64 (y1.1+1),bif bif bif bif (x.1.list.length:Int)==0 then x.1.name==[]else false then x.1.num==0 else false then y1.2==0 else false then y2==0 else false),w64 (x.2+1))
  else
   bif x.1.kind==8 then
    zb (zo ((x.1.list.length:Int)==0) (ZX (⟨x.1.kind,x.1.name,x.1.num,x.1.decl,x.1.list⟩:zh)) (default:Bool)) fun y3=>
    some ((1,bif (x.1.list.length:Int)==0 then y3 else false),w64 (x.2+1))
   else
    zD (X:=Bool) (
      bif x.1.kind==3 then
       some (LX.out (x.1.kind==3))
      else
       bif x.1.kind==1 then
        some (LX.out (x.1.kind==1))
       else
        some (LX.out (x.1.kind==2))) fun j4=>
    bif j4 then
     zb (ZX (⟨x.1.kind,x.1.name,x.1.num,x.1.decl,x.1.list⟩:zh)) fun y5=>
     bif bif bif !y5 then true else bif x.1.kind==3 then(x.1.list.length:Int) != 1 else false then true else bif x.1.kind != 3 then decide ((x.1.list.length:Int)<2)else false then
      some ((0,false),w64 (x.2+1))
     else
      ZI n (fun(s6:(Int×Int)×Int)=>
        bif decide (s6.1.2<(x.1.list.length:Int))then
         zb (geti x.1.list s6.1.2) fun y7=>
         zb (Z6 ((⟨y7.kind,y7.name,y7.num,y7.decl,y7.list⟩:zh),s6.2)) fun y8=>
         bif !y8.1.2 then
          some (LO.ret ((0,false),y8.2))
         else
          zD (X:=Int×Int) (
            zb (Vi (⟨y7.kind,y7.name,y7.num,y7.decl,y7.list⟩:zh)) fun y9=>
            bif !y9 then
             some (LX.out (s6.1.1,w64 (y8.1.1+1)))
            else
             some (LX.out (s6.1.1,y8.1.1))) fun j10=>
          some (LO.again ((if j10.2>j10.1 then j10.2 else j10.1,w64 (s6.1.2+1)),y8.2))
        else
         some (LO.out (s6.1.1,s6.2)):(Int×Int)×Int->Option (LO ((Int×Int)×Int) (Int×Int) _)) ((0,0),w64 (x.2+1)) fun o11=>
      some ((o11.1,true),o11.2)
    else
     some ((0,false),w64 (x.2+1))
def tL(n:Nat):zh×Int->Option ((Int×Bool)×Int):=Df (TG n) n
theorem kY(n:Nat)(Z6 cond_look':zh×Int->Option ((Int×Bool)×Int))(h_cond_look: ∀z,Le (Z6 z) (cond_look' z))(x:zh×Int):Le (TG n Z6 x) (Xj cond_look' x):=by unfold TG Xj;exact(.bif .rfl (.bif (.bind (WY n _) fun _=>(.bind (.cond (fF n _)) fun _=> .rfl)) (.bif (.bind .rfl fun _=> .rfl) (.join (.bif .rfl (.bif .rfl .rfl)) fun _=>(.bif (.bind .rfl fun _=>(.bif .rfl (.loop (fun _=>(.bif (.bind .rfl fun _=>(.bind (h_cond_look _) fun _=>(.bif .rfl (.join (.bind .rfl fun _=>(.bif .rfl .rfl)) fun _=> .rfl)))) .rfl)) fun _=> .rfl))) .rfl)))))
theorem OX(n:Nat)(x:zh×Int):Le (tL n x) (Z6 x):=Le.rec (fun S S' h x=>kY n S S' h x) n x
def qY(n:Nat)(x:zh):Option Int:=
 zb (tL n ((⟨x.kind,x.name,x.num,x.decl,x.list⟩:zh),0)) fun y1=>
 bif bif !y1.1.2 then true else decide (y1.1.1>16)then
  some 8
 else
  some 0
theorem PH(n:Nat)(x:zh):Le (qY n x) (Ze x):=by unfold qY Ze;exact(.bind (OX n _) fun _=>(.bif .rfl .rfl))
def LQ(n:Nat)(x:List ze):Option (List ze):=need (zR 0 x.length 80) (some x)
theorem H9(n:Nat)(x):Le (LQ n x) (qP x):=by
 cases x with
 |nil=> intro y hy;show both (some []) (some [])=some y;unfold both;rw[Ma rfl];exact hy
 |cons a r=>exact .rfl
def aF(n:Nat)(Z8:List ze->Option (List ze))(x:List ze):Option (List ze):=
 zb (LQ n x) fun y1=>
 ZI n (fun(s2:Int×List ze)=>
   bif decide (s2.1<(y1.length:Int))then
    need (decide (0<=s2.1)&&decide (s2.1<(s2.2.length:Int)))<|
    zb s2.2[s2.1.toNat]? fun y3=>
    zb (Z8 y3.list) fun y4=>
    need (decide (0<=s2.1)&&decide (s2.1<(s2.2.length:Int)))<|
    zb s2.2[s2.1.toNat]? fun y5=>
    some (LO.again (w64 (s2.1+1),List.set s2.2 s2.1.toNat (⟨y5.token,y4⟩:ze)))
   else
    some (LO.out s2.2):Int×List ze->Option (LO (Int×List ze) (List ze) _)) (0,y1) fun o6=>
 some o6
def ny(n:Nat):List ze->Option (List ze):=Df (aF n) n
theorem iY(n:Nat)(Z8 nest_twin':List ze->Option (List ze))(h_nest_twin: ∀z,Le (Z8 z) (nest_twin' z))(x:List ze):Le (aF n Z8 x) (Dp nest_twin' x):=by unfold aF Dp;exact(.bind (H9 n _) fun _=>(.loop (fun _=>(.bif (.need (.bind .rfl fun _=>(.bind (h_nest_twin _) fun _=>(.need (.bind .rfl fun _=> .rfl))))) .rfl)) fun _=> .rfl))
theorem DF(n:Nat)(x:List ze):Le (ny n x) (Z8 x):=Le.rec (fun S S' h x=>iY n S S' h x) n x
def ry(n:Nat)(x:List ze):Option (List ze×Int):=
 zb (QR n x) fun y1=>
 bif y1 != 0 then
  some ([],y1)
 else
  ZI n (fun(s2:Int)=>
    zb (zo (decide (s2<(x.length:Int))) (Uj (s2,x)) (default:Bool)) fun y3=>
    bif bif decide (s2<(x.length:Int))then y3 else false then
     some (LO.again (w64 (s2+1)))
    else
     some (LO.out s2):Int->Option (LO (Int) (Int) _)) 0 fun o4=>
  ZI n (fun(s5:Int)=>
    zb (zo (decide (o4<s5)) (Uj (w64 (s5 - 1),x)) (default:Bool)) fun y6=>
    bif bif decide (o4<s5)then y6 else false then
     some (LO.again (w64 (s5 - 1)))
    else
     some (LO.out s5):Int->Option (LO (Int) (Int) _)) (x.length:Int) fun o7=>
  need (decide (0<=o4)&&(decide (o4<=o7)&&(decide (o7<=o7)&&decide (o7<=(x.length:Int))))&&decide (o7=o7))<|
  zb (ny n (List.drop o4.toNat (List.take o7.toNat x))) fun y8=>
  some (y8,0)
theorem JN(n:Nat)(x:List ze):Le (ry n x) (og x):=by unfold ry og;exact(.bind (ul n _) fun _=>(.bif .rfl (.loop (fun _=>(.bind .rfl fun _=>(.bif .rfl .rfl))) fun _=>(.loop (fun _=>(.bind .rfl fun _=>(.bif .rfl .rfl))) fun _=>(.need (.bind (DF n _) fun _=> .rfl))))))
def iG(n:Nat)(Zw:zh->Option (List zA))(x:zh):Option (List zA):=
 bif x.kind==7 then
  zb (ry n x.decl.value) fun y1=>
  some [(⟨x.decl.name,y1.1,x.decl.important⟩:zA)]
 else
  ZI n (fun(s2:Int×List zA)=>
    bif decide (s2.1<(x.list.length:Int))then
     zb (geti x.list s2.1) fun y3=>
     zb (Zw (⟨y3.kind,y3.name,y3.num,y3.decl,y3.list⟩:zh)) fun y4=>
     need (zR s2.2.length y4.length 48)<|
     some (LO.again (w64 (s2.1+1),s2.2++y4))
    else
     some (LO.out s2.2):Int×List zA->Option (LO (Int×List zA) (List zA) _)) (0,[]) fun o5=>
  some o5
def Kz(n:Nat):zh->Option (List zA):=Df (iG n) n
theorem O0(n:Nat)(Zw cond_decls':zh->Option (List zA))(h_cond_decls: ∀z,Le (Zw z) (cond_decls' z))(x:zh):Le (iG n Zw x) (Bq cond_decls' x):=by unfold iG Bq;exact(.bif (.bind (JN n _) fun _=> .rfl) (.loop (fun _=>(.bif (.bind .rfl fun _=>(.bind (h_cond_decls _) fun _=>(.need .rfl))) .rfl)) fun _=> .rfl))
theorem gF(n:Nat)(x:zh):Le (Kz n x) (Zw x):=Le.rec (fun S S' h x=>O0 n S S' h x) n x
def kF(n:Nat)(x:zh):Option (List zA×Int):=
 zb (qY n (⟨x.kind,x.name,x.num,x.decl,x.list⟩:zh)) fun y1=>
 bif y1 != 0 then
  some ([],y1)
 else
  zb (Kz n (⟨x.kind,x.name,x.num,x.decl,x.list⟩:zh)) fun y2=>
  some (y2,0)
theorem gY(n:Nat)(x:zh):Le (kF n x) (dh x):=by unfold kF dh;exact(.bind (PH n _) fun _=>(.bif .rfl (.bind (gF n _) fun _=> .rfl)))
def cz(n:Nat)(x:Str):Option Str:=
 need (decide (x.length<=maxLen))<|
 ZI n (fun(s1:Int×List UInt8)=>
   bif decide (s1.1<(s1.2.length:Int))then
    need (decide (0<=s1.1)&&decide (s1.1<(s1.2.length:Int)))<|
    zb s1.2[s1.1.toNat]? fun y2=>
    zb (Q5 (y2.toNat:Int)) fun y3=>
    need (decide (0<=s1.1)&&decide (s1.1<(s1.2.length:Int)))<|
    zb s1.2[s1.1.toNat]? fun y4=>
    zb (ZQ y3) fun y5=>
    some (LO.again (w64 (s1.1+1),List.set s1.2 s1.1.toNat y5))
   else
    some (LO.out s1.2):Int×List UInt8->Option (LO (Int×List UInt8) (List UInt8) _)) (0,x) fun o6=>
 some o6
theorem FP(n:Nat)(x:Str):Le (cz n x) (Qs x):=by unfold cz Qs;exact(.need (.loop (fun _=>(.bif (.need (.bind .rfl fun _=>(.bind .rfl fun _=>(.need (.bind .rfl fun _=>(.bind .rfl fun _=> .rfl)))))) .rfl)) fun _=> .rfl))
def Kq(n:Nat)(x:Str×Int):Option Int:=
 ZI n (fun(s1:Int)=>
   zb (zT (x.1,s1)) fun y2=>
   zb (qy y2) fun y3=>
   bif y3 then
    some (LO.again (w64 (s1+1)))
   else
    some (LO.out s1):Int->Option (LO (Int) (Int) _)) x.2 fun o4=>
 some o4
theorem JA(n:Nat)(x:Str×Int):Le (Kq n x) (Qf x):=by unfold Kq Qf;exact(.loop (fun _=>(.bind .rfl fun _=>(.bind .rfl fun _=>(.bif .rfl .rfl)))) fun _=> .rfl)
def Jq(n:Nat)(x:Str×Int):Option (Str×Int):=
 bif decide (w64 (x.2+1)>=(x.1.length:Int))then
  zb (uo ()) fun y1=>
  some (y1,w64 (x.2+1))
 else
  zb (geti x.1 (w64 (x.2+1))) fun y2=>
  zb (Nj (y2.toNat:Int)) fun y3=>
  bif decide (y3<0)then
   need (decide (0<=w64 (x.2+1))&&(decide (w64 (x.2+1)<=w64 (w64 (x.2+1)+1))&&decide (w64 (w64 (x.2+1)+1)<=(x.1.length:Int))))<|
   some (List.drop (w64 (x.2+1)).toNat (List.take (w64 (w64 (x.2+1)+1)).toNat x.1),w64 (w64 (x.2+1)+1))
  else
   ZI n (fun(s4:Int×Int)=>
     zb (zo (bif decide (s4.2<(x.1.length:Int))then decide (s4.2<w64 (w64 (x.2+1)+6))else false) (geti x.1 s4.2) 0) fun y5=>
     zb (zo (bif decide (s4.2<(x.1.length:Int))then decide (s4.2<w64 (w64 (x.2+1)+6))else false) (Nj (y5.toNat:Int)) (default:Int)) fun y6=>
     bif bif bif decide (s4.2<(x.1.length:Int))then decide (s4.2<w64 (w64 (x.2+1)+6))else false then decide (y6>=0)else false then
      zb (geti x.1 s4.2) fun y7=>
      zb (Nj (y7.toNat:Int)) fun y8=>
      some (LO.again (w64 (w64 (16*s4.1)+y8),w64 (s4.2+1)))
     else
      some (LO.out (s4.1,s4.2)):Int×Int->Option (LO (Int×Int) (Int×Int) _)) (0,w64 (x.2+1)) fun o9=>
   zD (X:=Int) (
     zb (zT (x.1,o9.2)) fun y10=>
     zb (qy y10) fun y11=>
     bif y11 then
      some (LX.out (w64 (o9.2+1)))
     else
      some (LX.out o9.2)) fun j12=>
   zb (Wy o9.1) fun y13=>
   some (y13,j12)
theorem GA(n:Nat)(x:Str×Int):Le (Jq n x) (qa x):=by unfold Jq qa;exact(.bif (.bind .rfl fun _=> .rfl) (.bind .rfl fun _=>(.bind .rfl fun _=>(.bif (.need .rfl) (.loop (fun _=>(.bind .rfl fun _=>(.bind .rfl fun _=>(.bif (.bind .rfl fun _=>(.bind .rfl fun _=> .rfl)) .rfl)))) fun _=>(.join (.bind .rfl fun _=>(.bind .rfl fun _=>(.bif .rfl .rfl))) fun _=>(.bind .rfl fun _=> .rfl)))))))
def yF(n:Nat)(x:Str×Int):Option (zf×Int):=
 zb (geti x.1 x.2) fun y1=>
 ZI n (fun(s2:Int×zf×zf)=>
   bif decide (s2.1<(x.1.length:Int))then
    zb (geti x.1 s2.1) fun y3=>
    bif (y3.toNat:Int)==(y1.toNat:Int)then
     some (LO.ret (s2.2.2,w64 (s2.1+1)))
    else
     zb (geti x.1 s2.1) fun y4=>
     bif (y4.toNat:Int)==10 then
      some (LO.ret ((⟨6,[],0,[],false⟩:zf),s2.1))
     else
      zb (geti x.1 s2.1) fun y5=>
      bif bif (y5.toNat:Int)==92 then w64 (s2.1+1)==(x.1.length:Int)else false then
       some (LO.again (w64 (s2.1+1),s2.2.1,s2.2.2))
      else
       zb (geti x.1 s2.1) fun y6=>
       zb (zo ((y6.toNat:Int)==92) (geti x.1 (w64 (s2.1+1))) 0) fun y7=>
       bif bif (y6.toNat:Int)==92 then(y7.toNat:Int)==10 else false then
        some (LO.again (w64 (s2.1+2),s2.2.1,s2.2.2))
       else
        zb (geti x.1 s2.1) fun y8=>
        bif (y8.toNat:Int)==92 then
         zb (Jq n (x.1,s2.1)) fun y9=>
         need (qZ s2.2.2.text.length y9.1.length)<|
         some (LO.again (y9.2,s2.2.1,(⟨s2.2.2.kind,s2.2.2.text++y9.1,s2.2.2.num,s2.2.2.unit,s2.2.2.flag⟩:zf)))
        else
         need (decide (0<=s2.1)&&(decide (s2.1<=w64 (s2.1+1))&&decide (w64 (s2.1+1)<=(x.1.length:Int))))<|
         need (qZ s2.2.2.text.length (List.drop s2.1.toNat (List.take (w64 (s2.1+1)).toNat x.1)).length)<|
         some (LO.again (w64 (s2.1+1),s2.2.1,(⟨s2.2.2.kind,s2.2.2.text++List.drop s2.1.toNat (List.take (w64 (s2.1+1)).toNat x.1),s2.2.2.num,s2.2.2.unit,s2.2.2.flag⟩:zf)))
   else
    some (LO.out (s2.1,s2.2.1,s2.2.2)):Int×zf×zf->Option (LO (Int×zf×zf) (Int×zf×zf) _)) (w64 (x.2+1),(⟨0,[],0,[],false⟩:zf),(⟨5,[],0,[],false⟩:zf)) fun o10=>
 some (o10.2.2,o10.1)
theorem J5(n:Nat)(x:Str×Int):Le (yF n x) (ku x):=by unfold yF ku;exact(.bind .rfl fun _=>(.loop (fun _=>(.bif (.bind .rfl fun _=>(.bif .rfl (.bind .rfl fun _=>(.bif .rfl (.bind .rfl fun _=>(.bif .rfl (.bind .rfl fun _=>(.bind .rfl fun _=>(.bif .rfl (.bind .rfl fun _=>(.bif (.bind (GA n _) fun _=>(.need .rfl)) (.need (.need .rfl))))))))))))) .rfl)) fun _=> .rfl))
def Cq(n:Nat)(x:Str×Int):Option (Str×Int):=
 ZI n (fun(s1:Int×Str)=>
   zb (zo (decide (s1.1<(x.1.length:Int))) (geti x.1 s1.1) 0) fun y2=>
   zb (zo (decide (s1.1<(x.1.length:Int))) (il (y2.toNat:Int)) (default:Bool)) fun y3=>
   bif bif decide (s1.1<(x.1.length:Int))then y3 else false then
    need (decide (0<=s1.1)&&(decide (s1.1<=w64 (s1.1+1))&&decide (w64 (s1.1+1)<=(x.1.length:Int))))<|
    need (qZ s1.2.length (List.drop s1.1.toNat (List.take (w64 (s1.1+1)).toNat x.1)).length)<|
    some (LO.again (w64 (s1.1+1),s1.2++List.drop s1.1.toNat (List.take (w64 (s1.1+1)).toNat x.1)))
   else
    zb (zo (decide (s1.1<(x.1.length:Int))) (Zt (x.1,s1.1)) (default:Bool)) fun y4=>
    bif bif decide (s1.1<(x.1.length:Int))then y4 else false then
     zb (Jq n (x.1,s1.1)) fun y5=>
     need (qZ s1.2.length y5.1.length)<|
     some (LO.again (y5.2,s1.2++y5.1))
    else
     some (LO.ret (s1.2,s1.1)):Int×Str->Option (LO (Int×Str) (Unit) _)) (x.2,[]) fun o6=>
 none
theorem dz(n:Nat)(x:Str×Int):Le (Cq n x) (Q6 x):=by unfold Cq Q6;exact(.loop (fun _=>(.bind .rfl fun _=>(.bind .rfl fun _=>(.bif (.need (.need .rfl)) (.bind .rfl fun _=>(.bif (.bind (GA n _) fun _=>(.need .rfl)) .rfl)))))) fun _=> .none)
def lu(n:Nat)(x:Str×Int):Option Int:=
 ZI n (fun(s1:Int)=>
   zb (zT (x.1,s1)) fun y2=>
   zb (zZ y2) fun y3=>
   bif y3 then
    some (LO.again (w64 (s1+1)))
   else
    some (LO.out s1):Int->Option (LO (Int) (Int) _)) x.2 fun o4=>
 some o4
theorem nG(n:Nat)(x:Str×Int):Le (lu n x) (Yl x):=by unfold lu Yl;exact(.loop (fun _=>(.bind .rfl fun _=>(.bind .rfl fun _=>(.bif .rfl .rfl)))) fun _=> .rfl)
def oG(n:Nat)(x:Str×Int):Option (Int×Bool):=
 zD (X:=Int) (
   zb (zT (x.1,x.2)) fun y1=>
   bif bif y1==43 then true else y1==45 then
    some (LX.out (w64 (x.2+1)))
   else
    some (LX.out x.2)) fun j2=>
 zb (lu n (x.1,j2)) fun y3=>
 zD (X:=Int×Bool) (
   zb (zT (x.1,y3)) fun y4=>
   zb (zo (y4==46) (zT (x.1,w64 (y3+1))) (default:Int)) fun y5=>
   zb (zo (y4==46) (zZ y5) (default:Bool)) fun y6=>
   bif bif y4==46 then y6 else false then
    zb (lu n (x.1,w64 (y3+1))) fun y7=>
    some (LX.out (y7,false))
   else
    some (LX.out (y3,true))) fun j8=>
 zD (X:=Int×Bool) (
   zb (zT (x.1,j8.1)) fun y9=>
   bif bif y9==101 then true else y9==69 then
    zD (X:=Int×Bool×Int) (
      zb (zT (x.1,w64 (j8.1+1))) fun y10=>
      bif bif y10==43 then true else y10==45 then
       some (LX.out (j8.1,j8.2,w64 (w64 (j8.1+1)+1)))
      else
       some (LX.out (j8.1,j8.2,w64 (j8.1+1)))) fun j11=>
    zb (zT (x.1,j11.2.2)) fun y12=>
    zb (zZ y12) fun y13=>
    bif y13 then
     zb (lu n (x.1,j11.2.2)) fun y14=>
     some (LX.out (y14,false))
    else
     some (LX.out (j11.1,j11.2.1))
   else
    some (LX.out (j8.1,j8.2))) fun j15=>
 some (j15.1,j15.2)
theorem U8(n:Nat)(x:Str×Int):Le (oG n x) (Bv x):=by unfold oG Bv;exact(.join (.bind .rfl fun _=>(.bif .rfl .rfl)) fun _=>(.bind (nG n _) fun _=>(.join (.bind .rfl fun _=>(.bind .rfl fun _=>(.bind .rfl fun _=>(.bif (.bind (nG n _) fun _=> .rfl) .rfl)))) fun _=>(.join (.bind .rfl fun _=>(.bif (.join (.bind .rfl fun _=>(.bif .rfl .rfl)) fun _=>(.bind .rfl fun _=>(.bind .rfl fun _=>(.bif (.bind (nG n _) fun _=> .rfl) .rfl)))) .rfl)) fun _=> .rfl))))
def BH(n:Nat)(x:Str):Option Int:=
 zb (geti x 0) fun y1=>
 zD (X:=Str×Int×Int) (
   zb (geti x 0) fun y2=>
   bif bif (y2.toNat:Int)==43 then true else(y1.toNat:Int)==45 then
    some (LX.out ([],3,1))
   else
    some (LX.out ([],3,0))) fun j3=>
 ZI n (fun(s4:Str×Int)=>
   zb (zT (x,s4.2)) fun y5=>
   zb (zZ y5) fun y6=>
   bif y6 then
    need (decide (0<=s4.2)&&(decide (s4.2<=w64 (s4.2+1))&&decide (w64 (s4.2+1)<=(x.length:Int))))<|
    need (qZ s4.1.length (List.drop s4.2.toNat (List.take (w64 (s4.2+1)).toNat x)).length)<|
    some (LO.again (s4.1++List.drop s4.2.toNat (List.take (w64 (s4.2+1)).toNat x),w64 (s4.2+1)))
   else
    some (LO.out (s4.1,s4.2)):Str×Int->Option (LO (Str×Int) (Str×Int) _)) (j3.1,j3.2.2) fun o7=>
 zD (X:=Str×Int×Int) (
   zb (zT (x,o7.2)) fun y8=>
   bif y8==46 then
    ZI n (fun(s9:Str×Int×Int)=>
      zb (zT (x,s9.2.2)) fun y10=>
      zb (zZ y10) fun y11=>
      bif y11 then
       need (decide (0<=s9.2.2)&&(decide (s9.2.2<=w64 (s9.2.2+1))&&decide (w64 (s9.2.2+1)<=(x.length:Int))))<|
       need (qZ s9.1.length (List.drop s9.2.2.toNat (List.take (w64 (s9.2.2+1)).toNat x)).length)<|
       some (LO.again (s9.1++List.drop s9.2.2.toNat (List.take (w64 (s9.2.2+1)).toNat x),w64 (s9.2.1 - 1),w64 (s9.2.2+1)))
      else
       some (LO.out (s9.1,s9.2.1,s9.2.2)):Str×Int×Int->Option (LO (Str×Int×Int) (Str×Int×Int) _)) (o7.1,j3.2.1,w64 (o7.2+1)) fun o12=>
    some (LX.out (o12.1,o12.2.1,o12.2.2))
   else
    some (LX.out (o7.1,j3.2.1,o7.2))) fun j13=>
 zD (X:=Int) (
   bif decide (j13.2.2<(x.length:Int))then
    zb (geti x (w64 (j13.2.2+1))) fun y14=>
    zD (X:=Int×Int) (
      zb (geti x (w64 (j13.2.2+1))) fun y15=>
      bif bif (y15.toNat:Int)==43 then true else(y14.toNat:Int)==45 then
       some (LX.out (j13.2.1,w64 (w64 (j13.2.2+1)+1)))
      else
       some (LX.out (j13.2.1,w64 (j13.2.2+1)))) fun j16=>
    ZI n (fun(s17:Int×Int)=>
      bif decide (s17.1<(x.length:Int))then
       zb (geti x s17.1) fun y18=>
       some (LO.again (w64 (s17.1+1),if w64 (w64 (10*s17.2)+w64 (wu8 ((y18.toNat:Int) - 48)))<10000 then w64 (w64 (10*s17.2)+w64 (wu8 ((y18.toNat:Int) - 48)))else 10000))
      else
       some (LO.out s17.2):Int×Int->Option (LO (Int×Int) (Int) _)) (j16.2,0) fun o19=>
    zD (X:=Int×Int) (
      bif (y14.toNat:Int)==45 then
       some (LX.out (j16.1,w64 (0 - o19)))
      else
       some (LX.out (j16.1,o19))) fun j20=>
    some (LX.out (w64 (j20.1+j20.2)))
   else
    some (LX.out j13.2.1)) fun j21=>
 ZI n (fun(s22:Int×Int)=>
   bif bif decide (s22.2<w64 ((j13.1.length:Int)+j21))then decide (s22.2<(j13.1.length:Int))else false then
    zb (geti j13.1 s22.2) fun y23=>
    some (LO.again (if w64 (w64 (10*s22.1)+w64 (wu8 ((y23.toNat:Int) - 48)))<1000000000000 then w64 (w64 (10*s22.1)+w64 (wu8 ((y23.toNat:Int) - 48)))else 1000000000000,w64 (s22.2+1)))
   else
    some (LO.out s22.1):Int×Int->Option (LO (Int×Int) (Int) _)) (0,0) fun o24=>
 ZI n (fun(s25:Int×Int)=>
   bif bif bif decide (s25.1>0)then decide (s25.2>0)else false then decide (s25.2<1000000000000)else false then
    some (LO.again (w64 (s25.1 - 1),if w64 (10*s25.2)<1000000000000 then w64 (10*s25.2)else 1000000000000))
   else
    some (LO.out s25.2):Int×Int->Option (LO (Int×Int) (Int) _)) (j21,o24) fun o26=>
 bif (y1.toNat:Int)==45 then
  some (w64 (0 - o26))
 else
  some o26
theorem P9(n:Nat)(x:Str):Le (BH n x) (Pv x):=by unfold BH Pv;exact(.bind .rfl fun _=>(.join (.bind .rfl fun _=>(.bif .rfl .rfl)) fun _=>(.loop (fun _=>(.bind .rfl fun _=>(.bind .rfl fun _=>(.bif (.need (.need .rfl)) .rfl)))) fun _=>(.join (.bind .rfl fun _=>(.bif (.loop (fun _=>(.bind .rfl fun _=>(.bind .rfl fun _=>(.bif (.need (.need .rfl)) .rfl)))) fun _=> .rfl) .rfl)) fun _=>(.join (.bif (.bind .rfl fun _=>(.join (.bind .rfl fun _=>(.bif .rfl .rfl)) fun _=>(.loop (fun _=>(.bif (.bind .rfl fun _=> .rfl) .rfl)) fun _=>(.join (.bif .rfl .rfl) fun _=> .rfl)))) .rfl) fun _=>(.loop (fun _=>(.bif (.bind .rfl fun _=> .rfl) .rfl)) fun _=>(.loop (fun _=>(.bif .rfl .rfl)) fun _=>(.bif .rfl .rfl))))))))
def UG(n:Nat)(x:Str×Int):Option (zf×Int):=
 zb (oG n (x.1,x.2)) fun y1=>
 need (decide (0<=x.2)&&(decide (x.2<=y1.1)&&decide (y1.1<=(x.1.length:Int))))<|
 zb (BH n (List.drop x.2.toNat (List.take y1.1.toNat x.1))) fun y2=>
 zD (X:=Int×zf×zf) (
   zb (qG (x.1,y1.1)) fun y3=>
   bif y3 then
    zb (Cq n (x.1,y1.1)) fun y4=>
    some (LX.out (y4.2,(⟨0,[],0,[],false⟩:zf),(⟨12,[],y2,y4.1,y1.2⟩:zf)))
   else
    zb (zT (x.1,y1.1)) fun y5=>
    bif y5==37 then
     some (LX.out (w64 (y1.1+1),(⟨0,[],0,[],false⟩:zf),(⟨11,[],y2,[],false⟩:zf)))
    else
     some (LX.out (y1.1,(⟨0,[],0,[],false⟩:zf),(⟨10,[],y2,[],y1.2⟩:zf)))) fun j6=>
 some (j6.2.2,j6.1)
theorem M7(n:Nat)(x:Str×Int):Le (UG n x) (Av x):=by unfold UG Av;exact(.bind (U8 n _) fun _=>(.need (.bind (P9 n _) fun _=>(.join (.bind .rfl fun _=>(.bif (.bind (dz n _) fun _=> .rfl) (.bind .rfl fun _=>(.bif .rfl .rfl)))) fun _=> .rfl))))
def TF(n:Nat)(x:Str×Str):Option Bool:=
 zb (cz n x.1) fun y1=>
 zb (cz n x.2) fun y2=>
 some (y1==y2)
theorem rZ(n:Nat)(x:Str×Str):Le (TF n x) (Qr x):=by unfold TF Qr;exact(.bind (FP n _) fun _=>(.bind (FP n _) fun _=> .rfl))
def ky(n:Nat)(x:Str×Int):Option (zf×Int):=
 ZI n (fun(s1:Int)=>
   zb (zo (decide (s1<(x.1.length:Int))) (geti x.1 s1) 0) fun y2=>
   bif bif decide (s1<(x.1.length:Int))then(y2.toNat:Int) != 41 else false then
    zb (Zt (x.1,s1)) fun y3=>
    bif y3 then
     zb (Jq n (x.1,s1)) fun y4=>
     some (LO.again y4.2)
    else
     some (LO.again (w64 (s1+1)))
   else
    some (LO.out s1):Int->Option (LO (Int) (Int) _)) x.2 fun o5=>
 some ((⟨8,[],0,[],false⟩:zf),if w64 (o5+1)<(x.1.length:Int)then w64 (o5+1)else(x.1.length:Int))
theorem FN(n:Nat)(x:Str×Int):Le (ky n x) (Yo x):=by unfold ky Yo;exact(.loop (fun _=>(.bind .rfl fun _=>(.bif (.bind .rfl fun _=>(.bif (.bind (GA n _) fun _=> .rfl) .rfl)) .rfl))) fun _=> .rfl)
def SE(n:Nat)(x:Str×Int):Option (zf×Int):=
 zb (Kq n (x.1,x.2)) fun y1=>
 ZI n (fun(s2:Int×zf×zf)=>
   zb (zo (decide (s2.1<(x.1.length:Int))) (geti x.1 s2.1) 0) fun y3=>
   bif bif decide (s2.1<(x.1.length:Int))then(y3.toNat:Int) != 41 else false then
    zb (geti x.1 s2.1) fun y4=>
    zb (qy (y4.toNat:Int)) fun y5=>
    bif y5 then
     zb (Kq n (x.1,s2.1)) fun y6=>
     zb (zo (decide (y6<(x.1.length:Int))) (geti x.1 y6) 0) fun y7=>
     bif bif decide (y6<(x.1.length:Int))then(y7.toNat:Int) != 41 else false then
      zb (ky n (x.1,y6)) fun y8=>
      some (LO.ret (y8.1,y8.2))
     else
      some (LO.again (y6,s2.2.1,s2.2.2))
    else
     zb (zo (!(bif bif (y4.toNat:Int)==34 then true else(y4.toNat:Int)==39 then true else(y4.toNat:Int)==40)) (RA (y4.toNat:Int)) (default:Bool)) fun y9=>
     zb (zo ((y4.toNat:Int)==92&& !(bif bif bif (y4.toNat:Int)==34 then true else(y4.toNat:Int)==39 then true else(y4.toNat:Int)==40 then true else y9)) (Zt (x.1,s2.1)) (default:Bool)) fun y10=>
     bif bif bif bif bif (y4.toNat:Int)==34 then true else(y4.toNat:Int)==39 then true else(y4.toNat:Int)==40 then true else y9 then true else bif (y4.toNat:Int)==92 then !y10 else false then
      zb (ky n (x.1,s2.1)) fun y11=>
      some (LO.ret (y11.1,y11.2))
     else
      bif (y4.toNat:Int)==92 then
       zb (Jq n (x.1,s2.1)) fun y12=>
       need (qZ s2.2.2.text.length y12.1.length)<|
       some (LO.again (y12.2,s2.2.1,(⟨s2.2.2.kind,s2.2.2.text++y12.1,s2.2.2.num,s2.2.2.unit,s2.2.2.flag⟩:zf)))
      else
       need (decide (0<=s2.1)&&(decide (s2.1<=w64 (s2.1+1))&&decide (w64 (s2.1+1)<=(x.1.length:Int))))<|
       need (qZ s2.2.2.text.length (List.drop s2.1.toNat (List.take (w64 (s2.1+1)).toNat x.1)).length)<|
       some (LO.again (w64 (s2.1+1),s2.2.1,(⟨s2.2.2.kind,s2.2.2.text++List.drop s2.1.toNat (List.take (w64 (s2.1+1)).toNat x.1),s2.2.2.num,s2.2.2.unit,s2.2.2.flag⟩:zf)))
   else
    some (LO.out (s2.1,s2.2.1,s2.2.2)):Int×zf×zf->Option (LO (Int×zf×zf) (Int×zf×zf) _)) (y1,(⟨0,[],0,[],false⟩:zf),(⟨7,[],0,[],false⟩:zf)) fun o13=>
 some (o13.2.2,if w64 (o13.1+1)<(x.1.length:Int)then w64 (o13.1+1)else(x.1.length:Int))
theorem GX(n:Nat)(x:Str×Int):Le (SE n x) (Et x):=by unfold SE Et;exact(.bind (JA n _) fun _=>(.loop (fun _=>(.bind .rfl fun _=>(.bif (.bind .rfl fun _=>(.bind .rfl fun _=>(.bif (.bind (JA n _) fun _=>(.bind .rfl fun _=>(.bif (.bind (FN n _) fun _=> .rfl) .rfl))) (.bind .rfl fun _=>(.bind .rfl fun _=>(.bif (.bind (FN n _) fun _=> .rfl) (.bif (.bind (GA n _) fun _=>(.need .rfl)) (.need (.need .rfl))))))))) .rfl))) fun _=> .rfl))
def MF(n:Nat)(x:Str×Int):Option (zf×Int):=
 zb (Cq n (x.1,x.2)) fun y1=>
 zb (zT (x.1,y1.2)) fun y2=>
 bif y2 != 40 then
  some ((⟨1,y1.1,0,[],false⟩:zf),y1.2)
 else
  zD (X:=zf) (
    zb (TF n (y1.1,[117,114,108])) fun y3=>
    bif y3 then
     zb (Kq n (x.1,w64 (y1.2+1))) fun y4=>
     zb (zT (x.1,y4)) fun y5=>
     bif bif y5 != 34 then y5 != 39 else false then
      zb (SE n (x.1,w64 (y1.2+1))) fun y6=>
      some (LX.ret (y6.1,y6.2))
     else
      some (LX.out (⟨0,[],0,[],false⟩:zf))
    else
     some (LX.out (⟨0,[],0,[],false⟩:zf))) fun j7=>
  some ((⟨2,y1.1,0,[],false⟩:zf),w64 (y1.2+1))
theorem GZ(n:Nat)(x:Str×Int):Le (MF n x) (Yt x):=by unfold MF Yt;exact(.bind (dz n _) fun _=>(.bind .rfl fun _=>(.bif .rfl (.join (.bind (rZ n _) fun _=>(.bif (.bind (JA n _) fun _=>(.bind .rfl fun _=>(.bif (.bind (GX n _) fun _=> .rfl) .rfl))) .rfl)) fun _=> .rfl))))
def TE(n:Nat)(x:Str×Int):Option (zf×Int):=
 zb (geti x.1 x.2) fun y1=>
 zb (qy (y1.toNat:Int)) fun y2=>
 bif y2 then
  zb (Kq n (x.1,x.2)) fun y3=>
  some ((⟨13,[],0,[],false⟩:zf),y3)
 else
  bif bif (y1.toNat:Int)==34 then true else(y1.toNat:Int)==39 then
   zb (yF n (x.1,x.2)) fun y4=>
   some (y4.1,y4.2)
  else
   zb (zo (decide (w64 (x.2+1)<(x.1.length:Int))&&(y1.toNat:Int)==35) (geti x.1 (w64 (x.2+1))) 0) fun y5=>
   zb (zo (decide (w64 (x.2+1)<(x.1.length:Int))&&(y1.toNat:Int)==35) (il (y5.toNat:Int)) (default:Bool)) fun y6=>
   zb (zo (!(bif decide (w64 (x.2+1)<(x.1.length:Int))then y6 else false)&&(y1.toNat:Int)==35) (Zt (x.1,w64 (x.2+1))) (default:Bool)) fun y7=>
   bif bif (y1.toNat:Int)==35 then bif bif decide (w64 (x.2+1)<(x.1.length:Int))then y6 else false then true else y7 else false then
    zb (Cq n (x.1,w64 (x.2+1))) fun y8=>
    zb (qG (x.1,w64 (x.2+1))) fun y9=>
    some ((⟨4,y8.1,0,[],y9⟩:zf),y8.2)
   else
    zb (yz (x.1,x.2)) fun y10=>
    bif y10 then
     zb (UG n (x.1,x.2)) fun y11=>
     some (y11.1,y11.2)
    else
     zb (Xo (x.1,x.2,[45,45,62])) fun y12=>
     bif y12 then
      some ((⟨15,[],0,[],false⟩:zf),w64 (x.2+3))
     else
      zb (Xo (x.1,x.2,[60,33,45,45])) fun y13=>
      bif y13 then
       some ((⟨14,[],0,[],false⟩:zf),w64 (x.2+4))
      else
       zb (zo ((y1.toNat:Int)==64) (qG (x.1,w64 (x.2+1))) (default:Bool)) fun y14=>
       bif bif (y1.toNat:Int)==64 then y14 else false then
        zb (Cq n (x.1,w64 (x.2+1))) fun y15=>
        some ((⟨3,y15.1,0,[],false⟩:zf),y15.2)
       else
        zb (qG (x.1,x.2)) fun y16=>
        bif y16 then
         zb (MF n (x.1,x.2)) fun y17=>
         some (y17.1,y17.2)
        else
         zb (oo (y1.toNat:Int)) fun y18=>
         bif y18 != 0 then
          zb (oo (y1.toNat:Int)) fun y19=>
          some ((⟨y19,[],0,[],false⟩:zf),w64 (x.2+1))
         else
          need (decide (0<=x.2)&&(decide (x.2<=w64 (x.2+1))&&decide (w64 (x.2+1)<=(x.1.length:Int))))<|
          some ((⟨9,List.drop x.2.toNat (List.take (w64 (x.2+1)).toNat x.1),0,[],false⟩:zf),w64 (x.2+1))
theorem IX(n:Nat)(x:Str×Int):Le (TE n x) (Gt x):=by unfold TE Gt;exact(.bind .rfl fun _=>(.bind .rfl fun _=>(.bif (.bind (JA n _) fun _=> .rfl) (.bif (.bind (J5 n _) fun _=> .rfl) (.bind .rfl fun _=>(.bind .rfl fun _=>(.bind .rfl fun _=>(.bif (.bind (dz n _) fun _=>(.bind .rfl fun _=> .rfl)) (.bind .rfl fun _=>(.bif (.bind (M7 n _) fun _=> .rfl) (.bind .rfl fun _=>(.bif .rfl (.bind .rfl fun _=>(.bif .rfl (.bind .rfl fun _=>(.bif (.bind (dz n _) fun _=> .rfl) (.bind .rfl fun _=>(.bif (.bind (GZ n _) fun _=> .rfl) (.bind .rfl fun _=>(.bif (.bind .rfl fun _=> .rfl) (.need .rfl)))))))))))))))))))))
def SF(n:Nat)(x:Int):Option Bool:=
 zb (ZQ x) fun y1=>
 zb (TE n ([y1,(10:UInt8)],0)) fun y2=>
 some (bif bif bif bif decide (x>=1)then decide (x<=127)else false then x != 12 else false then x != 13 else false then y2.1.kind==9 else false)
theorem oZ(n:Nat)(x:Int):Le (SF n x) (Qt x):=by unfold SF Qt;exact(.bind .rfl fun _=>(.bind (IX n _) fun _=> .rfl))
def MH(n:Nat)(x:List Str×Str):Option Int:=
 ZI n (fun(s1:Int)=>
   bif decide (s1<(x.1.length:Int))then
    zb (geti x.1 s1) fun y2=>
    bif x.2==y2 then
     some (LO.ret s1)
    else
     some (LO.again (w64 (s1+1)))
   else
    some (LO.out ()):Int->Option (LO (Int) (Unit) _)) 0 fun o3=>
 some (-1)
theorem w9(n:Nat)(x:List Str×Str):Le (MH n x) (slices_Index_string x):=by unfold MH slices_Index_string;exact(.loop (fun _=>(.bif (.bind .rfl fun _=>(.bif .rfl .rfl)) .rfl)) fun _=> .rfl)
def YH(n:Nat)(x:List Str×Str):Option Bool:=
 zb (MH n (x.1,x.2)) fun y1=>
 some (decide (y1>=0))
theorem zf6(n:Nat)(x:List Str×Str):Le (YH n x) (slices_Contains_string x):=by unfold YH slices_Contains_string;exact(.bind (w9 n _) fun _=> .rfl)
def Vz(n:Nat)(x:Str):Option Bool:=
 zb (YH n ([[],[97,110,100],[111,114],[110,111,116],[111,110,108,121]],x)) fun y1=>
 zb (zo (bif !y1 then decide ((x.length:Int)<=64)else false) (QO n x) (default:Str)) fun y2=>
 zb (zo (bif bif !y1 then decide ((x.length:Int)<=64)else false then y2==x else false) (strings_IndexByte (x,0)) (default:Int)) fun y3=>
 some (bif bif bif !y1 then decide ((x.length:Int)<=64)else false then y2==x else false then decide (y3<0)else false)
theorem LP(n:Nat)(x:Str):Le (Vz n x) (QW x):=by unfold Vz QW;exact(.bind (zf6 n _) fun _=>(.bind (.cond (Mq n _)) fun _=>(.bind .rfl fun _=> .rfl)))
def Sz(n:Nat)(x:List Int):Option Int:=
 ZI n (fun(s1:Int)=>
   bif decide (s1<(x.length:Int))then
    zb (geti x s1) fun y2=>
    bif bif decide (y2<(-1000000000000))then true else decide (y2>1000000000000)then
     some (LO.ret 8)
    else
     some (LO.again (w64 (s1+1)))
   else
    some (LO.out ()):Int->Option (LO (Int) (Unit) _)) 0 fun o3=>
 some 0
theorem JP(n:Nat)(x:List Int):Le (Sz n x) (Vj x):=by unfold Sz Vj;exact(.loop (fun _=>(.bif (.bind .rfl fun _=>(.bif .rfl .rfl)) .rfl)) fun _=> .rfl)
def Tz(n:Nat)(x:Int):Option Int:=
 zb (Sz n [x]) fun y1=>
 some y1
theorem KP(n:Nat)(x:Int):Le (Tz n x) (QY x):=by unfold Tz QY;exact(.bind (JP n _) fun _=> .rfl)
def Jz(n:Nat)(x:zh):Option Bool:=
 zb (zo (!(x.kind != 1)) (ZX (⟨x.kind,x.name,x.num,x.decl,x.list⟩:zh)) (default:Bool)) fun y1=>
 bif bif bif x.kind != 1 then true else !y1 then true else(x.list.length:Int)==0 then
  some false
 else
  ZI n (fun(s2:Int)=>
    bif decide (s2<(x.list.length:Int))then
     zD (X:=Int) (
       zb (geti x.list s2) fun y3=>
       zb (zo (!(decide ((y3.list.length:Int)>0))) (ZX (⟨y3.kind,[],0,y3.decl,y3.list⟩:zh)) (default:Bool)) fun y4=>
       bif bif decide ((y3.list.length:Int)>0)then true else !y4 then
        some (LX.ret (LO.ret false))
       else
        bif y3.kind==4 then
         zb (zo (!(bif decide (s2>0)then true else y3.num != 0)) (Vz n y3.name) (default:Bool)) fun y5=>
         bif bif bif decide (s2>0)then true else y3.num != 0 then true else !y5 then
          some (LX.ret (LO.ret false))
         else
          some (LX.out s2)
        else
         zD (X:=Bool) (
           bif y3.kind==5 then
            some (LX.out (y3.kind==5))
           else
            some (LX.out (y3.kind==6))) fun j6=>
         bif j6 then
          zb (zo (!(bif !(y3.name==[])then true else decide (y3.num<0))) (Tz n y3.num) (default:Int)) fun y7=>
          bif bif bif !(y3.name==[])then true else decide (y3.num<0)then true else y7 != 0 then
           some (LX.ret (LO.ret false))
          else
           some (LX.out s2)
         else
          some (LX.ret (LO.ret false))) fun j8=>
     some (LO.again (w64 (j8+1)))
    else
     some (LO.out ()):Int->Option (LO (Int) (Unit) _)) 0 fun o9=>
  some true
theorem PO(n:Nat)(x:zh):Le (Jz n x) (Rj x):=by unfold Jz Rj;exact(.bind .rfl fun _=>(.bif .rfl (.loop (fun _=>(.bif (.join (.bind .rfl fun _=>(.bind .rfl fun _=>(.bif .rfl (.bif (.bind (.cond (LP n _)) fun _=>(.bif .rfl .rfl)) (.join (.bif .rfl .rfl) fun _=>(.bif (.bind (.cond (KP n _)) fun _=>(.bif .rfl .rfl)) .rfl)))))) fun _=> .rfl) .rfl)) fun _=> .rfl)))
def wE(n:Nat)(x:zh):Option Bool:=
 bif x.kind==3 then
  zb (ZX (⟨x.kind,x.name,x.num,x.decl,x.list⟩:zh)) fun y1=>
  zb (zo (bif y1 then(x.list.length:Int)==1 else false) (geti x.list 0) (default:zh)) fun y2=>
  zb (zo (bif y1 then(x.list.length:Int)==1 else false) (Jz n (⟨y2.kind,y2.name,y2.num,y2.decl,y2.list⟩:zh)) (default:Bool)) fun y3=>
  zb (zo (bif bif y1 then(x.list.length:Int)==1 else false then y3 else false) (geti x.list 0) (default:zh)) fun y4=>
  zb (zo (bif bif y1 then(x.list.length:Int)==1 else false then y3 else false) (wo (⟨y4.kind,y4.name,y4.num,y4.decl,y4.list⟩:zh)) (default:Bool)) fun y5=>
  some (bif bif bif y1 then(x.list.length:Int)==1 else false then y3 else false then y5 else false)
 else
  zb (Jz n (⟨x.kind,x.name,x.num,x.decl,x.list⟩:zh)) fun y6=>
  some y6
theorem PX(n:Nat)(x:zh):Le (wE n x) (Il x):=by unfold wE Il;exact(.bif (.bind .rfl fun _=>(.bind .rfl fun _=>(.bind (.cond (PO n _)) fun _=>(.bind .rfl fun _=>(.bind .rfl fun _=> .rfl))))) (.bind (PO n _) fun _=> .rfl))
def JH(n:Nat)(x:zh):Option Bool:=
 zb (wE n (⟨x.kind,x.name,x.num,x.decl,x.list⟩:zh)) fun y1=>
 some (!y1)
theorem S9(n:Nat)(x:zh):Le (JH n x) (qp x):=by unfold JH qp;exact(.bind (PX n _) fun _=> .rfl)
def iH(n:Nat)(x:List zh):Option Int:=
 ZI n (fun(s1:Int)=>
   bif decide (s1<(x.length:Int))then
    zb (geti x s1) fun y2=>
    zb (JH n (⟨y2.kind,y2.name,y2.num,y2.decl,y2.list⟩:zh)) fun y3=>
    bif y3 then
     some (LO.ret s1)
    else
     some (LO.again (w64 (s1+1)))
   else
    some (LO.out ()):Int->Option (LO (Int) (Unit) _)) 0 fun o4=>
 some (-1)
theorem zgw(n:Nat)(x:List zh):Le (iH n x) (ZY x):=by unfold iH ZY;exact(.loop (fun _=>(.bif (.bind .rfl fun _=>(.bind (S9 n _) fun _=>(.bif .rfl .rfl))) .rfl)) fun _=> .rfl)
def QC(n:Nat)(x:List zh):Option Bool:=
 zb (iH n x) fun y1=>
 some (decide (y1>=0))
theorem ze8(n:Nat)(x:List zh):Le (QC n x) (Zi x):=by unfold QC Zi;exact(.bind (zgw n _) fun _=> .rfl)
def TA(n:Nat)(x:zh):Option Int:=
 zb (zo (bif bif x.kind==2 then decide ((x.list.length:Int)>0)else false then decide ((x.list.length:Int)<=64)else false) (QC n x.list) (default:Bool)) fun y1=>
 zb (ZX (⟨x.kind,x.name,x.num,x.decl,x.list⟩:zh)) fun y2=>
 bif bif !y2 then true else bif !(bif x.kind==1 then(x.list.length:Int)==0 else false)then !(bif bif bif x.kind==2 then decide ((x.list.length:Int)>0)else false then decide ((x.list.length:Int)<=64)else false then !y1 else false)else false then
  some 8
 else
  some 0
theorem FQ(n:Nat)(x:zh):Le (TA n x) (Z5 x):=by unfold TA Z5;exact(.bind (.cond (ze8 n _)) fun _=>(.bind .rfl fun _=>(.bif .rfl .rfl)))
def Vu(n:Nat)(x:zh):Option Int:=
 zb (TA n (⟨x.kind,x.name,x.num,x.decl,x.list⟩:zh)) fun y1=>
 bif y1 != 0 then
  zb (qY n (⟨x.kind,x.name,x.num,x.decl,x.list⟩:zh)) fun y2=>
  some y2
 else
  some 0
theorem iF(n:Nat)(x:zh):Le (Vu n x) (ah x):=by unfold Vu ah;exact(.bind (FQ n _) fun _=>(.bif (.bind (PH n _) fun _=> .rfl) .rfl))
def gG(n:Nat)(qd:(zh×Int)×Int×List Bool->Option (Bool×Int))(x:(zh×Int)×Int×List Bool):Option (Bool×Int):=
 bif x.1.1.kind==4 then
  some (bif x.1.1.name==[97,108,108]then true else x.1.1.name==[115,99,114,101,101,110],x.2.1)
 else
  bif x.1.1.kind==5 then
   some (decide (x.1.2>=x.1.1.num),x.2.1)
  else
   bif x.1.1.kind==6 then
    some (decide (x.1.2<=x.1.1.num),x.2.1)
   else
    bif x.1.1.kind==7 then
     zb (Wu (x.2.1,x.2.2)) fun y1=>
     some (y1.1,y1.2)
    else
     bif x.1.1.kind==8 then
      some (false,x.2.1)
     else
      ZI n (fun(s2:(Bool×Bool×Int)×Int)=>
        bif decide (s2.1.2.2<(x.1.1.list.length:Int))then
         zb (geti x.1.1.list s2.1.2.2) fun y3=>
         zb (qd (((⟨y3.kind,y3.name,y3.num,y3.decl,y3.list⟩:zh),x.1.2),s2.2,x.2.2)) fun y4=>
         some (LO.again ((bif s2.1.1 then y4.1 else false,bif s2.1.2.1 then true else y4.1,w64 (s2.1.2.2+1)),y4.2))
        else
         some (LO.out ((s2.1.1,s2.1.2.1),s2.2)):(Bool×Bool×Int)×Int->Option (LO ((Bool×Bool×Int)×Int) ((Bool×Bool)×Int) _)) ((true,false,0),x.2.1) fun o5=>
      bif x.1.1.kind==1 then
       some (o5.1.1,o5.2)
      else
       bif x.1.1.kind==2 then
        some (o5.1.2,o5.2)
       else
        some (!o5.1.2,o5.2)
def VM(n:Nat):(zh×Int)×Int×List Bool->Option (Bool×Int):=Df (gG n) n
theorem M0(n:Nat)(qd cond_holds':(zh×Int)×Int×List Bool->Option (Bool×Int))(h_cond_holds: ∀z,Le (qd z) (cond_holds' z))(x:(zh×Int)×Int×List Bool):Le (gG n qd x) (Aq cond_holds' x):=by unfold gG Aq;exact(.bif .rfl (.bif .rfl (.bif .rfl (.bif (.bind .rfl fun _=> .rfl) (.bif .rfl (.loop (fun _=>(.bif (.bind .rfl fun _=>(.bind (h_cond_holds _) fun _=> .rfl)) .rfl)) fun _=>(.bif .rfl (.bif .rfl .rfl))))))))
theorem bY(n:Nat)(x:(zh×Int)×Int×List Bool):Le (VM n x) (qd x):=Le.rec (fun S S' h x=>M0 n S S' h x) n x
def vF(n:Nat)(x:zh×VEnv×List Bool):Option (Bool×Int):=
 zb (Vu n (⟨x.1.kind,x.1.name,x.1.num,x.1.decl,x.1.list⟩:zh)) fun y1=>
 bif y1 != 0 then
  some (false,y1)
 else
  zb (zo (!(bif decide (x.2.1.width<0)then true else decide (x.2.1.width>1000000000))) (Kz n (⟨x.1.kind,x.1.name,x.1.num,x.1.decl,x.1.list⟩:zh)) (default:List zA)) fun y2=>
  bif bif bif decide (x.2.1.width<0)then true else decide (x.2.1.width>1000000000)then true else(x.2.2.length:Int) != (y2.length:Int)then
   some (false,2)
  else
   zb (VM n (((⟨x.1.kind,x.1.name,x.1.num,x.1.decl,x.1.list⟩:zh),w64 (1000*x.2.1.width)),0,x.2.2)) fun y3=>
   some (y3.1,0)
theorem eY(n:Nat)(x:zh×VEnv×List Bool):Le (vF n x) (Yi x):=by unfold vF Yi;exact(.bind (iF n _) fun _=>(.bif .rfl (.bind (.cond (gF n _)) fun _=>(.bif .rfl (.bind (bY n _) fun _=> .rfl)))))
def RG(n:Nat)(x:Str×Int):Option (List UInt8):=
 ZI n (fun(s1:Int×List UInt8)=>
   bif decide (s1.1<(x.1.length:Int))then
    zD (X:=Int×List UInt8) (
      zb (geti x.1 s1.1) fun y2=>
      zb (Yh (y2.toNat:Int)) fun y3=>
      zb (zo (!(decide (s1.1>=x.2))&&y3) (qf (y2.toNat:Int)) (default:Bool)) fun y4=>
      bif bif bif y3 then bif decide (s1.1>=x.2)then true else !y4 else false then bif x.2==0 then true else !(x.1==[45])else false then
       zb (ZQ (y2.toNat:Int)) fun y5=>
       need (zR s1.2.length 1 1)<|
       some (LX.out (s1.1,s1.2++[y5]))
      else
       zb (Zv ((y2.toNat:Int),s1.2)) fun y6=>
       some (LX.out (s1.1,y6))) fun j7=>
    some (LO.again (w64 (j7.1+1),j7.2))
   else
    some (LO.out s1.2):Int×List UInt8->Option (LO (Int×List UInt8) (List UInt8) _)) (0,[]) fun o8=>
 some o8
theorem wZ(n:Nat)(x:Str×Int):Le (RG n x) (Nu x):=by unfold RG Nu;exact(.loop (fun _=>(.bif (.join (.bind .rfl fun _=>(.bind .rfl fun _=>(.bind .rfl fun _=>(.bif (.bind .rfl fun _=>(.need .rfl)) (.bind .rfl fun _=> .rfl))))) fun _=> .rfl) .rfl)) fun _=> .rfl)
def wy(n:Nat)(x:Str):Option (Str×Int):=
 zb (zo (!(x==[])) (strings_IndexByte (x,0)) (default:Int)) fun y1=>
 bif bif x==[]then true else decide (y1>=0)then
  some ([],8)
 else
  zb (qx x) fun y2=>
  zb (RG n (x,y2)) fun y3=>
  bif bif decide ((x.length:Int)>4000)then true else decide ((y3.length:Int)>4000)then
   some ([],28)
  else
   some (y3,0)
theorem KN(n:Nat)(x:Str):Le (wy n x) (Kl x):=by unfold wy Kl;exact(.bind .rfl fun _=>(.bif .rfl (.bind .rfl fun _=>(.bind (wZ n _) fun _=>(.bif .rfl .rfl)))))
def SG(n:Nat)(x:Int):Option (Str×Int):=
 zb (Sz n [x]) fun y1=>
 bif y1 != 0 then
  some ([],y1)
 else
  zD (X:=Int) (
    bif decide (x<0)then
     some (LX.out (w64 (0 - x)))
    else
     some (LX.out x)) fun j2=>
  ZI n (fun(s3:(Int×Int)×List UInt8×Int)=>
    bif decide (s3.1.2<3)then
     zD (X:=(Int×Int)×List UInt8×Int) (
       zD (X:=Int×List UInt8×Int) (
         bif bif Int.tmod s3.1.1 10 != 0 then true else decide (s3.2.2<20)then
          zb (qC (wu8 (w64 (48+Int.tmod s3.1.1 10)),s3.2.2,s3.2.1)) fun y4=>
          some (LX.out (s3.1.1,y4.2,y4.1))
         else
          some (LX.out (s3.1.1,s3.2.1,s3.2.2))) fun j5=>
       bif bif s3.1.2==2 then decide (j5.2.2<20)else false then
        zb (qC (46,j5.2.2,j5.2.1)) fun y6=>
        some (LX.out ((w64 (Int.tdiv j5.1 10),s3.1.2),y6.2,y6.1))
       else
        some (LX.out ((w64 (Int.tdiv j5.1 10),s3.1.2),j5.2.1,j5.2.2))) fun j7=>
     some (LO.again ((j7.1.1,w64 (j7.1.2+1)),j7.2.1,j7.2.2))
    else
     some (LO.out (s3.2.1,s3.2.2)):(Int×Int)×List UInt8×Int->Option (LO ((Int×Int)×List UInt8×Int) (List UInt8×Int) _)) ((Int.tmod j2 1000,0),List.replicate 20 (0:UInt8),20) fun o8=>
  ZI n (fun(s9:Int×List UInt8×Int)=>
    zb (qC (wu8 (w64 (48+Int.tmod s9.1 10)),s9.2.2,s9.2.1)) fun y10=>
    bif decide (s9.1<10)then
     some (LO.out (y10.2,y10.1))
    else
     some (LO.again (w64 (Int.tdiv s9.1 10),y10.2,y10.1)):Int×List UInt8×Int->Option (LO (Int×List UInt8×Int) (List UInt8×Int) _)) (w64 (Int.tdiv j2 1000),o8.1,o8.2) fun o11=>
  zD (X:=List UInt8×Int) (
    bif decide (x<0)then
     zb (qC (45,o11.2,o11.1)) fun y12=>
     some (LX.out (y12.2,y12.1))
    else
     some (LX.out (o11.1,o11.2))) fun j13=>
  need (decide (0<=j13.2)&&decide (j13.2<=20)&&Nat.beq j13.1.length 20)<|
  need (decide (j13.2.toNat+(20 - j13.2.toNat)<=j13.1.length))<|
  some (List.take (20 - j13.2.toNat) (List.drop j13.2.toNat j13.1),0)
theorem xZ(n:Nat)(x:Int):Le (SG n x) (Ru x):=by unfold SG Ru;exact(.bind (JP n _) fun _=>(.bif .rfl (.join (.bif .rfl .rfl) fun _=>(.loop (fun _=>(.bif (.join (.join (.bif (.bind .rfl fun _=> .rfl) .rfl) fun _=>(.bif (.bind .rfl fun _=> .rfl) .rfl)) fun _=> .rfl) .rfl)) fun _=>(.loop (fun _=>(.bind .rfl fun _=>(.bif .rfl .rfl))) fun _=>(.join (.bif (.bind .rfl fun _=> .rfl) .rfl) fun _=>(.need (.need .rfl))))))))
def xy(n:Nat)(zW:zh->Option Str)(x:List zh×Str):Option Str:=
 ZI n (fun(s1:Int×List Str)=>
   bif decide (s1.1<(x.1.length:Int))then
    zb (geti x.1 s1.1) fun y2=>
    zb (zW (⟨y2.kind,y2.name,y2.num,y2.decl,y2.list⟩:zh)) fun y3=>
    need (zR s1.2.length 1 16)<|
    some (LO.again (w64 (s1.1+1),s1.2++[y3]))
   else
    some (LO.out s1.2):Int×List Str->Option (LO (Int×List Str) (List Str) _)) (0,[]) fun o4=>
 zb (lh (o4,x.2)) fun y5=>
 some y5
theorem MN(n:Nat)(zW cond_media':zh->Option Str)(h_cond_media: ∀z,Le (zW z) (cond_media' z))(x:List zh×Str):Le (xy n zW x) (Vo cond_media' x):=by unfold xy Vo;exact(.loop (fun _=>(.bif (.bind .rfl fun _=>(.bind (h_cond_media _) fun _=>(.need .rfl))) .rfl)) fun _=>(.bind .rfl fun _=> .rfl))
def fG(n:Nat)(zW:zh->Option Str)(x:zh):Option Str:=
 bif x.kind==4 then
  zb (wy n x.name) fun y1=>
  some y1.1
 else
  bif x.kind==3 then
   zb (geti x.list 0) fun y2=>
   zb (zW (⟨y2.kind,y2.name,y2.num,y2.decl,y2.list⟩:zh)) fun y3=>
   need (qZ ([110,111,116,32]:Str).length y3.length)<|
   some (([110,111,116,32]:Str)++y3)
  else
   bif x.kind==2 then
    zb (xy n zW (x.list,[44,32])) fun y4=>
    some y4
   else
    bif x.kind==1 then
     zb (xy n zW (x.list,[32,97,110,100,32])) fun y5=>
     some y5
    else
     zb (SG n x.num) fun y6=>
     bif x.kind==5 then
      need (qZ ([40,109,105,110,45,119,105,100,116,104,58,32]:Str).length y6.1.length)<|
      need (qZ (([40,109,105,110,45,119,105,100,116,104,58,32]:Str)++y6.1).length ([112,120,41]:Str).length)<|
      some (([40,109,105,110,45,119,105,100,116,104,58,32]:Str)++y6.1++([112,120,41]:Str))
     else
      need (qZ ([40,109,97,120,45,119,105,100,116,104,58,32]:Str).length y6.1.length)<|
      need (qZ (([40,109,97,120,45,119,105,100,116,104,58,32]:Str)++y6.1).length ([112,120,41]:Str).length)<|
      some (([40,109,97,120,45,119,105,100,116,104,58,32]:Str)++y6.1++([112,120,41]:Str))
def UM(n:Nat):zh->Option Str:=Df (fG n) n
theorem yZ(n:Nat)(zW cond_media':zh->Option Str)(h_cond_media: ∀z,Le (zW z) (cond_media' z))(x:zh):Le (fG n zW x) (Uu cond_media' x):=by unfold fG Uu;exact(.bif (.bind (KN n _) fun _=> .rfl) (.bif (.bind .rfl fun _=>(.bind (h_cond_media _) fun _=>(.need .rfl))) (.bif (.bind (MN n _ _ h_cond_media _) fun _=> .rfl) (.bif (.bind (MN n _ _ h_cond_media _) fun _=> .rfl) (.bind (xZ n _) fun _=>(.bif (.need (.need .rfl)) (.need (.need .rfl))))))))
theorem aY(n:Nat)(x:zh):Le (UM n x) (zW x):=Le.rec (fun S S' h x=>yZ n S S' h x) n x
def QM(n:Nat)(x:(Str×Int)×List UInt8):Option (List UInt8):=
 ZI n (fun(s1:Int×List UInt8)=>
   bif decide (s1.1<(x.1.1.length:Int))then
    zD (X:=Int×List UInt8) (
      zb (geti x.1.1 s1.1) fun y2=>
      zb (Yh (y2.toNat:Int)) fun y3=>
      zb (zo (!(decide (s1.1>=x.1.2))&&y3) (qf (y2.toNat:Int)) (default:Bool)) fun y4=>
      bif bif bif y3 then bif decide (s1.1>=x.1.2)then true else !y4 else false then bif x.1.2==0 then true else !(x.1.1==[45])else false then
       zb (ZQ (y2.toNat:Int)) fun y5=>
       need (zR s1.2.length 1 1)<|
       some (LX.out (s1.1,s1.2++[y5]))
      else
       zb (Zv ((y2.toNat:Int),s1.2)) fun y6=>
       some (LX.out (s1.1,y6))) fun j7=>
    some (LO.again (w64 (j7.1+1),j7.2))
   else
    some (LO.out s1.2):Int×List UInt8->Option (LO (Int×List UInt8) (List UInt8) _)) (0,x.2) fun o8=>
 some o8
theorem Nq(n:Nat)(x:(Str×Int)×List UInt8):Le (QM n x) (QZ x):=by unfold QM QZ;exact(.loop (fun _=>(.bif (.join (.bind .rfl fun _=>(.bind .rfl fun _=>(.bind .rfl fun _=>(.bif (.bind .rfl fun _=>(.need .rfl)) (.bind .rfl fun _=> .rfl))))) fun _=> .rfl) .rfl)) fun _=> .rfl)
def PG(n:Nat)(x:zf×List UInt8):Option (List UInt8):=
 bif x.1.kind==1 then
  zb (qx x.1.text) fun y1=>
  zb (QM n ((x.1.text,y1),x.2)) fun y2=>
  some y2
 else
  bif x.1.kind==2 then
   zb (qx x.1.text) fun y3=>
   zb (QM n ((x.1.text,y3),x.2)) fun y4=>
   need (zR y4.length 1 1)<|
   some (y4++[(40:UInt8)])
  else
   bif x.1.kind==3 then
    need (zR x.2.length 1 1)<|
    zb (qx x.1.text) fun y5=>
    zb (QM n ((x.1.text,y5),x.2++[(64:UInt8)])) fun y6=>
    some y6
   else
    bif x.1.kind==4 then
     zD (X:=Int×List UInt8) (
       bif x.1.flag then
        zb (qx x.1.text) fun y7=>
        some (LX.out (y7,x.2))
       else
        some (LX.out (0,x.2))) fun j8=>
     need (zR j8.2.length 1 1)<|
     zb (QM n ((x.1.text,j8.1),j8.2++[(35:UInt8)])) fun y9=>
     some y9
    else
     bif x.1.kind==5 then
      need (zR x.2.length 1 1)<|
      need (decide (x.1.text.length<=maxLen))<|
      ZI n (fun(s10:Int×List UInt8)=>
        bif decide (s10.1<(x.1.text.length:Int))then
         zD (X:=Int×List UInt8) (
           need (decide (0<=s10.1)&&decide (s10.1<(x.1.text.length:Int)))<|
           zb x.1.text[s10.1.toNat]? fun y11=>
           zb (strings_IndexByte ([10,12,13,34,92],(y11.toNat:Int))) fun y12=>
           bif decide (y12>=0)then
            zb (Zv ((y11.toNat:Int),s10.2)) fun y13=>
            some (LX.out (s10.1,y13))
           else
            zb (ZQ (y11.toNat:Int)) fun y14=>
            need (zR s10.2.length 1 1)<|
            some (LX.out (s10.1,s10.2++[y14]))) fun j15=>
         some (LO.again (w64 (j15.1+1),j15.2))
        else
         some (LO.out s10.2):Int×List UInt8->Option (LO (Int×List UInt8) (List UInt8) _)) (0,x.2++[(34:UInt8)]) fun o16=>
      need (zR o16.length 1 1)<|
      some (o16++[(34:UInt8)])
     else
      bif x.1.kind==7 then
       need (zR x.2.length ([117,114,108,40]:Str).length 1)<|
       need (decide (x.1.text.length<=maxLen))<|
       ZI n (fun(s17:Int×List UInt8)=>
         bif decide (s17.1<(x.1.text.length:Int))then
          zD (X:=Int×List UInt8) (
            need (decide (0<=s17.1)&&decide (s17.1<(x.1.text.length:Int)))<|
            zb x.1.text[s17.1.toNat]? fun y18=>
            zb (zo (!(decide ((y18.toNat:Int)<=32))) (strings_IndexByte ([34,39,40,41,92,127],(y18.toNat:Int))) (default:Int)) fun y19=>
            bif bif decide ((y18.toNat:Int)<=32)then true else decide (y19>=0)then
             zb (Zv ((y18.toNat:Int),s17.2)) fun y20=>
             some (LX.out (s17.1,y20))
            else
             zb (ZQ (y18.toNat:Int)) fun y21=>
             need (zR s17.2.length 1 1)<|
             some (LX.out (s17.1,s17.2++[y21]))) fun j22=>
          some (LO.again (w64 (j22.1+1),j22.2))
         else
          some (LO.out s17.2):Int×List UInt8->Option (LO (Int×List UInt8) (List UInt8) _)) (0,x.2++([117,114,108,40]:Str)) fun o23=>
       need (zR o23.length 1 1)<|
       some (o23++[(41:UInt8)])
      else
       bif x.1.kind==9 then
        need (zR x.2.length x.1.text.length 1)<|
        some (x.2++x.1.text)
       else
        bif x.1.kind==10 then
         zb (QN ((x.1.num, !x.1.flag),x.2)) fun y24=>
         some y24
        else
         bif x.1.kind==11 then
          zb (QN ((x.1.num,false),x.2)) fun y25=>
          need (zR y25.length 1 1)<|
          some (y25++[(37:UInt8)])
         else
          bif x.1.kind==12 then
           zb (QN ((x.1.num, !x.1.flag),x.2)) fun y26=>
           zb (geti x.1.unit 0) fun y27=>
           need (decide (1<=(x.1.unit.length:Int))|| !(ibOr IntKind.u8 (y27.toNat:Int) 32==101))<|
           zb (zo (ibOr IntKind.u8 (y27.toNat:Int) 32==101) (Yj (List.drop 1 x.1.unit)) (default:Bool)) fun y28=>
           need (decide (1<=(x.1.unit.length:Int))|| !(bif ibOr IntKind.u8 (y27.toNat:Int) 32==101 then y28 else false))<|
           zb (zo (bif ibOr IntKind.u8 (y27.toNat:Int) 32==101 then y28 else false) (strings_HasPrefix (List.drop 1 x.1.unit,[45,45])) (default:Bool)) fun y29=>
           bif bif bif ibOr IntKind.u8 (y27.toNat:Int) 32==101 then y28 else false then !y29 else false then
            zb (geti x.1.unit 0) fun y30=>
            zb (Zv ((y30.toNat:Int),y26)) fun y31=>
            need (decide (1<=(x.1.unit.length:Int)))<|
            zb (QM n ((List.drop 1 x.1.unit,0),y31)) fun y32=>
            some y32
           else
            zb (qx x.1.unit) fun y33=>
            zb (QM n ((x.1.unit,y33),y26)) fun y34=>
            some y34
          else
           zb (ay ()) fun y35=>
           zb (geti [y35.e0,y35.e1,y35.e2,y35.e3,y35.e4,y35.e5,y35.e6,y35.e7,y35.e8,y35.e9,y35.e10,y35.e11] (wu8 (x.1.kind - 13))) fun y36=>
           need (zR x.2.length y36.length 1)<|
           some (x.2++y36)
theorem vZ(n:Nat)(x:zf×List UInt8):Le (PG n x) (Lu x):=by unfold PG Lu;exact(.bif (.bind .rfl fun _=>(.bind (Nq n _) fun _=> .rfl)) (.bif (.bind .rfl fun _=>(.bind (Nq n _) fun _=>(.need .rfl))) (.bif (.need (.bind .rfl fun _=>(.bind (Nq n _) fun _=> .rfl))) (.bif (.join (.bif (.bind .rfl fun _=> .rfl) .rfl) fun _=>(.need (.bind (Nq n _) fun _=> .rfl))) (.bif (.need (.need (.loop (fun _=>(.bif (.join (.need (.bind .rfl fun _=>(.bind .rfl fun _=>(.bif (.bind .rfl fun _=> .rfl) (.bind .rfl fun _=>(.need .rfl)))))) fun _=> .rfl) .rfl)) fun _=>(.need .rfl)))) (.bif (.need (.need (.loop (fun _=>(.bif (.join (.need (.bind .rfl fun _=>(.bind .rfl fun _=>(.bif (.bind .rfl fun _=> .rfl) (.bind .rfl fun _=>(.need .rfl)))))) fun _=> .rfl) .rfl)) fun _=>(.need .rfl)))) (.bif (.need .rfl) (.bif (.bind .rfl fun _=> .rfl) (.bif (.bind .rfl fun _=>(.need .rfl)) (.bif (.bind .rfl fun _=>(.bind .rfl fun _=>(.need (.bind .rfl fun _=>(.need (.bind .rfl fun _=>(.bif (.bind .rfl fun _=>(.bind .rfl fun _=>(.need (.bind (Nq n _) fun _=> .rfl)))) (.bind .rfl fun _=>(.bind (Nq n _) fun _=> .rfl))))))))) (.bind .rfl fun _=>(.bind .rfl fun _=>(.need .rfl)))))))))))))
def qQ(n:Nat)(x:za):Option za:=
 ZI n (fun(s1:za)=>
   need (decide (0<=s1.at_)&&decide (s1.at_<=(s1.s.length:Int)))<|
   zb (strings_HasPrefix (List.drop s1.at_.toNat s1.s,[47,42])) fun y2=>
   bif y2 then
    need (decide (0<=w64 (s1.at_+2))&&decide (w64 (s1.at_+2)<=(s1.s.length:Int)))<|
    zb (Ej (List.drop (w64 (s1.at_+2)).toNat s1.s,[42,47])) fun y3=>
    bif decide (y3<0)then
     some (LO.ret (⟨s1.s,(s1.s.length:Int)⟩:za))
    else
     some (LO.again (⟨s1.s,w64 (s1.at_+w64 (y3+4))⟩:za))
   else
    some (LO.out s1):za->Option (LO (za) (za) _)) x fun o4=>
 some o4
theorem BR(n:Nat)(x:za):Le (qQ n x) (ZO x):=by unfold qQ ZO;exact(.loop (fun _=>(.need (.bind .rfl fun _=>(.bif (.need (.bind .rfl fun _=>(.bif .rfl .rfl))) .rfl)))) fun _=> .rfl)
def ZZ(n:Nat)(x:za):Option za:=
 ZI n (fun(s1:za)=>
   zb (zg (0,s1)) fun y2=>
   zb (ZK y2) fun y3=>
   bif y3 then
    some (LO.again (⟨s1.s,w64 (s1.at_+1)⟩:za))
   else
    some (LO.out s1):za->Option (LO (za) (za) _)) x fun o4=>
 some o4
theorem Qy(n:Nat)(x:za):Le (ZZ n x) (Zg x):=by unfold ZZ Zg;exact(.loop (fun _=>(.bind .rfl fun _=>(.bind .rfl fun _=>(.bif .rfl .rfl)))) fun _=> .rfl)
def Q8(n:Nat)(x:za):Option (za×List UInt8):=
 zb (zg (0,(⟨x.s,w64 (x.at_+1)⟩:za))) fun y1=>
 bif y1==(-1)then
  zb (Qj 65533) fun y2=>
  some ((⟨x.s,w64 (x.at_+1)⟩:za),y2)
 else
  zb (Vh y1) fun y3=>
  bif decide (y3<0)then
   zb (ZQ (wu8 y1)) fun y4=>
   need (zR 0 1 1)<|
   some ((⟨x.s,w64 (w64 (x.at_+1)+1)⟩:za),[y4])
  else
   ZI n (fun(s5:(Int×Int)×za)=>
     bif decide (s5.1.2<6)then
      zb (zg (0,s5.2)) fun y6=>
      zb (Vh y6) fun y7=>
      bif decide (y7<0)then
       some (LO.out (s5.1.1,s5.2))
      else
       some (LO.again ((ibOr IntKind.i64 (jv IntKind.i64 s5.1.1 4) y7,w64 (s5.1.2+1)),(⟨s5.2.s,w64 (s5.2.at_+1)⟩:za)))
     else
      some (LO.out (s5.1.1,s5.2)):(Int×Int)×za->Option (LO ((Int×Int)×za) (Int×za) _)) ((0,0),(⟨x.s,w64 (x.at_+1)⟩:za)) fun o8=>
   zD (X:=Int×za) (
     zb (zg (0,o8.2)) fun y9=>
     zb (ZK y9) fun y10=>
     bif y10 then
      some (LX.out (o8.1,(⟨o8.2.s,w64 (o8.2.at_+1)⟩:za)))
     else
      some (LX.out (o8.1,o8.2))) fun j11=>
   zD (X:=Int) (
     bif j11.1==0 then
      some (LX.out 65533)
     else
      some (LX.out j11.1)) fun j12=>
   zb (Qj (w32 j12)) fun y13=>
   some (j11.2,y13)
theorem zfv(n:Nat)(x:za):Le (Q8 n x) (qb x):=by unfold Q8 qb;exact(.bind .rfl fun _=>(.bif (.bind .rfl fun _=> .rfl) (.bind .rfl fun _=>(.bif (.bind .rfl fun _=>(.need .rfl)) (.loop (fun _=>(.bif (.bind .rfl fun _=>(.bind .rfl fun _=>(.bif .rfl .rfl))) .rfl)) fun _=>(.join (.bind .rfl fun _=>(.bind .rfl fun _=>(.bif .rfl .rfl))) fun _=>(.join (.bif .rfl .rfl) fun _=>(.bind .rfl fun _=> .rfl))))))))
def ZP(n:Nat)(x:za×List UInt8):Option (za×List UInt8):=
 zb (zg (0,(⟨x.1.s,w64 (x.1.at_+1)⟩:za))) fun y1=>
 bif y1==(-1)then
  zb (Qk (65533,x.2)) fun y2=>
  some ((⟨x.1.s,w64 (x.1.at_+1)⟩:za),y2)
 else
  zb (Vh y1) fun y3=>
  bif decide (y3<0)then
   zb (ZQ (wu8 y1)) fun y4=>
   need (zR x.2.length 1 1)<|
   some ((⟨x.1.s,w64 (w64 (x.1.at_+1)+1)⟩:za),x.2++[y4])
  else
   ZI n (fun(s5:(Int×Int)×za)=>
     bif decide (s5.1.2<6)then
      zb (zg (0,s5.2)) fun y6=>
      zb (Vh y6) fun y7=>
      bif decide (y7<0)then
       some (LO.out (s5.1.1,s5.2))
      else
       some (LO.again ((ibOr IntKind.i64 (jv IntKind.i64 s5.1.1 4) y7,w64 (s5.1.2+1)),(⟨s5.2.s,w64 (s5.2.at_+1)⟩:za)))
     else
      some (LO.out (s5.1.1,s5.2)):(Int×Int)×za->Option (LO ((Int×Int)×za) (Int×za) _)) ((0,0),(⟨x.1.s,w64 (x.1.at_+1)⟩:za)) fun o8=>
   zD (X:=Int×za×List UInt8) (
     zb (zg (0,o8.2)) fun y9=>
     zb (ZK y9) fun y10=>
     bif y10 then
      some (LX.out (o8.1,(⟨o8.2.s,w64 (o8.2.at_+1)⟩:za),x.2))
     else
      some (LX.out (o8.1,o8.2,x.2))) fun j11=>
   zD (X:=Int×List UInt8) (
     bif j11.1==0 then
      some (LX.out (65533,j11.2.2))
     else
      some (LX.out (j11.1,j11.2.2))) fun j12=>
   zb (Qk (w32 j12.1,j12.2)) fun y13=>
   some (j11.2.1,y13)
theorem QA(n:Nat)(x:za×List UInt8):Le (ZP n x) (z8 x):=by unfold ZP z8;exact(.bind .rfl fun _=>(.bif (.bind .rfl fun _=> .rfl) (.bind .rfl fun _=>(.bif (.bind .rfl fun _=>(.need .rfl)) (.loop (fun _=>(.bif (.bind .rfl fun _=>(.bind .rfl fun _=>(.bif .rfl .rfl))) .rfl)) fun _=>(.join (.bind .rfl fun _=>(.bind .rfl fun _=>(.bif .rfl .rfl))) fun _=>(.join (.bif .rfl .rfl) fun _=>(.bind .rfl fun _=> .rfl))))))))
def dH(n:Nat)(x:za):Option (zf×za):=
 zb (zg (0,x)) fun y1=>
 ZI n (fun(s2:za×zf×List UInt8)=>
   zb (zg (0,s2.1)) fun y3=>
   bif y3==(-1)then
    some (LO.out (s2.1,s2.2.1,s2.2.2))
   else
    bif y3==y1 then
     some (LO.out ((⟨s2.1.s,w64 (s2.1.at_+1)⟩:za),s2.2.1,s2.2.2))
    else
     bif y3==10 then
      some (LO.ret ((⟨6,[],0,[],false⟩:zf),s2.1))
     else
      zb (zo (y3==92) (zg (1,s2.1)) (default:Int)) fun y4=>
      zb (zo (!(y4==(-1))&&y3==92) (zg (1,s2.1)) (default:Int)) fun y5=>
      bif bif y3==92 then bif y4==(-1)then true else y5==10 else false then
       some (LO.again ((⟨s2.1.s,if(s2.1.s.length:Int)<w64 (s2.1.at_+2)then(s2.1.s.length:Int)else w64 (s2.1.at_+2)⟩:za),s2.2.1,s2.2.2))
      else
       bif y3==92 then
        zb (ZP n (s2.1,s2.2.2)) fun y6=>
        some (LO.again (y6.1,s2.2.1,y6.2))
       else
        zb (ZQ (wu8 y3)) fun y7=>
        need (zR s2.2.2.length 1 1)<|
        some (LO.again ((⟨s2.1.s,w64 (s2.1.at_+1)⟩:za),s2.2.1,s2.2.2++[y7])):za×zf×List UInt8->Option (LO (za×zf×List UInt8) (za×zf×List UInt8) _)) ((⟨x.s,w64 (x.at_+1)⟩:za),(⟨0,[],0,[],false⟩:zf),[]) fun o8=>
 some ((⟨5,o8.2.2,0,[],false⟩:zf),o8.1)
theorem W9(n:Nat)(x:za):Le (dH n x) (Qa x):=by unfold dH Qa;exact(.bind .rfl fun _=>(.loop (fun _=>(.bind .rfl fun _=>(.bif .rfl (.bif .rfl (.bif .rfl (.bind .rfl fun _=>(.bind .rfl fun _=>(.bif .rfl (.bif (.bind (QA n _) fun _=> .rfl) (.bind .rfl fun _=>(.need .rfl))))))))))) fun _=> .rfl))
def qi(n:Nat)(x:za):Option (Str×za):=
 ZI n (fun(s1:za×List UInt8)=>
   zb (zg (0,s1.1)) fun y2=>
   zb (Vl y2) fun y3=>
   bif y3 then
    zb (ZQ (wu8 y2)) fun y4=>
    need (zR s1.2.length 1 1)<|
    some (LO.again ((⟨s1.1.s,w64 (s1.1.at_+1)⟩:za),s1.2++[y4]))
   else
    zb (zo (y2 != (-1)) (zM (0,s1.1)) (default:Bool)) fun y5=>
    bif bif y2 != (-1)then y5 else false then
     zb (ZP n (s1.1,s1.2)) fun y6=>
     some (LO.again (y6.1,y6.2))
    else
     some (LO.ret (s1.2,s1.1)):za×List UInt8->Option (LO (za×List UInt8) (Unit) _)) (x,[]) fun o7=>
 none
theorem QP(n:Nat)(x:za):Le (qi n x) (Zj x):=by unfold qi Zj;exact(.loop (fun _=>(.bind .rfl fun _=>(.bind .rfl fun _=>(.bif (.bind .rfl fun _=>(.need .rfl)) (.bind .rfl fun _=>(.bif (.bind (QA n _) fun _=> .rfl) .rfl)))))) fun _=> .none)
def qc(n:Nat)(x:za):Option za:=
 ZI n (fun(s1:za)=>
   zb (zg (0,s1)) fun y2=>
   zb (ZV y2) fun y3=>
   bif y3 then
    some (LO.again (⟨s1.s,w64 (s1.at_+1)⟩:za))
   else
    some (LO.out s1):za->Option (LO (za) (za) _)) x fun o4=>
 some o4
theorem aH(n:Nat)(x:za):Le (qc n x) (ZE x):=by unfold qc ZE;exact(.loop (fun _=>(.bind .rfl fun _=>(.bind .rfl fun _=>(.bif .rfl .rfl)))) fun _=> .rfl)
def gH(n:Nat)(x:za):Option (Bool×za):=
 zD (X:=za) (
   zb (zg (0,x)) fun y1=>
   bif bif y1==43 then true else y1==45 then
    some (LX.out (⟨x.s,w64 (x.at_+1)⟩:za))
   else
    some (LX.out x)) fun j2=>
 zb (qc n j2) fun y3=>
 zD (X:=Bool×za) (
   zb (zg (0,y3)) fun y4=>
   zb (zo (y4==46) (zg (1,y3)) (default:Int)) fun y5=>
   zb (zo (y4==46) (ZV y5) (default:Bool)) fun y6=>
   bif bif y4==46 then y6 else false then
    zb (qc n (⟨y3.s,w64 (y3.at_+1)⟩:za)) fun y7=>
    some (LX.out (false,y7))
   else
    some (LX.out (true,y3))) fun j8=>
 zD (X:=Bool×za) (
   zb (zg (0,j8.2)) fun y9=>
   zb (zo (!(y9==101)) (zg (0,j8.2)) (default:Int)) fun y10=>
   bif bif y9==101 then true else y10==69 then
    zD (X:=(Bool×Int)×za) (
      zb (zg (1,j8.2)) fun y11=>
      bif bif y11==43 then true else y11==45 then
       some (LX.out ((j8.1,2),j8.2))
      else
       some (LX.out ((j8.1,1),j8.2))) fun j12=>
    zb (zg (j12.1.2,j12.2)) fun y13=>
    zb (ZV y13) fun y14=>
    bif y14 then
     zb (qc n (⟨j12.2.s,w64 (j12.2.at_+j12.1.2)⟩:za)) fun y15=>
     some (LX.out (false,y15))
    else
     some (LX.out (j12.1.1,j12.2))
   else
    some (LX.out (j8.1,j8.2))) fun j16=>
 some (j16.1,j16.2)
theorem zgx(n:Nat)(x:za):Le (gH n x) (qH x):=by unfold gH qH;exact(.join (.bind .rfl fun _=>(.bif .rfl .rfl)) fun _=>(.bind (aH n _) fun _=>(.join (.bind .rfl fun _=>(.bind .rfl fun _=>(.bind .rfl fun _=>(.bif (.bind (aH n _) fun _=> .rfl) .rfl)))) fun _=>(.join (.bind .rfl fun _=>(.bind .rfl fun _=>(.bif (.join (.bind .rfl fun _=>(.bif .rfl .rfl)) fun _=>(.bind .rfl fun _=>(.bind .rfl fun _=>(.bif (.bind (aH n _) fun _=> .rfl) .rfl)))) .rfl))) fun _=> .rfl))))
def xG(n:Nat)(x:Str):Option Int:=
 zb (geti x 0) fun y1=>
 zb (Tk (x,[43,45])) fun y2=>
 zD (X:=Str×Int) (
   zb (Ws (y2,[101,69])) fun y3=>
   bif decide (y3>=0)then
    need (decide (0<=w64 (y3+1))&&decide (w64 (y3+1)<=(y2.length:Int)))<|
    zb (Tk (List.drop (w64 (y3+1)).toNat y2,[43,45])) fun y4=>
    need (decide (y4.length<=maxLen))<|
    ZI n (fun(s5:Int×Int)=>
      bif decide (s5.2<(y4.length:Int))then
       need (decide (0<=s5.2)&&decide (s5.2<(y4.length:Int)))<|
       zb y4[s5.2.toNat]? fun y6=>
       some (LO.again (if 1048576<w64 (w64 (10*s5.1)+w64 (wu8 ((y6.toNat:Int) - 48)))then 1048576 else w64 (w64 (10*s5.1)+w64 (wu8 ((y6.toNat:Int) - 48))),w64 (s5.2+1)))
      else
       some (LO.out s5.1):Int×Int->Option (LO (Int×Int) (Int) _)) (0,0) fun o7=>
    zD (X:=Str×Int×Int) (
      zb (geti y2 (w64 (y3+1))) fun y8=>
      bif (y8.toNat:Int)==45 then
       some (LX.out (y2,3,w64 (0 - o7)))
      else
       some (LX.out (y2,3,o7))) fun j9=>
    need (decide (0<=y3)&&decide (y3<=(j9.1.length:Int)))<|
    some (LX.out (List.take y3.toNat j9.1,w64 (j9.2.1+j9.2.2)))
   else
    some (LX.out (y2,3))) fun j10=>
 zb (cutF (j10.1,[46])) fun y11=>
 need (qZ y11.1.length y11.2.1.length)<|
 zD (X:=Str×Int) (
   bif decide (w64 (j10.2 - (y11.2.1.length:Int))<0)then
    need (decide (0<=(if w64 (((y11.1++y11.2.1).length:Int)+w64 (j10.2 - (y11.2.1.length:Int)))>0 then w64 (((y11.1++y11.2.1).length:Int)+w64 (j10.2 - (y11.2.1.length:Int)))else 0))&&decide ((if w64 (((y11.1++y11.2.1).length:Int)+w64 (j10.2 - (y11.2.1.length:Int)))>0 then w64 (((y11.1++y11.2.1).length:Int)+w64 (j10.2 - (y11.2.1.length:Int)))else 0)<=((y11.1++y11.2.1).length:Int)))<|
    some (LX.out (List.take (if w64 (((y11.1++y11.2.1).length:Int)+w64 (j10.2 - (y11.2.1.length:Int)))>0 then w64 (((y11.1++y11.2.1).length:Int)+w64 (j10.2 - (y11.2.1.length:Int)))else 0).toNat (y11.1++y11.2.1),w64 (j10.2 - (y11.2.1.length:Int))))
   else
    some (LX.out (y11.1++y11.2.1,w64 (j10.2 - (y11.2.1.length:Int))))) fun j12=>
 need (decide (j12.1.length<=maxLen))<|
 ZI n (fun(s13:Int×Int)=>
   bif decide (s13.2<(j12.1.length:Int))then
    need (decide (0<=s13.2)&&decide (s13.2<(j12.1.length:Int)))<|
    zb j12.1[s13.2.toNat]? fun y14=>
    some (LO.again (if 1000000000000<w64 (w64 (10*s13.1)+w64 (wu8 ((y14.toNat:Int) - 48)))then 1000000000000 else w64 (w64 (10*s13.1)+w64 (wu8 ((y14.toNat:Int) - 48))),w64 (s13.2+1)))
   else
    some (LO.out s13.1):Int×Int->Option (LO (Int×Int) (Int) _)) (0,0) fun o15=>
 ZI n (fun(s16:Int×Int)=>
   bif bif bif decide (s16.1>0)then decide (s16.2>0)else false then decide (s16.2<1000000000000)else false then
    some (LO.again (w64 (s16.1 - 1),if 1000000000000<w64 (10*s16.2)then 1000000000000 else w64 (10*s16.2)))
   else
    some (LO.out s16.2):Int×Int->Option (LO (Int×Int) (Int) _)) (j12.2,o15) fun o17=>
 zD (X:=Int) (
   bif (y1.toNat:Int)==45 then
    some (LX.out (w64 (0 - o17)))
   else
    some (LX.out o17)) fun j18=>
 some j18
theorem N9(n:Nat)(x:Str):Le (xG n x) (Nv x):=by unfold xG Nv;exact(.bind .rfl fun _=>(.bind .rfl fun _=>(.join (.bind .rfl fun _=>(.bif (.need (.bind .rfl fun _=>(.need (.loop (fun _=>(.bif (.need (.bind .rfl fun _=> .rfl)) .rfl)) fun _=>(.join (.bind .rfl fun _=>(.bif .rfl .rfl)) fun _=>(.need .rfl)))))) .rfl)) fun _=>(.bind .rfl fun _=>(.need (.join (.bif (.need .rfl) .rfl) fun _=>(.need (.loop (fun _=>(.bif (.need (.bind .rfl fun _=> .rfl)) .rfl)) fun _=>(.loop (fun _=>(.bif .rfl .rfl)) fun _=>(.join (.bif .rfl .rfl) fun _=> .rfl))))))))))
def fH(n:Nat)(x:za):Option (zf×za):=
 zb (gH n x) fun y1=>
 need (decide (0<=x.at_)&&(decide (x.at_<=y1.2.at_)&&decide (y1.2.at_<=(y1.2.s.length:Int))))<|
 zb (xG n (List.drop x.at_.toNat (List.take y1.2.at_.toNat y1.2.s))) fun y2=>
 zD (X:=za×zf×zf) (
   zb (Zf (0,y1.2)) fun y3=>
   bif y3 then
    zb (qi n y1.2) fun y4=>
    some (LX.out (y4.2,(⟨0,[],0,[],false⟩:zf),(⟨12,[],y2,y4.1,y1.1⟩:zf)))
   else
    zb (zg (0,y1.2)) fun y5=>
    bif y5==37 then
     some (LX.out ((⟨y1.2.s,w64 (y1.2.at_+1)⟩:za),(⟨0,[],0,[],false⟩:zf),(⟨11,[],y2,[],false⟩:zf)))
    else
     some (LX.out (y1.2,(⟨0,[],0,[],false⟩:zf),(⟨10,[],y2,[],y1.1⟩:zf)))) fun j6=>
 some (j6.2.2,j6.1)
theorem zgy(n:Nat)(x:za):Le (fH n x) (qI x):=by unfold fH qI;exact(.bind (zgx n _) fun _=>(.need (.bind (N9 n _) fun _=>(.join (.bind .rfl fun _=>(.bif (.bind (QP n _) fun _=> .rfl) (.bind .rfl fun _=>(.bif .rfl .rfl)))) fun _=> .rfl))))
def Qw(n:Nat)(x:za):Option (zf×za):=
 ZI n (fun(s1:za×zf)=>
   zb (zg (0,s1.1)) fun y2=>
   bif y2==(-1)then
    some (LO.ret ((⟨8,[],0,[],false⟩:zf),s1.1))
   else
    zb (zM (0,s1.1)) fun y3=>
    bif y3 then
     zb (Q8 n s1.1) fun y4=>
     some (LO.again (y4.1,s1.2))
    else
     zb (geti s1.1.s (w64 (w64 (s1.1.at_+1) - 1))) fun y5=>
     bif (y5.toNat:Int)==41 then
      some (LO.ret ((⟨8,[],0,[],false⟩:zf),(⟨s1.1.s,w64 (s1.1.at_+1)⟩:za)))
     else
      some (LO.again ((⟨s1.1.s,w64 (s1.1.at_+1)⟩:za),s1.2)):za×zf->Option (LO (za×zf) (Unit) _)) (x,(⟨0,[],0,[],false⟩:zf)) fun o6=>
 none
theorem SH(n:Nat)(x:za):Le (Qw n x) (qz x):=by unfold Qw qz;exact(.loop (fun _=>(.bind .rfl fun _=>(.bif .rfl (.bind .rfl fun _=>(.bif (.bind (zfv n _) fun _=> .rfl) (.bind .rfl fun _=>(.bif .rfl .rfl))))))) fun _=> .none)
def yG(n:Nat)(x:za):Option (zf×za):=
 zb (ZZ n x) fun y1=>
 ZI n (fun(s2:za×zf×List UInt8)=>
   zb (zg (0,s2.1)) fun y3=>
   zD (X:=Int×za×zf×List UInt8) (
     zb (ZK y3) fun y4=>
     bif y4 then
      zb (ZZ n s2.1) fun y5=>
      zb (zg (0,y5)) fun y6=>
      bif bif y6 != 41 then y6 != (-1)else false then
       zb (Qw n y5) fun y7=>
       some (LX.ret (LO.ret (y7.1,y7.2)))
      else
       some (LX.out (y6,y5,s2.2.1,s2.2.2))
     else
      some (LX.out (y3,s2.1,s2.2.1,s2.2.2))) fun j8=>
   bif j8.1==(-1)then
    some (LO.ret ((⟨7,j8.2.2.2,0,[],false⟩:zf),j8.2.1))
   else
    bif j8.1==41 then
     some (LO.ret ((⟨7,j8.2.2.2,0,[],false⟩:zf),(⟨j8.2.1.s,w64 (j8.2.1.at_+1)⟩:za)))
    else
     zb (zo (!(bif bif bif bif j8.1==34 then true else j8.1==39 then true else j8.1==40 then true else decide (j8.1<=8)then true else j8.1==11)) (Qh (j8.1,14,31)) (default:Bool)) fun y9=>
     bif bif bif bif bif bif bif j8.1==34 then true else j8.1==39 then true else j8.1==40 then true else decide (j8.1<=8)then true else j8.1==11 then true else y9 then true else j8.1==127 then
      zb (Qw n j8.2.1) fun y10=>
      some (LO.ret (y10.1,y10.2))
     else
      bif j8.1 != 92 then
       zb (ZQ (wu8 j8.1)) fun y11=>
       need (zR j8.2.2.2.length 1 1)<|
       some (LO.again ((⟨j8.2.1.s,w64 (j8.2.1.at_+1)⟩:za),j8.2.2.1,j8.2.2.2++[y11]))
      else
       zb (zM (0,j8.2.1)) fun y12=>
       bif y12 then
        zb (ZP n (j8.2.1,j8.2.2.2)) fun y13=>
        some (LO.again (y13.1,j8.2.2.1,y13.2))
       else
        zb (Qw n j8.2.1) fun y14=>
        some (LO.ret (y14.1,y14.2)):za×zf×List UInt8->Option (LO (za×zf×List UInt8) (Unit) _)) (y1,(⟨0,[],0,[],false⟩:zf),[]) fun o15=>
 none
theorem O9(n:Nat)(x:za):Le (yG n x) (Ov x):=by unfold yG Ov;exact(.bind (Qy n _) fun _=>(.loop (fun _=>(.bind .rfl fun _=>(.join (.bind .rfl fun _=>(.bif (.bind (Qy n _) fun _=>(.bind .rfl fun _=>(.bif (.bind (SH n _) fun _=> .rfl) .rfl))) .rfl)) fun _=>(.bif .rfl (.bif .rfl (.bind .rfl fun _=>(.bif (.bind (SH n _) fun _=> .rfl) (.bif (.bind .rfl fun _=>(.need .rfl)) (.bind .rfl fun _=>(.bif (.bind (QA n _) fun _=> .rfl) (.bind (SH n _) fun _=> .rfl))))))))))) fun _=> .none))
def VH(n:Nat)(x:za):Option (zf×za):=
 zb (qi n x) fun y1=>
 zb (zg (0,y1.2)) fun y2=>
 bif y2 != 40 then
  some ((⟨1,y1.1,0,[],false⟩:zf),y1.2)
 else
  zD (X:=za×zf) (
    zb (yl n (y1.1,[117,114,108])) fun y3=>
    bif y3 then
     zb (ZZ n (⟨y1.2.s,w64 (y1.2.at_+1)⟩:za)) fun y4=>
     zb (zg (0,y4)) fun y5=>
     bif bif y5 != 34 then y5 != 39 else false then
      zb (yG n (⟨y1.2.s,w64 (y1.2.at_+1)⟩:za)) fun y6=>
      some (LX.ret (y6.1,y6.2))
     else
      some (LX.out ((⟨y1.2.s,w64 (y1.2.at_+1)⟩:za),(⟨0,[],0,[],false⟩:zf)))
    else
     some (LX.out ((⟨y1.2.s,w64 (y1.2.at_+1)⟩:za),(⟨0,[],0,[],false⟩:zf)))) fun j7=>
  some ((⟨2,y1.1,0,[],false⟩:zf),j7.1)
theorem r9(n:Nat)(x:za):Le (VH n x) (Qx x):=by unfold VH Qx;exact(.bind (QP n _) fun _=>(.bind .rfl fun _=>(.bif .rfl (.join (.bind (Ev n _) fun _=>(.bif (.bind (Qy n _) fun _=>(.bind .rfl fun _=>(.bif (.bind (O9 n _) fun _=> .rfl) .rfl))) .rfl)) fun _=> .rfl))))
def WH(n:Nat)(x:za):Option (zf×za):=
 zb (zg (0,x)) fun y1=>
 need (decide (0<=x.at_)&&decide (x.at_<=(x.s.length:Int)))<|
 zb (ZK y1) fun y2=>
 bif y2 then
  zb (ZZ n x) fun y3=>
  some ((⟨13,[],0,[],false⟩:zf),y3)
 else
  bif bif y1==34 then true else y1==39 then
   zb (dH n x) fun y4=>
   some (y4.1,y4.2)
  else
   zb (zo (y1==35) (zg (1,x)) (default:Int)) fun y5=>
   zb (zo (y1==35) (Vl y5) (default:Bool)) fun y6=>
   zb (zo (!y6&&y1==35) (zM (1,x)) (default:Bool)) fun y7=>
   bif bif y1==35 then bif y6 then true else y7 else false then
    zb (Zf (1,x)) fun y8=>
    zb (qi n (⟨x.s,w64 (x.at_+1)⟩:za)) fun y9=>
    some ((⟨4,y9.1,0,[],y8⟩:zf),y9.2)
   else
    zb (UA x) fun y10=>
    bif y10 then
     zb (fH n x) fun y11=>
     some (y11.1,y11.2)
    else
     zb (strings_HasPrefix (List.drop x.at_.toNat x.s,[45,45,62])) fun y12=>
     bif y12 then
      some ((⟨15,[],0,[],false⟩:zf),(⟨x.s,w64 (x.at_+3)⟩:za))
     else
      zb (strings_HasPrefix (List.drop x.at_.toNat x.s,[60,33,45,45])) fun y13=>
      bif y13 then
       some ((⟨14,[],0,[],false⟩:zf),(⟨x.s,w64 (x.at_+4)⟩:za))
      else
       zb (zo (y1==64) (Zf (1,x)) (default:Bool)) fun y14=>
       bif bif y1==64 then y14 else false then
        zb (qi n (⟨x.s,w64 (x.at_+1)⟩:za)) fun y15=>
        some ((⟨3,y15.1,0,[],false⟩:zf),y15.2)
       else
        zb (Zf (0,x)) fun y16=>
        bif y16 then
         zb (VH n x) fun y17=>
         some (y17.1,y17.2)
        else
         zb (strings_IndexByte ([58,59,44,91,93,40,41,123,125],wu8 y1)) fun y18=>
         bif decide (y18>=0)then
          some ((⟨wu8 (16+wu8 y18),[],0,[],false⟩:zf),(⟨x.s,w64 (x.at_+1)⟩:za))
         else
          need (decide (1<=((List.drop x.at_.toNat x.s).length:Int)))<|
          some ((⟨9,List.take 1 (List.drop x.at_.toNat x.s),0,[],false⟩:zf),(⟨x.s,w64 (x.at_+1)⟩:za))
theorem F9(n:Nat)(x:za):Le (WH n x) (QV x):=by unfold WH QV;exact(.bind .rfl fun _=>(.need (.bind .rfl fun _=>(.bif (.bind (Qy n _) fun _=> .rfl) (.bif (.bind (W9 n _) fun _=> .rfl) (.bind .rfl fun _=>(.bind .rfl fun _=>(.bind .rfl fun _=>(.bif (.bind .rfl fun _=>(.bind (QP n _) fun _=> .rfl)) (.bind .rfl fun _=>(.bif (.bind (zgy n _) fun _=> .rfl) (.bind .rfl fun _=>(.bif .rfl (.bind .rfl fun _=>(.bif .rfl (.bind .rfl fun _=>(.bif (.bind (QP n _) fun _=> .rfl) (.bind .rfl fun _=>(.bif (.bind (r9 n _) fun _=> .rfl) (.bind .rfl fun _=>(.bif .rfl (.need .rfl))))))))))))))))))))))
def wF(n:Nat)(x:Str):Option (Int×List zf):=
 zb (Pn x) fun y1=>
 bif y1.2 != 0 then
  some (y1.2,[])
 else
  zb (qQ n (⟨y1.1,0⟩:za)) fun y2=>
  ZI n (fun(s3:Int×List zf×za)=>
    bif decide (s3.2.2.at_<(y1.1.length:Int))then
     bif decide (w64 (s3.1+1)>1500)then
      some (LO.ret (4,s3.2.1))
     else
      zb (WH n s3.2.2) fun y4=>
      zb (BA ((y4.1,s3.2.2.at_,y4.2.at_),s3.2.1)) fun y5=>
      zb (qQ n y4.2) fun y6=>
      some (LO.again (w64 (s3.1+1),y5,y6))
    else
     some (LO.out (s3.2.1,s3.2.2)):Int×List zf×za->Option (LO (Int×List zf×za) (List zf×za) _)) (0,[],y2) fun o7=>
  some (0,o7.1)
theorem I5(n:Nat)(x:Str):Le (wF n x) (eu x):=by unfold wF eu;exact(.bind .rfl fun _=>(.bif .rfl (.bind (BR n _) fun _=>(.loop (fun _=>(.bif (.bif .rfl (.bind (F9 n _) fun _=>(.bind .rfl fun _=>(.bind (BR n _) fun _=> .rfl)))) .rfl)) fun _=> .rfl))))
def uz(n:Nat)(x:Str):Option (List zf×Int):=
 zb (wF n x) fun y1=>
 bif y1.1 != 0 then
  some ([],y1.1)
 else
  some (y1.2,0)
theorem XP(n:Nat)(x:Str):Le (uz n x) (Wl x):=by unfold uz Wl;exact(.bind (I5 n _) fun _=>(.bif .rfl .rfl))
def RH(n:Nat)(x:List zf×List zf):Option Bool:=
 bif (x.1.length:Int) != (x.2.length:Int)then
  some false
 else
  ZI n (fun(s1:Int)=>
    bif decide (s1<(x.1.length:Int))then
     zb (geti x.1 s1) fun y2=>
     zb (geti x.2 s1) fun y3=>
     bif !(y2.kind==y3.kind&&(y2.text==y3.text&&(y2.num==y3.num&&(y2.unit==y3.unit&&(y2.flag==y3.flag&&true)))))then
      some (LO.ret false)
     else
      some (LO.again (w64 (s1+1)))
    else
     some (LO.out ()):Int->Option (LO (Int) (Unit) _)) 0 fun o4=>
  some true
theorem G9(n:Nat)(x:List zf×List zf):Le (RH n x) (QU x):=by unfold RH QU;exact(.bif .rfl (.loop (fun _=>(.bif (.bind .rfl fun _=>(.bind .rfl fun _=>(.bif .rfl .rfl))) .rfl)) fun _=> .rfl))
def LF(n:Nat)(x:List zf):Option (Str×Int):=
 zb (Iz n x) fun y1=>
 bif y1 != 0 then
  some ([],y1)
 else
  ZI n (fun(s2:Int×List UInt8×List zP)=>
    bif decide (s2.1<(x.length:Int))then
     need (decide (0<=s2.1)&&decide (s2.1<=(x.length:Int)))<|
     zb (Hz n (List.drop s2.1.toNat x)) fun y3=>
     need (decide (0<=s2.1)&&(decide (s2.1<=w64 (s2.1+y3))&&decide (w64 (s2.1+y3)<=(x.length:Int))))<|
     ZI n (fun(s4:Int×List UInt8)=>
       bif decide (s4.1<((List.drop s2.1.toNat (List.take (w64 (s2.1+y3)).toNat x)).length:Int))then
        zb (geti (List.drop s2.1.toNat (List.take (w64 (s2.1+y3)).toNat x)) s4.1) fun y5=>
        zb (PG n (y5,s4.2)) fun y6=>
        some (LO.again (w64 (s4.1+1),y6))
       else
        some (LO.out s4.2):Int×List UInt8->Option (LO (Int×List UInt8) (List UInt8) _)) (0,[]) fun o7=>
     zD (X:=Int×List UInt8×List zP×List UInt8) (
       zb (geti x s2.1) fun y8=>
       bif bif y8.kind==9 then y3==2 else false then
        some (LX.out (s2.1,s2.2.1,s2.2.2,[(92:UInt8),(10:UInt8)]))
       else
        some (LX.out (s2.1,s2.2.1,s2.2.2,o7))) fun j9=>
     zD (X:=Int×List UInt8×List zP×zP) (
       bif decide (w64 ((j9.2.2.1.length:Int) - 4)>=0)then
        need (decide (0<=w64 ((j9.2.2.1.length:Int) - 4))&&decide (w64 ((j9.2.2.1.length:Int) - 4)<(j9.2.2.1.length:Int)))<|
        zb (j9.2.2.1[(w64 ((j9.2.2.1.length:Int) - 4)).toNat]?) fun y10=>
        some (LX.out (j9.1,j9.2.1,j9.2.2.1,y10))
       else
        some (LX.out (j9.1,j9.2.1,j9.2.2.1,(⟨0,0⟩:zP)))) fun j11=>
     need (decide (0<=j11.2.2.2.at_)&&decide (j11.2.2.2.at_<=(j11.2.1.length:Int)))<|
     need (decide (j11.2.2.2.at_.toNat+(j11.2.1.length - j11.2.2.2.at_.toNat)<=j11.2.1.length))<|
     need (qZ (List.take (j11.2.1.length - j11.2.2.2.at_.toNat) (List.drop j11.2.2.2.at_.toNat j11.2.1)).length j9.2.2.2.length)<|
     zb (uz n (List.take (j11.2.1.length - j11.2.2.2.at_.toNat) (List.drop j11.2.2.2.at_.toNat j11.2.1)++j9.2.2.2)) fun y12=>
     zD (X:=Int×List zP×List UInt8) (
       need (decide (0<=j11.2.2.2.token)&&(decide (j11.2.2.2.token<=w64 (j11.1+y3))&&decide (w64 (j11.1+y3)<=(x.length:Int)))|| !(!(y12.2 != 0)))<|
       zb (zo (!(y12.2 != 0)) (RH n (y12.1,List.drop j11.2.2.2.token.toNat (List.take (w64 (j11.1+y3)).toNat x))) (default:Bool)) fun y13=>
       bif bif y12.2 != 0 then true else !y13 then
        need (zR j11.2.1.length ([47,42,42,47]:Str).length 1)<|
        some (LX.out (j11.1,j11.2.2.1,j11.2.1++([47,42,42,47]:Str)))
       else
        some (LX.out (j11.1,j11.2.2.1,j11.2.1))) fun j14=>
     need (zR j14.2.1.length 1 16)<|
     need (zR j14.2.2.length j9.2.2.2.length 1)<|
     bif decide (((j14.2.2++j9.2.2.2).length:Int)>4000)then
      some (LO.ret ([],28))
     else
      some (LO.again (w64 (j14.1+y3),j14.2.2++j9.2.2.2,j14.2.1++[(⟨j14.1,(j14.2.2.length:Int)⟩:zP)]))
    else
     some (LO.out s2.2.1):Int×List UInt8×List zP->Option (LO (Int×List UInt8×List zP) (List UInt8) _)) (0,[],[]) fun o15=>
  some (o15,0)
theorem XY(n:Nat)(x:List zf):Le (LF n x) (Pt x):=by unfold LF Pt;exact(.bind (Pz n _) fun _=>(.bif .rfl (.loop (fun _=>(.bif (.need (.bind (OO n _) fun _=>(.need (.loop (fun _=>(.bif (.bind .rfl fun _=>(.bind (vZ n _) fun _=> .rfl)) .rfl)) fun _=>(.join (.bind .rfl fun _=>(.bif .rfl .rfl)) fun _=>(.join (.bif (.need (.bind .rfl fun _=> .rfl)) .rfl) fun _=>(.need (.need (.need (.bind (XP n _) fun _=>(.join (.need (.bind (.cond (G9 n _)) fun _=>(.bif (.need .rfl) .rfl))) fun _=>(.need (.need (.bif .rfl .rfl)))))))))))))) .rfl)) fun _=> .rfl)))
def XE(n:Nat)(x:List ze):Option (Str×Int):=
 zb (QR n x) fun y1=>
 bif y1 != 0 then
  some ([],y1)
 else
  zb (Oz n x) fun y2=>
  zb (LF n y2) fun y3=>
  some (y3.1,y3.2)
theorem JX(n:Nat)(x:List ze):Le (XE n x) (Rs x):=by unfold XE Rs;exact(.bind (ul n _) fun _=>(.bif .rfl (.bind (IP n _) fun _=>(.bind (XY n _) fun _=> .rfl))))
def vE(n:Nat)(x:zA):Option (Str×Int):=
 zb (Tu n x) fun y1=>
 bif y1 != 0 then
  some ([],y1)
 else
  zb (wy n x.name) fun y2=>
  bif y2.2 != 0 then
   some ([],y2.2)
  else
   zb (XE n x.value) fun y3=>
   bif y3.2 != 0 then
    some ([],y3.2)
   else
    need (qZ y2.1.length ([58,32]:Str).length)<|
    need (qZ (y2.1++([58,32]:Str)).length y3.1.length)<|
    zD (X:=Str) (
      bif x.important then
       need (qZ (y2.1++([58,32]:Str)++y3.1).length ([32,33,105,109,112,111,114,116,97,110,116]:Str).length)<|
       some (LX.out (y2.1++([58,32]:Str)++y3.1++([32,33,105,109,112,111,114,116,97,110,116]:Str)))
      else
       some (LX.out (y2.1++([58,32]:Str)++y3.1))) fun j4=>
    bif decide ((j4.length:Int)>4000)then
     some ([],28)
    else
     some (j4,0)
theorem MX(n:Nat)(x:zA):Le (vE n x) (Jt x):=by unfold vE Jt;exact(.bind (fF n _) fun _=>(.bif .rfl (.bind (KN n _) fun _=>(.bif .rfl (.bind (JX n _) fun _=>(.bif .rfl (.need (.need (.join (.bif (.need .rfl) .rfl) fun _=>(.bif .rfl .rfl))))))))))
def SA(n:Nat)(zu:zh×Bool->Option (Str×Bool))(x:zh×Bool):Option (Str×Bool):=
 zb (zu ((⟨x.1.kind,x.1.name,x.1.num,x.1.decl,x.1.list⟩:zh),x.2)) fun y1=>
 zb (Vi (⟨x.1.kind,x.1.name,x.1.num,x.1.decl,x.1.list⟩:zh)) fun y2=>
 bif y2 then
  some (y1.1,y1.2)
 else
  need (qZ ([40]:Str).length y1.1.length)<|
  need (qZ (([40]:Str)++y1.1).length ([41]:Str).length)<|
  some (([40]:Str)++y1.1++([41]:Str),y1.2)
theorem EQ(n:Nat)(zu cond_supports':zh×Bool->Option (Str×Bool))(h_cond_supports: ∀z,Le (zu z) (cond_supports' z))(x:zh×Bool):Le (SA n zu x) (Qm cond_supports' x):=by unfold SA Qm;exact(.bind (h_cond_supports _) fun _=>(.bind .rfl fun _=>(.bif .rfl (.need (.need .rfl)))))
def Wz(n:Nat)(zu:zh×Bool->Option (Str×Bool))(x:(List zh×Str)×Bool):Option (Str×Bool):=
 ZI n (fun(s1:Int×Bool×List Str)=>
   bif decide (s1.1<(x.1.1.length:Int))then
    zb (geti x.1.1 s1.1) fun y2=>
    zb (SA n zu ((⟨y2.kind,y2.name,y2.num,y2.decl,y2.list⟩:zh),s1.2.1)) fun y3=>
    need (zR s1.2.2.length 1 16)<|
    some (LO.again (w64 (s1.1+1),y3.2,s1.2.2++[y3.1]))
   else
    some (LO.out (s1.2.1,s1.2.2)):Int×Bool×List Str->Option (LO (Int×Bool×List Str) (Bool×List Str) _)) (0,x.2,[]) fun o4=>
 zb (lh (o4.2,x.1.2)) fun y5=>
 some (y5,o4.1)
theorem MP(n:Nat)(zu cond_supports':zh×Bool->Option (Str×Bool))(h_cond_supports: ∀z,Le (zu z) (cond_supports' z))(x:(List zh×Str)×Bool):Le (Wz n zu x) (Jp cond_supports' x):=by unfold Wz Jp;exact(.loop (fun _=>(.bif (.bind .rfl fun _=>(.bind (EQ n _ _ h_cond_supports _) fun _=>(.need .rfl))) .rfl)) fun _=>(.bind .rfl fun _=> .rfl))
def pG(n:Nat)(zu:zh×Bool->Option (Str×Bool))(x:zh×Bool):Option (Str×Bool):=
 bif x.1.kind==7 then
  zb (vE n x.1.decl) fun y1=>
  need (qZ ([40]:Str).length y1.1.length)<|
  need (qZ (([40]:Str)++y1.1).length ([41]:Str).length)<|
  some (([40]:Str)++y1.1++([41]:Str),bif x.2 then true else y1.2 != 0)
 else
  bif x.1.kind==8 then
   some ([40,117,110,107,110,111,119,110,41],x.2)
  else
   bif x.1.kind==3 then
    zb (geti x.1.list 0) fun y2=>
    zb (SA n zu ((⟨y2.kind,y2.name,y2.num,y2.decl,y2.list⟩:zh),x.2)) fun y3=>
    need (qZ ([110,111,116,32]:Str).length y3.1.length)<|
    some (([110,111,116,32]:Str)++y3.1,y3.2)
   else
    bif x.1.kind==2 then
     zb (Wz n zu ((x.1.list,[32,111,114,32]),x.2)) fun y4=>
     some (y4.1,y4.2)
    else
     zb (Wz n zu ((x.1.list,[32,97,110,100,32]),x.2)) fun y5=>
     some (y5.1,y5.2)
def wP(n:Nat):zh×Bool->Option (Str×Bool):=Df (pG n) n
theorem E8(n:Nat)(zu cond_supports':zh×Bool->Option (Str×Bool))(h_cond_supports: ∀z,Le (zu z) (cond_supports' z))(x:zh×Bool):Le (pG n zu x) (Dv cond_supports' x):=by unfold pG Dv;exact(.bif (.bind (MX n _) fun _=>(.need (.need .rfl))) (.bif .rfl (.bif (.bind .rfl fun _=>(.bind (EQ n _ _ h_cond_supports _) fun _=>(.need .rfl))) (.bif (.bind (MP n _ _ h_cond_supports _) fun _=> .rfl) (.bind (MP n _ _ h_cond_supports _) fun _=> .rfl)))))
theorem N7(n:Nat)(x:zh×Bool):Le (wP n x) (zu x):=Le.rec (fun S S' h x=>E8 n S S' h x) n x
def uy(n:Nat)(x:zh):Option (Str×Int):=
 zb (Vu n (⟨x.kind,x.name,x.num,x.decl,x.list⟩:zh)) fun y1=>
 bif y1 != 0 then
  some ([],y1)
 else
  zD (X:=Str×Bool) (
    zb (TA n (⟨x.kind,x.name,x.num,x.decl,x.list⟩:zh)) fun y2=>
    bif y2==0 then
     zb (UM n (⟨x.kind,x.name,x.num,x.decl,x.list⟩:zh)) fun y3=>
     some (LX.out (y3,false))
    else
     zb (wP n ((⟨x.kind,x.name,x.num,x.decl,x.list⟩:zh),false)) fun y4=>
     some (LX.out (y4.1,y4.2))) fun j5=>
  bif bif j5.2 then true else decide ((j5.1.length:Int)>4000)then
   some ([],28)
  else
   some (j5.1,0)
theorem NN(n:Nat)(x:zh):Le (uy n x) (Jl x):=by unfold uy Jl;exact(.bind (iF n _) fun _=>(.bif .rfl (.join (.bind (FQ n _) fun _=>(.bif (.bind (aY n _) fun _=> .rfl) (.bind (N7 n _) fun _=> .rfl))) fun _=>(.bif .rfl .rfl))))
def gz(n:Nat)(x:Str):Option (List ze):=
 zb (uz n x) fun y1=>
 zb (parseF y1.1) fun y2=>
 bif bif y1.2 != 0 then true else y2.2 != 0 then
  some []
 else
  some y2.1
theorem YP(n:Nat)(x:Str):Le (gz n x) (jl x):=by unfold gz jl;exact(.bind (XP n _) fun _=>(.bind .rfl fun _=>(.bif .rfl .rfl)))
def BF(n:Nat)(x:List ze×Int):Option (List (List ze)×Int):=
 zb (QR n x.1) fun y1=>
 bif y1 != 0 then
  some ([],y1)
 else
  bif bif decide (x.2<1)then true else decide (x.2>24)then
   some ([],2)
  else
   ZI n (fun(s2:(Int×Int)×List (List ze))=>
     bif decide (s2.1.2<(x.1.length:Int))then
      zD (X:=(Int×Int)×List (List ze)) (
        zb (geti x.1 s2.1.2) fun y3=>
        bif y3.token.kind==x.2 then
         need (decide (0<=s2.1.1)&&(decide (s2.1.1<=s2.1.2)&&(decide (s2.1.2<=s2.1.2)&&decide (s2.1.2<=(x.1.length:Int))))&&decide (s2.1.2=s2.1.2))<|
         zb (ny n (List.drop s2.1.1.toNat (List.take s2.1.2.toNat x.1))) fun y4=>
         need (zR s2.2.length 1 24)<|
         some (LX.out ((w64 (s2.1.2+1),s2.1.2),s2.2++[y4]))
        else
         some (LX.out ((s2.1.1,s2.1.2),s2.2))) fun j5=>
      some (LO.again ((j5.1.1,w64 (j5.1.2+1)),j5.2))
     else
      some (LO.out (s2.1.1,s2.2)):(Int×Int)×List (List ze)->Option (LO ((Int×Int)×List (List ze)) (Int×List (List ze)) _)) ((0,0),[]) fun o6=>
   need (decide (0<=o6.1)&&decide (o6.1<=(x.1.length:Int)))<|
   zb (ny n (List.drop o6.1.toNat x.1)) fun y7=>
   need (zR o6.2.length 1 24)<|
   some (o6.2++[y7],0)
theorem HZ(n:Nat)(x:List ze×Int):Le (BF n x) (Nt x):=by unfold BF Nt;exact(.bind (ul n _) fun _=>(.bif .rfl (.bif .rfl (.loop (fun _=>(.bif (.join (.bind .rfl fun _=>(.bif (.need (.bind (DF n _) fun _=>(.need .rfl))) .rfl)) fun _=> .rfl) .rfl)) fun _=>(.need (.bind (DF n _) fun _=>(.need .rfl)))))))
def zC(n:Nat)(x:zk):Option (Bool×zk):=
 ZI n (fun(s1:zk)=>
   zb (zH s1) fun y2=>
   bif y2==13 then
    zb (zI s1) fun y3=>
    some (LO.again y3.2)
   else
    some (LO.out s1):zk->Option (LO (zk) (zk) _)) x fun o4=>
 some (decide ((o4.v.length:Int)<(x.v.length:Int)),o4)
theorem zF(n:Nat)(x:zk):Le (zC n x) (zy x):=by unfold zC zy;exact(.loop (fun _=>(.bind .rfl fun _=>(.bif (.bind .rfl fun _=> .rfl) .rfl))) fun _=> .rfl)
def Z7(n:Nat)(x:List Str×zk):Option (Str×zk):=
 ZI n (fun(s1:Int×zk)=>
   bif decide (s1.1<(x.1.length:Int))then
    zb (geti x.1 s1.1) fun y2=>
    zb (zH s1.2) fun y3=>
    zb (zo (y3==1) (geti s1.2.v 0) (default:ze)) fun y4=>
    zb (zo (y3==1) (yl n (y4.token.text,y2)) (default:Bool)) fun y5=>
    bif bif y3==1 then y5 else false then
     zb (zI s1.2) fun y6=>
     some (LO.ret (y2,y6.2))
    else
     some (LO.again (w64 (s1.1+1),s1.2))
   else
    some (LO.out s1.2):Int×zk->Option (LO (Int×zk) (zk) _)) (0,x.2) fun o7=>
 some ([],o7)
theorem Qn(n:Nat)(x:List Str×zk):Le (Z7 n x) (Zn x):=by unfold Z7 Zn;exact(.loop (fun _=>(.bif (.bind .rfl fun _=>(.bind .rfl fun _=>(.bind .rfl fun _=>(.bind (.cond (Ev n _)) fun _=>(.bif (.bind .rfl fun _=> .rfl) .rfl))))) .rfl)) fun _=> .rfl)
def QI(n:Nat)(x:zk):Option ((zh×Bool)×zk):=
 zb (zH x) fun y1=>
 bif y1 != 21 then
  some (((⟨0,[],0,(⟨[],[],false⟩:zA),[]⟩:zh),false),x)
 else
  zb (zI x) fun y2=>
  zb (zC n (⟨y2.1.list⟩:zk)) fun y3=>
  zD (X:=(Int×Str×Int×Str×Bool)×zk×(Int×Str×Int×Str×Bool)) (
    zb (Z7 n ([[109,105,110,45,119,105,100,116,104],[109,97,120,45,119,105,100,116,104]],y3.2)) fun y4=>
    bif y4.1==[]then
     some (LX.ret (((⟨5,[],0,(⟨[],[],false⟩:zA),[]⟩:zh),false),y2.2))
    else
     bif y4.1==[109,97,120,45,119,105,100,116,104]then
      some (LX.out ((0,[],0,[],false),y4.2,(6,[],0,[],false)))
     else
      some (LX.out ((0,[],0,[],false),y4.2,(5,[],0,[],false)))) fun j5=>
  zb (zC n j5.2.1) fun y6=>
  zb (zH y6.2) fun y7=>
  bif y7 != 16 then
   some (((⟨j5.2.2.1,j5.2.2.2.1,j5.2.2.2.2.1,(⟨j5.2.2.2.2.2.1,[],j5.2.2.2.2.2.2⟩:zA),[]⟩:zh),false),y2.2)
  else
   zb (zI y6.2) fun y8=>
   zb (zC n y8.2) fun y9=>
   zb (zH y9.2) fun y10=>
   zb (zo (y10 != 12) (zH y9.2) (default:Int)) fun y11=>
   bif bif y10 != 12 then y11 != 10 else false then
    some (((⟨j5.2.2.1,j5.2.2.2.1,j5.2.2.2.2.1,(⟨j5.2.2.2.2.2.1,[],j5.2.2.2.2.2.2⟩:zA),[]⟩:zh),false),y2.2)
   else
    zb (zI y9.2) fun y12=>
    zb (zC n y12.2) fun y13=>
    zb (zo (y12.1.token.kind==12) (yl n (y12.1.token.unit,[112,120])) (default:Bool)) fun y14=>
    zb (zo (bif bif bif y12.1.token.kind==12 then y14 else false then true else bif y12.1.token.kind==10 then y12.1.token.num==0 else false then decide (y12.1.token.num>=0)else false) (Tz n y12.1.token.num) (default:Int)) fun y15=>
    some (((⟨j5.2.2.1,j5.2.2.2.1,y12.1.token.num,(⟨j5.2.2.2.2.2.1,[],j5.2.2.2.2.2.2⟩:zA),[]⟩:zh),bif bif bif bif bif y12.1.token.kind==12 then y14 else false then true else bif y12.1.token.kind==10 then y12.1.token.num==0 else false then decide (y12.1.token.num>=0)else false then y15==0 else false then(y13.2.v.length:Int)==0 else false),y2.2)
theorem tQ(n:Nat)(x:zk):Le (QI n x) (qw x):=by unfold QI qw;exact(.bind .rfl fun _=>(.bif .rfl (.bind .rfl fun _=>(.bind (zF n _) fun _=>(.join (.bind (Qn n _) fun _=>(.bif .rfl (.bif .rfl .rfl))) fun _=>(.bind (zF n _) fun _=>(.bind .rfl fun _=>(.bif .rfl (.bind .rfl fun _=>(.bind (zF n _) fun _=>(.bind .rfl fun _=>(.bind .rfl fun _=>(.bif .rfl (.bind .rfl fun _=>(.bind (zF n _) fun _=>(.bind (.cond (Ev n _)) fun _=>(.bind (.cond (KP n _)) fun _=> .rfl)))))))))))))))))
def GH(n:Nat)(x:zk):Option ((zh×Bool)×zk):=
 zb (zC n x) fun y1=>
 zb (Z7 n ([[110,111,116],[111,110,108,121]],y1.2)) fun y2=>
 zb (zC n y2.2) fun y3=>
 zD (X:=zk×(Int×Str×Int×Str×Bool)×(Int×Str×Int×Str×Bool)×List zh) (
   zb (zH y3.2) fun y4=>
   bif y4==1 then
    zb (zI y3.2) fun y5=>
    zb (QO n y5.1.token.text) fun y6=>
    zb (Vz n y6) fun y7=>
    bif !y7 then
     some (LX.ret (((⟨1,[],0,(⟨[],[],false⟩:zA),[]⟩:zh),false),y5.2))
    else
     need (zR 0 1 104)<|
     some (LX.out (y5.2,(0,[],0,[],false),(1,[],0,[],false),[(⟨4,y6,0,(⟨[],[],false⟩:zA),[]⟩:zh)]))
   else
    zb (QI n y3.2) fun y8=>
    bif bif !y8.1.2 then true else !(y2.1==[])then
     some (LX.ret (((⟨1,[],0,(⟨[],[],false⟩:zA),[]⟩:zh),false),y8.2))
    else
     need (zR 0 1 104)<|
     some (LX.out (y8.2,(0,[],0,[],false),(1,[],0,[],false),[(⟨y8.1.1.kind,y8.1.1.name,y8.1.1.num,y8.1.1.decl,y8.1.1.list⟩:zh)]))) fun j9=>
 zb (zC n j9.1) fun y10=>
 ZI n (fun(s11:zk×(Int×Str×Int×Str×Bool)×(Int×Str×Int×Str×Bool)×List zh)=>
   bif decide ((s11.1.v.length:Int)>0)then
    zb (Z7 n ([[97,110,100]],s11.1)) fun y12=>
    bif y12.1==[]then
     some (LO.ret (((⟨s11.2.2.1.1,s11.2.2.1.2.1,s11.2.2.1.2.2.1,(⟨s11.2.2.1.2.2.2.1,[],s11.2.2.1.2.2.2.2⟩:zA),s11.2.2.2⟩:zh),false),y12.2))
    else
     zb (zC n y12.2) fun y13=>
     zb (QI n y13.2) fun y14=>
     bif !y14.1.2 then
      some (LO.ret (((⟨s11.2.2.1.1,s11.2.2.1.2.1,s11.2.2.1.2.2.1,(⟨s11.2.2.1.2.2.2.1,[],s11.2.2.1.2.2.2.2⟩:zA),s11.2.2.2⟩:zh),false),y14.2))
     else
      need (zR s11.2.2.2.length 1 104)<|
      zb (zC n y14.2) fun y15=>
      some (LO.again (y15.2,(s11.2.1.1,s11.2.1.2.1,s11.2.1.2.2.1,s11.2.1.2.2.2.1,s11.2.1.2.2.2.2),(s11.2.2.1.1,s11.2.2.1.2.1,s11.2.2.1.2.2.1,s11.2.2.1.2.2.2.1,s11.2.2.1.2.2.2.2),s11.2.2.2++[(⟨y14.1.1.kind,y14.1.1.name,y14.1.1.num,y14.1.1.decl,y14.1.1.list⟩:zh)]))
   else
    some (LO.out (s11.1,(s11.2.1.1,s11.2.1.2.1,s11.2.1.2.2.1,s11.2.1.2.2.2.1,s11.2.1.2.2.2.2),(s11.2.2.1.1,s11.2.2.1.2.1,s11.2.2.1.2.2.1,s11.2.2.1.2.2.2.1,s11.2.2.1.2.2.2.2),s11.2.2.2)):zk×(Int×Str×Int×Str×Bool)×(Int×Str×Int×Str×Bool)×List zh->Option (LO (zk×(Int×Str×Int×Str×Bool)×(Int×Str×Int×Str×Bool)×List zh) (zk×(Int×Str×Int×Str×Bool)×(Int×Str×Int×Str×Bool)×List zh) _)) (y10.2,(j9.2.1.1,j9.2.1.2.1,j9.2.1.2.2.1,j9.2.1.2.2.2.1,j9.2.1.2.2.2.2),(j9.2.2.1.1,j9.2.2.1.2.1,j9.2.2.1.2.2.1,j9.2.2.1.2.2.2.1,j9.2.2.1.2.2.2.2),j9.2.2.2) fun o16=>
 zD (X:=(Int×Str×Int×Str×Bool)×(Int×Str×Int×Str×Bool×List zh)) (
   bif y2.1==[110,111,116]then
    some (LX.out ((o16.2.1.1,o16.2.1.2.1,o16.2.1.2.2.1,o16.2.1.2.2.2.1,o16.2.1.2.2.2.2),(3,[],0,[],false,[(⟨o16.2.2.1.1,o16.2.2.1.2.1,o16.2.2.1.2.2.1,(⟨o16.2.2.1.2.2.2.1,[],o16.2.2.1.2.2.2.2⟩:zA),o16.2.2.2⟩:zh)])))
   else
    some (LX.out ((o16.2.1.1,o16.2.1.2.1,o16.2.1.2.2.1,o16.2.1.2.2.2.1,o16.2.1.2.2.2.2),(o16.2.2.1.1,o16.2.2.1.2.1,o16.2.2.1.2.2.1,o16.2.2.1.2.2.2.1,o16.2.2.1.2.2.2.2,o16.2.2.2)))) fun j17=>
 some (((⟨j17.2.1,j17.2.2.1,j17.2.2.2.1,(⟨j17.2.2.2.2.1,[],j17.2.2.2.2.2.1⟩:zA),j17.2.2.2.2.2.2⟩:zh),true),o16.1)
theorem R9(n:Nat)(x:zk):Le (GH n x) (Rv x):=by unfold GH Rv;exact(.bind (zF n _) fun _=>(.bind (Qn n _) fun _=>(.bind (zF n _) fun _=>(.join (.bind .rfl fun _=>(.bif (.bind .rfl fun _=>(.bind (Mq n _) fun _=>(.bind (LP n _) fun _=>(.bif .rfl (.need .rfl))))) (.bind (tQ n _) fun _=>(.bif .rfl (.need .rfl))))) fun _=>(.bind (zF n _) fun _=>(.loop (fun _=>(.bif (.bind (Qn n _) fun _=>(.bif .rfl (.bind (zF n _) fun _=>(.bind (tQ n _) fun _=>(.bif .rfl (.need (.bind (zF n _) fun _=> .rfl))))))) .rfl)) fun _=>(.join (.bif .rfl .rfl) fun _=> .rfl)))))))
def uF(n:Nat)(x:List ze):Option (zh×Int):=
 zb (BF n (x,18)) fun y1=>
 bif y1.2 != 0 then
  some ((⟨0,[],0,(⟨[],[],false⟩:zA),[]⟩:zh),y1.2)
 else
  zD (X:=Int×Str×Int×Str×Bool) (
    bif (y1.1.length:Int)==1 then
     zb (zC n (⟨x⟩:zk)) fun y2=>
     bif (y2.2.v.length:Int)==0 then
      some (LX.ret ((⟨1,[],0,(⟨[],[],false⟩:zA),[]⟩:zh),0))
     else
      some (LX.out (0,[],0,[],false))
    else
     some (LX.out (0,[],0,[],false))) fun j3=>
  bif decide ((y1.1.length:Int)>64)then
   some ((⟨0,[],0,(⟨[],[],false⟩:zA),[]⟩:zh),4)
  else
   ZI n (fun(s4:Int×(Int×Str×Int×Str×Bool)×List zh)=>
     bif decide (s4.1<(y1.1.length:Int))then
      zb (geti y1.1 s4.1) fun y5=>
      zb (GH n (⟨y5⟩:zk)) fun y6=>
      zD (X:=(Int×Str×Int×Str×Bool)×List zh×zh) (
        bif !y6.1.2 then
         some (LX.out ((s4.2.1.1,s4.2.1.2.1,s4.2.1.2.2.1,s4.2.1.2.2.2.1,s4.2.1.2.2.2.2),s4.2.2,(⟨3,[],0,(⟨[],[],false⟩:zA),[(⟨1,[],0,(⟨[],[],false⟩:zA),[(⟨4,[97,108,108],0,(⟨[],[],false⟩:zA),[]⟩:zh)]⟩:zh)]⟩:zh)))
        else
         some (LX.out ((s4.2.1.1,s4.2.1.2.1,s4.2.1.2.2.1,s4.2.1.2.2.2.1,s4.2.1.2.2.2.2),s4.2.2,(⟨y6.1.1.kind,y6.1.1.name,y6.1.1.num,y6.1.1.decl,y6.1.1.list⟩:zh)))) fun j7=>
      need (zR j7.2.1.length 1 104)<|
      some (LO.again (w64 (s4.1+1),(j7.1.1,j7.1.2.1,j7.1.2.2.1,j7.1.2.2.2.1,j7.1.2.2.2.2),j7.2.1++[(⟨j7.2.2.kind,j7.2.2.name,j7.2.2.num,j7.2.2.decl,j7.2.2.list⟩:zh)]))
     else
      some (LO.out ((s4.2.1.1,s4.2.1.2.1,s4.2.1.2.2.1,s4.2.1.2.2.2.1,s4.2.1.2.2.2.2),s4.2.2)):Int×(Int×Str×Int×Str×Bool)×List zh->Option (LO (Int×(Int×Str×Int×Str×Bool)×List zh) ((Int×Str×Int×Str×Bool)×List zh) _)) (0,(2,[],0,[],false),[]) fun o8=>
   some ((⟨o8.1.1,o8.1.2.1,o8.1.2.2.1,(⟨o8.1.2.2.2.1,[],o8.1.2.2.2.2⟩:zA),o8.2⟩:zh),0)
theorem dY(n:Nat)(x:List ze):Le (uF n x) (Tt x):=by unfold uF Tt;exact(.bind (HZ n _) fun _=>(.bif .rfl (.join (.bif (.bind (zF n _) fun _=>(.bif .rfl .rfl)) .rfl) fun _=>(.bif .rfl (.loop (fun _=>(.bif (.bind .rfl fun _=>(.bind (R9 n _) fun _=>(.join (.bif .rfl .rfl) fun _=>(.need .rfl)))) .rfl)) fun _=> .rfl)))))
def jF(n:Nat)(x:Str×Str×Int×Int):Option Bool:=
 zb (gz n x.1) fun y1=>
 zb (uF n y1) fun y2=>
 zb (uy n (⟨y2.1.kind,y2.1.name,y2.1.num,y2.1.decl,y2.1.list⟩:zh)) fun y3=>
 bif bif bif y2.2 != 0 then true else y3.2 != 0 then true else !(y3.1==x.2.1)then
  some false
 else
  ZI n (fun(s4:Int)=>
    bif decide (s4<30)then
     zb (vF n ((⟨y2.1.kind,y2.1.name,y2.1.num,y2.1.decl,y2.1.list⟩:zh),(⟨s4⟩:VEnv),[])) fun y5=>
     bif bif y5.2 != 0 then true else !(y5.1==(bif decide (s4>=x.2.2.1)then decide (s4<=x.2.2.2)else false))then
      some (LO.ret false)
     else
      some (LO.again (w64 (s4+1)))
    else
     some (LO.out ()):Int->Option (LO (Int) (Unit) _)) 0 fun o6=>
  some true
theorem tZ(n:Nat)(x:Str×Str×Int×Int):Le (jF n x) (Ku x):=by unfold jF Ku;exact(.bind (YP n _) fun _=>(.bind (dY n _) fun _=>(.bind (NN n _) fun _=>(.bif .rfl (.loop (fun _=>(.bif (.bind (eY n _) fun _=>(.bif .rfl .rfl)) .rfl)) fun _=> .rfl)))))
def Hu(n:Nat)(x:List ze):Option (List ze):=
 ZI n (fun(s1:List ze)=>
   zb (zo (decide ((s1.length:Int)>0)) (geti s1 0) (default:ze)) fun y2=>
   zb (zo (decide ((s1.length:Int)>0)) (ZA ((⟨y2.token,y2.list⟩:ze),13)) (default:Bool)) fun y3=>
   bif bif decide ((s1.length:Int)>0)then y3 else false then
    need (decide (1<=(s1.length:Int)))<|
    some (LO.again (List.drop 1 s1))
   else
    some (LO.out s1):List ze->Option (LO (List ze) (List ze) _)) x fun o4=>
 some o4
theorem JF(n:Nat)(x:List ze):Le (Hu n x) (Gl x):=by unfold Hu Gl;exact(.loop (fun _=>(.bind .rfl fun _=>(.bind .rfl fun _=>(.bif (.need .rfl) .rfl)))) fun _=> .rfl)
def Su(n:Nat)(x:List ze):Option (List ze):=
 ZI n (fun(s1:List ze)=>
   zb (zo (decide ((s1.length:Int)>0)) (geti s1 (w64 ((s1.length:Int) - 1))) (default:ze)) fun y2=>
   zb (zo (decide ((s1.length:Int)>0)) (ZA ((⟨y2.token,y2.list⟩:ze),13)) (default:Bool)) fun y3=>
   bif bif decide ((s1.length:Int)>0)then y3 else false then
    need (decide (0<=w64 ((s1.length:Int) - 1))&&decide (w64 ((s1.length:Int) - 1)<=(s1.length:Int)))<|
    some (LO.again (List.take (w64 ((s1.length:Int) - 1)).toNat s1))
   else
    some (LO.out s1):List ze->Option (LO (List ze) (List ze) _)) x fun o4=>
 some o4
theorem eF(n:Nat)(x:List ze):Le (Su n x) (Ol x):=by unfold Su Ol;exact(.loop (fun _=>(.bind .rfl fun _=>(.bind .rfl fun _=>(.bif (.need .rfl) .rfl)))) fun _=> .rfl)
def IE(n:Nat)(x:List ze):Option (zA×Bool):=
 zb (Hu n x) fun y1=>
 zb (Su n y1) fun y2=>
 zb (zo (!((y2.length:Int)==0)) (geti y2 0) (default:ze)) fun y3=>
 zb (zo (!((y2.length:Int)==0)) (ZA ((⟨y3.token,y3.list⟩:ze),1)) (default:Bool)) fun y4=>
 bif bif (y2.length:Int)==0 then true else !y4 then
  some ((⟨[],[],false⟩:zA),false)
 else
  zb (geti y2 0) fun y5=>
  zD (X:=List ze×(Str×Bool)×(Str×Bool)) (
    zb (strings_HasPrefix (y5.token.text,[45,45])) fun y6=>
    bif !y6 then
     zb (QO n y5.token.text) fun y7=>
     some (LX.out (y2,([],false),(y7,false)))
    else
     some (LX.out (y2,([],false),(y5.token.text,false)))) fun j8=>
  need (decide (1<=(j8.1.length:Int)))<|
  zb (Hu n (List.drop 1 j8.1)) fun y9=>
  zb (zo (!((y9.length:Int)==0)) (geti y9 0) (default:ze)) fun y10=>
  zb (zo (!((y9.length:Int)==0)) (ZA ((⟨y10.token,y10.list⟩:ze),16)) (default:Bool)) fun y11=>
  bif bif (y9.length:Int)==0 then true else !y11 then
   some ((⟨[],[],false⟩:zA),false)
  else
   need (decide (1<=(y9.length:Int)))<|
   zb (Hu n (List.drop 1 y9)) fun y12=>
   zD (X:=List ze×(Str×Bool)×(Str×Bool)) (
     zb (zo (decide (w64 ((y12.length:Int) - 1)>0)) (geti y12 (w64 ((y12.length:Int) - 1))) (default:ze)) fun y13=>
     zb (zo (decide (w64 ((y12.length:Int) - 1)>0)) (ZA ((⟨y13.token,y13.list⟩:ze),1)) (default:Bool)) fun y14=>
     zb (zo (bif decide (w64 ((y12.length:Int) - 1)>0)then y14 else false) (geti y12 (w64 ((y12.length:Int) - 1))) (default:ze)) fun y15=>
     zb (zo (bif decide (w64 ((y12.length:Int) - 1)>0)then y14 else false) (yl n (y15.token.text,[105,109,112,111,114,116,97,110,116])) (default:Bool)) fun y16=>
     bif bif bif decide (w64 ((y12.length:Int) - 1)>0)then y14 else false then y16 else false then
      need (decide (0<=w64 ((y12.length:Int) - 1))&&decide (w64 ((y12.length:Int) - 1)<=(y12.length:Int)))<|
      zb (Su n (List.take (w64 ((y12.length:Int) - 1)).toNat y12)) fun y17=>
      zb (zo (decide ((y17.length:Int)>0)) (geti y17 (w64 ((y17.length:Int) - 1))) (default:ze)) fun y18=>
      zb (zo (decide ((y17.length:Int)>0)) (Hl (⟨y18.token,y18.list⟩:ze)) (default:Bool)) fun y19=>
      bif bif decide ((y17.length:Int)>0)then y19 else false then
       need (decide (0<=w64 ((y17.length:Int) - 1))&&decide (w64 ((y17.length:Int) - 1)<=(y17.length:Int)))<|
       zb (Su n (List.take (w64 ((y17.length:Int) - 1)).toNat y17)) fun y20=>
       some (LX.out (y20,(j8.2.1.1,j8.2.1.2),(j8.2.2.1,true)))
      else
       some (LX.out (y12,(j8.2.1.1,j8.2.1.2),(j8.2.2.1,j8.2.2.2)))
     else
      some (LX.out (y12,(j8.2.1.1,j8.2.1.2),(j8.2.2.1,j8.2.2.2)))) fun j21=>
   zb (ry n j21.1) fun y22=>
   zb (zo (!(y22.2 != 0)) (Tu n (⟨j21.2.2.1,y22.1,j21.2.2.2⟩:zA)) (default:Int)) fun y23=>
   bif bif y22.2 != 0 then true else y23 != 0 then
    some ((⟨[],[],false⟩:zA),false)
   else
    some ((⟨j21.2.2.1,y22.1,j21.2.2.2⟩:zA),true)
theorem uW(n:Nat)(x:List ze):Le (IE n x) (Js x):=by unfold IE Js;exact(.bind (JF n _) fun _=>(.bind (eF n _) fun _=>(.bind .rfl fun _=>(.bind .rfl fun _=>(.bif .rfl (.bind .rfl fun _=>(.join (.bind .rfl fun _=>(.bif (.bind (Mq n _) fun _=> .rfl) .rfl)) fun _=>(.need (.bind (JF n _) fun _=>(.bind .rfl fun _=>(.bind .rfl fun _=>(.bif .rfl (.need (.bind (JF n _) fun _=>(.join (.bind .rfl fun _=>(.bind .rfl fun _=>(.bind .rfl fun _=>(.bind (.cond (Ev n _)) fun _=>(.bif (.need (.bind (eF n _) fun _=>(.bind .rfl fun _=>(.bind .rfl fun _=>(.bif (.need (.bind (eF n _) fun _=> .rfl)) .rfl))))) .rfl))))) fun _=>(.bind (JN n _) fun _=>(.bind (.cond (fF n _)) fun _=>(.bif .rfl .rfl))))))))))))))))))
def JE(n:Nat)(x:List ze):Option (zA×Bool×Int):=
 zb (QR n x) fun y1=>
 bif y1 != 0 then
  some ((⟨[],[],false⟩:zA),false,y1)
 else
  zb (IE n x) fun y2=>
  some (y2.1,y2.2,0)
theorem vW(n:Nat)(x:List ze):Le (JE n x) (Ls x):=by unfold JE Ls;exact(.bind (ul n _) fun _=>(.bif .rfl (.bind (uW n _) fun _=> .rfl)))
def QJ(n:Nat)(zw:zk->Option ((zh×Bool)×zk))(x:zk):Option ((zh×Bool)×zk):=
 zb (zH x) fun y1=>
 bif y1==2 then
  zb (zI x) fun y2=>
  some (((⟨8,[],0,(⟨[],[],false⟩:zA),[]⟩:zh),true),y2.2)
 else
  bif y1==21 then
   zb (zI x) fun y3=>
   zb (JE n y3.1.list) fun y4=>
   bif bif y4.2.2==0 then y4.2.1 else false then
    some (((⟨7,[],0,y4.1,[]⟩:zh),true),y3.2)
   else
    zb (zw (⟨y3.1.list⟩:zk)) fun y5=>
    bif y5.1.2 then
     some (((⟨y5.1.1.kind,y5.1.1.name,y5.1.1.num,y5.1.1.decl,y5.1.1.list⟩:zh),true),y3.2)
    else
     some (((⟨8,[],0,(⟨[],[],false⟩:zA),[]⟩:zh),true),y3.2)
  else
   some (((⟨8,[],0,(⟨[],[],false⟩:zA),[]⟩:zh),false),x)
theorem FH(n:Nat)(zw cond_reader_told':zk->Option ((zh×Bool)×zk))(h_cond_reader_told: ∀z,Le (zw z) (cond_reader_told' z))(x:zk):Le (QJ n zw x) (qR cond_reader_told' x):=by unfold QJ qR;exact(.bind .rfl fun _=>(.bif (.bind .rfl fun _=> .rfl) (.bif (.bind .rfl fun _=>(.bind (vW n _) fun _=>(.bif .rfl (.bind (h_cond_reader_told _) fun _=>(.bif .rfl .rfl))))) .rfl)))
def TH(n:Nat)(zw:zk->Option ((zh×Bool)×zk))(x:zk):Option ((zh×Bool)×zk):=
 zb (zC n x) fun y1=>
 zb (Z7 n ([[110,111,116]],y1.2)) fun y2=>
 bif !(y2.1==[])then
  zb (zC n y2.2) fun y3=>
  zb (QJ n zw y3.2) fun y4=>
  zb (zC n y4.2) fun y5=>
  some (((⟨3,[],0,(⟨[],[],false⟩:zA),[(⟨y4.1.1.kind,y4.1.1.name,y4.1.1.num,y4.1.1.decl,y4.1.1.list⟩:zh)]⟩:zh),bif bif y4.1.2 then y3.1 else false then(y5.2.v.length:Int)==0 else false),y5.2)
 else
  zb (QJ n zw y2.2) fun y6=>
  bif !y6.1.2 then
   some (((⟨y6.1.1.kind,y6.1.1.name,y6.1.1.num,y6.1.1.decl,y6.1.1.list⟩:zh),false),y6.2)
  else
   zb (zC n y6.2) fun y7=>
   bif (y7.2.v.length:Int)==0 then
    some (((⟨y6.1.1.kind,y6.1.1.name,y6.1.1.num,y6.1.1.decl,y6.1.1.list⟩:zh),true),y7.2)
   else
    ZI n (fun(s8:Bool×zk×(Int×Str×Int×Str×Bool)×(Int×Str×Int×Str×Bool)×List zh)=>
      bif decide ((s8.2.1.v.length:Int)>0)then
       zb (Z7 n ([[97,110,100],[111,114]],s8.2.1)) fun y9=>
       bif bif bif (bif y9.1==[97,110,100]then 1 else bif y9.1==[111,114]then 2 else(0:Int))==0 then true else !s8.1 then true else bif s8.2.2.2.1.1 != 0 then s8.2.2.2.1.1 != (bif y9.1==[97,110,100]then 1 else bif y9.1==[111,114]then 2 else(0:Int))else false then
        some (LO.ret (((⟨s8.2.2.2.1.1,s8.2.2.2.1.2.1,s8.2.2.2.1.2.2.1,(⟨s8.2.2.2.1.2.2.2.1,[],s8.2.2.2.1.2.2.2.2⟩:zA),s8.2.2.2.2⟩:zh),false),y9.2))
       else
        zb (zC n y9.2) fun y10=>
        zb (QJ n zw y10.2) fun y11=>
        bif bif !y10.1 then true else !y11.1.2 then
         some (LO.ret (((⟨bif y9.1==[97,110,100]then 1 else bif y9.1==[111,114]then 2 else(0:Int),s8.2.2.2.1.2.1,s8.2.2.2.1.2.2.1,(⟨s8.2.2.2.1.2.2.2.1,[],s8.2.2.2.1.2.2.2.2⟩:zA),s8.2.2.2.2⟩:zh),false),y11.2))
        else
         need (zR s8.2.2.2.2.length 1 104)<|
         zb (zC n y11.2) fun y12=>
         some (LO.again (y12.1,y12.2,(s8.2.2.1.1,s8.2.2.1.2.1,s8.2.2.1.2.2.1,s8.2.2.1.2.2.2.1,s8.2.2.1.2.2.2.2),(bif y9.1==[97,110,100]then 1 else bif y9.1==[111,114]then 2 else(0:Int),s8.2.2.2.1.2.1,s8.2.2.2.1.2.2.1,s8.2.2.2.1.2.2.2.1,s8.2.2.2.1.2.2.2.2),s8.2.2.2.2++[(⟨y11.1.1.kind,y11.1.1.name,y11.1.1.num,y11.1.1.decl,y11.1.1.list⟩:zh)]))
      else
       some (LO.out (s8.2.1,(s8.2.2.1.1,s8.2.2.1.2.1,s8.2.2.1.2.2.1,s8.2.2.1.2.2.2.1,s8.2.2.1.2.2.2.2),(s8.2.2.2.1.1,s8.2.2.2.1.2.1,s8.2.2.2.1.2.2.1,s8.2.2.2.1.2.2.2.1,s8.2.2.2.1.2.2.2.2),s8.2.2.2.2)):Bool×zk×(Int×Str×Int×Str×Bool)×(Int×Str×Int×Str×Bool)×List zh->Option (LO (Bool×zk×(Int×Str×Int×Str×Bool)×(Int×Str×Int×Str×Bool)×List zh) (zk×(Int×Str×Int×Str×Bool)×(Int×Str×Int×Str×Bool)×List zh) _)) (y7.1,y7.2,(0,[],0,[],false),(0,[],0,[],false),[(⟨y6.1.1.kind,y6.1.1.name,y6.1.1.num,y6.1.1.decl,y6.1.1.list⟩:zh)]) fun o13=>
    some (((⟨o13.2.2.1.1,o13.2.2.1.2.1,o13.2.2.1.2.2.1,(⟨o13.2.2.1.2.2.2.1,[],o13.2.2.1.2.2.2.2⟩:zA),o13.2.2.2⟩:zh),true),o13.1)
def GQ(n:Nat):zk->Option ((zh×Bool)×zk):=Df (TH n) n
theorem T9(n:Nat)(zw cond_reader_told':zk->Option ((zh×Bool)×zk))(h_cond_reader_told: ∀z,Le (zw z) (cond_reader_told' z))(x:zk):Le (TH n zw x) (QK cond_reader_told' x):=by unfold TH QK;exact(.bind (zF n _) fun _=>(.bind (Qn n _) fun _=>(.bif (.bind (zF n _) fun _=>(.bind (FH n _ _ h_cond_reader_told _) fun _=>(.bind (zF n _) fun _=> .rfl))) (.bind (FH n _ _ h_cond_reader_told _) fun _=>(.bif .rfl (.bind (zF n _) fun _=>(.bif .rfl (.loop (fun _=>(.bif (.bind (Qn n _) fun _=>(.bif .rfl (.bind (zF n _) fun _=>(.bind (FH n _ _ h_cond_reader_told _) fun _=>(.bif .rfl (.need (.bind (zF n _) fun _=> .rfl))))))) .rfl)) fun _=> .rfl))))))))
theorem E9(n:Nat)(x:zk):Le (GQ n x) (zw x):=Le.rec (fun S S' h x=>T9 n S S' h x) n x
def mG(n:Nat)(x:List ze):Option (zh×Int):=
 zb (QR n x) fun y1=>
 bif y1 != 0 then
  some ((⟨0,[],0,(⟨[],[],false⟩:zA),[]⟩:zh),y1)
 else
  zb (GQ n (⟨x⟩:zk)) fun y2=>
  zb (zo (!(!y2.1.2)) (qY n (⟨y2.1.1.kind,y2.1.1.name,y2.1.1.num,y2.1.1.decl,y2.1.1.list⟩:zh)) (default:Int)) fun y3=>
  bif bif !y2.1.2 then true else y3 != 0 then
   some ((⟨0,[],0,(⟨[],[],false⟩:zA),[]⟩:zh),12)
  else
   some ((⟨y2.1.1.kind,y2.1.1.name,y2.1.1.num,y2.1.1.decl,y2.1.1.list⟩:zh),0)
theorem O7(n:Nat)(x:List ze):Le (mG n x) (uu x):=by unfold mG uu;exact(.bind (ul n _) fun _=>(.bif .rfl (.bind (E9 n _) fun _=>(.bind (.cond (PH n _)) fun _=>(.bif .rfl .rfl)))))
def wG(n:Nat)(Zz:(zh×Int)×Int×List Bool->Option (Bool×Int))(x:(zh×Int)×Int×List Bool):Option (Bool×Int):=
 bif x.1.1.kind==4 then
  some (bif x.1.1.name==[97,108,108]then true else x.1.1.name==[115,99,114,101,101,110],x.2.1)
 else
  bif x.1.1.kind==5 then
   some (decide (x.1.2>=x.1.1.num),x.2.1)
  else
   bif x.1.1.kind==6 then
    some (decide (x.1.2<=x.1.1.num),x.2.1)
   else
    bif x.1.1.kind==7 then
     zb (oz (x.2.1,x.2.2)) fun y1=>
     some (y1.1,y1.2)
    else
     bif x.1.1.kind==8 then
      some (false,x.2.1)
     else
      ZI n (fun(s2:(Bool×Bool×Int)×Int)=>
        bif decide (s2.1.2.2<(x.1.1.list.length:Int))then
         zb (geti x.1.1.list s2.1.2.2) fun y3=>
         zb (Zz (((⟨y3.kind,y3.name,y3.num,y3.decl,y3.list⟩:zh),x.1.2),s2.2,x.2.2)) fun y4=>
         some (LO.again ((bif s2.1.1 then y4.1 else false,bif s2.1.2.1 then true else y4.1,w64 (s2.1.2.2+1)),y4.2))
        else
         some (LO.out ((s2.1.1,s2.1.2.1),s2.2)):(Bool×Bool×Int)×Int->Option (LO ((Bool×Bool×Int)×Int) ((Bool×Bool)×Int) _)) ((true,false,0),x.2.1) fun o5=>
      bif x.1.1.kind==1 then
       some (o5.1.1,o5.2)
      else
       bif x.1.1.kind==2 then
        some (o5.1.2,o5.2)
       else
        some (!o5.1.2,o5.2)
def VO(n:Nat):(zh×Int)×Int×List Bool->Option (Bool×Int):=Df (wG n) n
theorem R7(n:Nat)(Zz cond_holds_2':(zh×Int)×Int×List Bool->Option (Bool×Int))(h_cond_holds_2: ∀z,Le (Zz z) (cond_holds_2' z))(x:(zh×Int)×Int×List Bool):Le (wG n Zz x) (Gv cond_holds_2' x):=by unfold wG Gv;exact(.bif .rfl (.bif .rfl (.bif .rfl (.bif (.bind .rfl fun _=> .rfl) (.bif .rfl (.loop (fun _=>(.bif (.bind .rfl fun _=>(.bind (h_cond_holds_2 _) fun _=> .rfl)) .rfl)) fun _=>(.bif .rfl (.bif .rfl .rfl))))))))
theorem M5(n:Nat)(x:(zh×Int)×Int×List Bool):Le (VO n x) (Zz x):=Le.rec (fun S S' h x=>R7 n S S' h x) n x
def nz(n:Nat)(x:(zh×VEnv)×List Bool):Option (Bool×Int):=
 zb (Vu n (⟨x.1.1.kind,x.1.1.name,x.1.1.num,x.1.1.decl,x.1.1.list⟩:zh)) fun y1=>
 bif y1 != 0 then
  some (false,y1)
 else
  zb (zo (!(bif decide (x.1.2.width<0)then true else decide (x.1.2.width>1000000000))) (Kz n (⟨x.1.1.kind,x.1.1.name,x.1.1.num,x.1.1.decl,x.1.1.list⟩:zh)) (default:List zA)) fun y2=>
  bif bif bif decide (x.1.2.width<0)then true else decide (x.1.2.width>1000000000)then true else(x.2.length:Int) != (y2.length:Int)then
   some (false,2)
  else
   zb (VO n (((⟨x.1.1.kind,x.1.1.name,x.1.1.num,x.1.1.decl,x.1.1.list⟩:zh),w64 (1000*x.1.2.width)),0,x.2)) fun y3=>
   some (y3.1,0)
theorem aP(n:Nat)(x:(zh×VEnv)×List Bool):Le (nz n x) (Pp x):=by unfold nz Pp;exact(.bind (iF n _) fun _=>(.bif .rfl (.bind (.cond (gF n _)) fun _=>(.bif .rfl (.bind (M5 n _) fun _=> .rfl)))))
def sG(n:Nat)(x:Str×Str×Bool×Bool):Option Bool:=
 zb (gz n x.1) fun y1=>
 zb (mG n y1) fun y2=>
 zb (uy n (⟨y2.1.kind,y2.1.name,y2.1.num,y2.1.decl,y2.1.list⟩:zh)) fun y3=>
 zb (kF n (⟨y2.1.kind,y2.1.name,y2.1.num,y2.1.decl,y2.1.list⟩:zh)) fun y4=>
 bif bif bif bif y2.2 != 0 then true else y3.2 != 0 then true else y4.2 != 0 then true else !(y3.1==x.2.1)then
  some false
 else
  need (decide (0<=(y4.1.length:Int))&&decide ((y4.1.length:Int)<=(y4.1.length:Int))&&decide ((y4.1.length:Int)*1<=140737488355328)&&decide ((y4.1.length:Int)<=9223372036854775807))<|
  zb (nz n (((⟨y2.1.kind,y2.1.name,y2.1.num,y2.1.decl,y2.1.list⟩:zh),(⟨0⟩:VEnv)),List.replicate (Int.toNat (y4.1.length:Int)) false)) fun y5=>
  ZI n (fun(s6:Int×List Bool)=>
    bif decide (s6.1<(s6.2.length:Int))then
     need (decide (0<=s6.1)&&decide (s6.1<(s6.2.length:Int)))<|
     zb s6.2[s6.1.toNat]? fun y7=>
     some (LO.again (w64 (s6.1+1),List.set s6.2 s6.1.toNat true))
    else
     some (LO.out s6.2):Int×List Bool->Option (LO (Int×List Bool) (List Bool) _)) (0,List.replicate (Int.toNat (y4.1.length:Int)) false) fun o8=>
  zb (nz n (((⟨y2.1.kind,y2.1.name,y2.1.num,y2.1.decl,y2.1.list⟩:zh),(⟨0⟩:VEnv)),o8)) fun y9=>
  some (bif bif bif y5.2==0 then y9.2==0 else false then y5.1==x.2.2.2 else false then y9.1==x.2.2.1 else false)
theorem C8(n:Nat)(x:Str×Str×Bool×Bool):Le (sG n x) (Fv x):=by unfold sG Fv;exact(.bind (YP n _) fun _=>(.bind (O7 n _) fun _=>(.bind (NN n _) fun _=>(.bind (gY n _) fun _=>(.bif .rfl (.need (.bind (aP n _) fun _=>(.loop (fun _=>(.bif (.need (.bind .rfl fun _=> .rfl)) .rfl)) fun _=>(.bind (aP n _) fun _=> .rfl)))))))))
def RO(n:Nat)(x:Unit):Option Bool:=
 zb (jF n ([83,99,114,101,101,110,32,65,78,68,32,40,109,105,110,45,119,105,100,116,104,58,49,48,46,53,112,120,41,44,32,40,102,111,111,41],[115,99,114,101,101,110,32,97,110,100,32,40,109,105,110,45,119,105,100,116,104,58,32,49,48,46,53,112,120,41,44,32,110,111,116,32,97,108,108],11,99)) fun y1=>
 zb (zo y1 (sG n ([110,111,116,32,40,40,97,58,98,41,32,111,114,32,40,99,41,41],[110,111,116,32,40,40,97,58,32,98,41,32,111,114,32,40,117,110,107,110,111,119,110,41,41],false,true)) (default:Bool)) fun y2=>
 some (bif y1 then y2 else false)
theorem uZ(n:Nat)(x:Unit):Le (RO n x) (Ul x):=by unfold RO Ul;exact(.bind (tZ n _) fun _=>(.bind (.cond (C8 n _)) fun _=> .rfl))
end
end Go.Lv.VT
