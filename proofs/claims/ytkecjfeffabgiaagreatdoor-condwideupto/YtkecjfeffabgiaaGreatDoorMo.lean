/- Laws for the plain texts: loops that look for something; bytes. -/
import Derived.Test.YtkecjfeffabgiaaGreatDoorLf
import Derived.Test.YtkecjfeffabgiaaGreatDoorTx
set_option linter.unusedSimpArgs false
set_option linter.unusedVariables false
namespace Go.Lv.VT
abbrev big:Nat:=4194304
theorem ZK{i n:Nat}(h:i<n):decide ((i:Int)<(n:Int))=true:=Va (by omega)
theorem QY(n:Nat):decide ((n:Int)<(n:Int))=false:=Xb (by omega)
theorem Zo{i n:Nat}(h:i<n)(a:n<=big):w64 ((i:Int)+1)=((i+1:Nat):Int):=by rw[w64,ZG (by omega) (by grind)];omega
theorem Zg{α:Type}(b:Bool)(v d:α):zw b (some v) d=some (bif b then v else d):=by cases b<;>rfl
theorem Sw {α X R:Type} {step:Int->Option (LO Int X R)} {k:X->Option R} (l:List α) (q:α->Option R) (x:X)
  (hg: ∀(i:Nat) (h:i<l.length),step (i:Int)=some (match q l[i]with|some r=> .ret r|none=> .again ((i+1:Nat):Int)))
  (hf:step (l.length:Int)=some (.out x)):Zb step 0 k=match l.findSome? q with|some r=>some r|none=>k x:=by
 have key: ∀(m:List α) (i:Nat),l.drop i=m->i<=l.length-> ∃n,qG step n (i:Int)=some (match m.findSome? q with|some r=> .ret r|none=> .out x):=by
  intro m
  induction m with
  |nil=>
   intro i hd hi;have:i=l.length:=by have:=Pd.1 hd;omega
   subst this;exact⟨1,by simp only[qG,hf,List.findSome?_nil]⟩
  |cons v m ih=>
   intro i hd hi;have hlt:i<l.length:=by
    rcases ve i l.length with h|h
    ·exact h
    ·grind
   have hv:l[i]=v:=by have:=ja hlt;rw[hd]at this;injection this with h1 _;exact h1.symm
   have hs:=hg i hlt;rw[hv]at hs;cases hq:q v with
   |some r=> rw[hq]at hs;exact⟨1,by simp only[qG,hs,List.findSome?_cons,hq]⟩
   |none=> rw[hq]at hs;obtain⟨n,hn⟩:=ih (i+1) (by rw[ja hlt]at hd;injection hd) (by omega);refine⟨n+1,?_⟩;simp only[qG,hs,List.findSome?_cons,hq];exact hn
 obtain⟨n,hn⟩:=key l 0 rfl (by omega);replace hn:qG step n 0=_:=hn;rw[Ph (Fh hn)];cases l.findSome? q<;>rfl
theorem gq{α R:Type}(p:α->Bool)(r:R): ∀(l:List α),l.findSome? (fun v=>bif p v then none else some r)=bif l.all p then none else some r
 |[]=>rfl
 |v::l=>by
  rw[List.findSome?_cons,List.all_cons];cases p v with
  |false=>rfl
  |true=>exact gq p r l
def idxS{α:Type}(p:α->Bool):List α->Int
 |[]=> -1
 |v::l=>bif p v then 0 else bif decide (idxS p l<0)then -1 else idxS p l+1
theorem mq{α:Type}(p:α->Bool): ∀(l:List α),decide (idxS p l>=0)=l.any p
 |[]=>rfl
 |v::l=>by
  have a:=mq p l;rw[List.any_cons,idxS]
  grind
theorem FH{α:Type}(p:α->Bool): ∀(l:List α), -1<=idxS p l/\idxS p l<l.length
 |[]=>by simp[idxS]
 |v::l=>by
  have:=FH p l;rw[idxS,Db]
  grind
theorem kv {α:Type} {step:Int->Option (LO Int Unit Int)} (l:List α) (p:α->Bool) (hn:l.length<=big)
  (hg: ∀(i:Nat) (h:i<l.length),step (i:Int)=bif p l[i]then some (.ret (i:Int))else some (.again (w64 ((i:Int)+1))))
  (hf:step (l.length:Int)=some (.out ())):Zb step 0 (fun _=>some (-1))=some (idxS p l):=by
 have key: ∀(m:List α) (i:Nat),l.drop i=m->i<=l.length-> ∃n,qG step n (i:Int)=some (bif decide (idxS p m<0)then .out ()else .ret ((i:Int)+idxS p m)):=by
  intro m
  induction m with
  |nil=>
   intro i hd hi;have:i=l.length:=by have:=Pd.1 hd;omega
   subst this;exact⟨1,by simp only[qG,hf];rfl⟩
  |cons v m ih=>
   intro i hd hi;have hlt:i<l.length:=by
    rcases ve i l.length with h|h
    ·exact h
    ·grind
   have hv:l[i]=v:=by have:=ja hlt;rw[hd]at this;injection this with h1 _;exact h1.symm
   have hs:=hg i hlt;rw[hv]at hs;cases hq:p v with
   |true=> rw[hq]at hs;refine⟨1,?_⟩;simp only[qG,hs,Ia,idxS,hq];simp
   |false=>
    rw[hq,Ea,Zo hlt hn]at hs;obtain⟨n,hn'⟩:=ih (i+1) (by rw[ja hlt]at hd;injection hd) (by omega);refine⟨n+1,?_⟩;simp only[qG,hs,idxS,hq,Ea]
    grind
 obtain⟨n,hn'⟩:=key l 0 rfl (by omega);replace hn':qG step n 0=_:=hn';rw[Ph (Fh hn')];have hb:=FH p l;by_cases h0:idxS p l<0
 ·rw[Va h0];show some (-1)=_;congr 1;omega
 ·rw[Xb h0];simp_all
noncomputable section
set_option maxRecDepth 100000
def IE(n:Nat)(qc:List ze×Int->Option zy)(x:List ze×Int):Option zy:=
 ql n (fun(s1:Int×zy)=>
   bif decide (s1.1<(x.1.length:Int))then
    zR (X:=Int×zy) (
      zb (geti x.1 s1.1) fun y2=>
      zb (qI y2.token.kind) fun y3=>
      zR (X:=zy) (
        bif bif bif x.2 != 0 then y2.token.kind==x.2 else false then true else bif y3==0 then decide ((y2.list.length:Int)>0)else false then
         some (LX.out (⟨s1.2.depth,w64 (s1.2.tokens+1),true⟩:zy))
        else
         some (LX.out (⟨s1.2.depth,w64 (s1.2.tokens+1),s1.2.bad⟩:zy))) fun j4=>
      bif y3==0 then
       some (LX.out (s1.1,j4))
      else
       zb (qc (y2.list,y3)) fun y5=>
       some (LX.out (s1.1,(⟨if w64 (y5.depth+1)>j4.depth then w64 (y5.depth+1)else j4.depth,w64 (w64 (j4.tokens+y5.tokens)+1),bif j4.bad then true else y5.bad⟩:zy)))) fun j6=>
    some (LO.again (w64 (j6.1+1),j6.2))
   else
    some (LO.out s1.2):Int×zy->Option (LO (Int×zy) (zy) _)) (0,(⟨0,0,false⟩:zy)) fun o7=>
 some o7
def uC(n:Nat):List ze×Int->Option zy:=Ef (IE n) n
theorem UY(n:Nat)(qc nest_look':List ze×Int->Option zy)(h_nest_look: ∀z,Le (qc z) (nest_look' z))(x:List ze×Int):Le (IE n qc x) (Yn nest_look' x):=by unfold IE Yn;exact(.loop (fun _=>(.bif (.join (.bind .rfl fun _=>(.bind .rfl fun _=>(.join (.bif .rfl .rfl) fun _=>(.bif .rfl (.bind (h_nest_look _) fun _=> .rfl))))) fun _=> .rfl) .rfl)) fun _=> .rfl)
theorem aK(n:Nat)(x:List ze×Int):Le (uC n x) (qc x):=Le.rec (fun S S' h x=>UY n S S' h x) n x
def Qz(n:Nat)(x:List ze):Option Int:=
 zb (uC n (x,0)) fun y1=>
 bif decide (y1.depth>16)then
  some 20
 else
  bif decide (y1.tokens>1500)then
   some 4
  else
   bif y1.bad then
    some 8
   else
    some 0
theorem ak(n:Nat)(x:List ze):Le (Qz n x) (Zv x):=by unfold Qz Zv;exact(.bind (aK n _) fun _=>(.bif .rfl (.bif .rfl (.bif .rfl .rfl))))
def iD(n:Nat)(x:List ze):Option (Int×Int):=
 zb (Qz n x) fun y1=>
 bif y1 != 0 then
  some (0,y1)
 else
  zb (uC n (x,0)) fun y2=>
  some (y2.depth,0)
theorem JY(n:Nat)(x:List ze):Le (iD n x) (Tk x):=by unfold iD Tk;exact(.bind (ak n _) fun _=>(.bif .rfl (.bind (aK n _) fun _=> .rfl)))
def pE(n:Nat)(Zy:List ze×List zk->Option (List zk))(x:List ze×List zk):Option (List zk):=
 ql n (fun(s1:Int×List zk)=>
   bif decide (s1.1<(x.1.length:Int))then
    zR (X:=Int×List zk) (
      zb (geti x.1 s1.1) fun y2=>
      need (zQ s1.2.length 1 56)<|
      zb (qI y2.token.kind) fun y3=>
      bif y3 != 0 then
       zb (Zy (y2.list,s1.2++[y2.token])) fun y4=>
       need (zQ y4.length 1 56)<|
       some (LX.out (s1.1,y4++[(⟨y3,[],0,[],false⟩:zk)]))
      else
       some (LX.out (s1.1,s1.2++[y2.token]))) fun j5=>
    some (LO.again (w64 (j5.1+1),j5.2))
   else
    some (LO.out s1.2):Int×List zk->Option (LO (Int×List zk) (List zk) _)) (0,x.2) fun o6=>
 some o6
def CL(n:Nat):List ze×List zk->Option (List zk):=Ef (pE n) n
theorem M0(n:Nat)(Zy nest_flat_3':List ze×List zk->Option (List zk))(h_nest_flat_3: ∀z,Le (Zy z) (nest_flat_3' z))(x:List ze×List zk):Le (pE n Zy x) (Xo nest_flat_3' x):=by unfold pE Xo;exact(.loop (fun _=>(.bif (.join (.bind .rfl fun _=>(.need (.bind .rfl fun _=>(.bif (.bind (h_nest_flat_3 _) fun _=>(.need .rfl)) .rfl)))) fun _=> .rfl) .rfl)) fun _=> .rfl)
theorem OZ(n:Nat)(x:List ze×List zk):Le (CL n x) (Zy x):=Le.rec (fun S S' h x=>M0 n S S' h x) n x
def Ox(n:Nat)(x:List ze):Option (List zk):=
 ql n (fun(s1:Int×List zk)=>
   bif decide (s1.1<(x.length:Int))then
    zR (X:=Int×List zk) (
      zb (geti x s1.1) fun y2=>
      need (zQ s1.2.length 1 56)<|
      zb (qI y2.token.kind) fun y3=>
      bif y3 != 0 then
       zb (CL n (y2.list,s1.2++[y2.token])) fun y4=>
       need (zQ y4.length 1 56)<|
       some (LX.out (s1.1,y4++[(⟨y3,[],0,[],false⟩:zk)]))
      else
       some (LX.out (s1.1,s1.2++[y2.token]))) fun j5=>
    some (LO.again (w64 (j5.1+1),j5.2))
   else
    some (LO.out s1.2):Int×List zk->Option (LO (Int×List zk) (List zk) _)) (0,[]) fun o6=>
 some o6
theorem OM(n:Nat)(x:List ze):Le (Ox n x) (QJ x):=by unfold Ox QJ;exact(.loop (fun _=>(.bif (.join (.bind .rfl fun _=>(.need (.bind .rfl fun _=>(.bif (.bind (OZ n _) fun _=>(.need .rfl)) .rfl)))) fun _=> .rfl) .rfl)) fun _=> .rfl)
def wC(n:Nat)(x:List ze):Option (List zk×Int):=
 zb (Qz n x) fun y1=>
 bif y1 != 0 then
  some ([],y1)
 else
  zb (Ox n x) fun y2=>
  some (y2,0)
theorem nW(n:Nat)(x:List ze):Le (wC n x) (Rk x):=by unfold wC Rk;exact(.bind (ak n _) fun _=>(.bif .rfl (.bind (OM n _) fun _=> .rfl)))
def Qv(n:Nat)(x:Str):Option Str:=
 need (decide (x.length<=maxLen))<|
 ql n (fun(s1:Int×List UInt8)=>
   bif decide (s1.1<(x.length:Int))then
    zR (X:=Int×List UInt8) (
      need (decide (0<=s1.1)&&decide (s1.1<(s1.2.length:Int)))<|
      zb s1.2[s1.1.toNat]? fun y2=>
      bif bif decide (65<=(y2.toNat:Int))then decide ((y2.toNat:Int)<=90)else false then
       need (decide (0<=s1.1)&&decide (s1.1<(s1.2.length:Int)))<|
       zb s1.2[s1.1.toNat]? fun y3=>
       need (decide (0<=s1.1)&&decide (s1.1<(s1.2.length:Int)))<|
       zb s1.2[s1.1.toNat]? fun y4=>
       zb (qD (ibOr IntKind.u8 (y3.toNat:Int) 32)) fun y5=>
       some (LX.out (s1.1,List.set s1.2 s1.1.toNat y5))
      else
       some (LX.out (s1.1,s1.2))) fun j6=>
    some (LO.again (w64 (j6.1+1),j6.2))
   else
    some (LO.out s1.2):Int×List UInt8->Option (LO (Int×List UInt8) (List UInt8) _)) (0,x) fun o7=>
 some o7
theorem Po(n:Nat)(x:Str):Le (Qv n x) (Zx x):=by unfold Qv Zx;exact(.need (.loop (fun _=>(.bif (.join (.need (.bind .rfl fun _=>(.bif (.need (.bind .rfl fun _=>(.need (.bind .rfl fun _=>(.bind .rfl fun _=> .rfl))))) .rfl))) fun _=> .rfl) .rfl)) fun _=> .rfl))
def UD(n:Nat)(x:Str):Option Bool:=
 zb (zw (!(bif x==[]then true else decide ((x.length:Int)>64))) (strings_IndexByte (x,0)) (default:Int)) fun y1=>
 bif bif bif x==[]then true else decide ((x.length:Int)>64)then true else decide (y1>=0)then
  some false
 else
  zb (strings_HasPrefix (x,[45,45])) fun y2=>
  bif y2 then
   some (!(x==[45,45]))
  else
   zb (Qv n x) fun y3=>
   some (x==y3)
theorem LY(n:Nat)(x:Str):Le (UD n x) (Vk x):=by unfold UD Vk;exact(.bind .rfl fun _=>(.bif .rfl (.bind .rfl fun _=>(.bif .rfl (.bind (Po n _) fun _=> .rfl)))))
def ek(n:Nat)(x:Str×Str):Option Bool:=
 zb (Qv n x.1) fun y1=>
 zb (Qv n x.2) fun y2=>
 some (y1==y2)
theorem Ot(n:Nat)(x:Str×Str):Le (ek n x) (ZJ x):=by unfold ek ZJ;exact(.bind (Po n _) fun _=>(.bind (Po n _) fun _=> .rfl))
def ww(n:Nat)(x:List zk):Option Int:=
 zb (geti x 0) fun y1=>
 bif bif y1.kind==9 then y1.text==[92]else false then
  zb (qb ((1,13),x)) fun y2=>
  bif !y2 then
   some 0
  else
   some 2
 else
  zb (zw (y1.kind==2) (ek n (y1.text,[117,114,108])) (default:Bool)) fun y3=>
  bif bif y1.kind==2 then y3 else false then
   zR (X:=Int) (
     zb (qb ((1,13),x)) fun y4=>
     bif y4 then
      some (LX.out 2)
     else
      some (LX.out 1)) fun j5=>
   zb (qb ((j5,5),x)) fun y6=>
   bif !y6 then
    some 0
   else
    some (w64 (j5+1))
  else
   some 1
theorem nL(n:Nat)(x:List zk):Le (ww n x) (Ii x):=by unfold ww Ii;exact(.bind .rfl fun _=>(.bif (.bind .rfl fun _=>(.bif .rfl .rfl)) (.bind (.cond (Ot n _)) fun _=>(.bif (.join (.bind .rfl fun _=>(.bif .rfl .rfl)) fun _=>(.bind .rfl fun _=>(.bif .rfl .rfl))) .rfl))))
def xw(n:Nat)(x:List zk):Option Int:=
 bif decide ((x.length:Int)>1500)then
  some 4
 else
  ql n (fun(s1:Int)=>
    bif decide (s1<(x.length:Int))then
     zb (geti x s1) fun y2=>
     zb (Nn y2) fun y3=>
     need (decide (0<=s1)&&decide (s1<=(x.length:Int))|| !(!(!y3)))<|
     zb (zw (!(!y3)) (ww n (List.drop s1.toNat x)) (default:Int)) fun y4=>
     bif bif !y3 then true else y4==0 then
      some (LO.ret 8)
     else
      some (LO.again (w64 (s1+1)))
    else
     some (LO.out ()):Int->Option (LO (Int) (Unit) _)) 0 fun o5=>
  some 0
theorem Px(n:Nat)(x:List zk):Le (xw n x) (Qo x):=by unfold xw Qo;exact(.bif .rfl (.loop (fun _=>(.bif (.bind .rfl fun _=>(.bind .rfl fun _=>(.need (.bind (.cond (nL n _)) fun _=>(.bif .rfl .rfl))))) .rfl)) fun _=> .rfl))
def BF(n:Nat)(zq:List ze->Option Bool)(x:ze):Option Bool:=
 zb (Zq ((⟨x.token,x.list⟩:ze),20)) fun y1=>
 zb (zw (!y1) (Zq ((⟨x.token,x.list⟩:ze),22)) (default:Bool)) fun y2=>
 zb (zw (!(bif y1 then true else y2)) (Zq ((⟨x.token,x.list⟩:ze),24)) (default:Bool)) fun y3=>
 zb (zw (!(bif bif y1 then true else y2 then true else y3)) (zq x.list) (default:Bool)) fun y4=>
 some (bif bif bif y1 then true else y2 then true else y3 then true else y4)
theorem U4(n:Nat)(zq decl_closers':List ze->Option Bool)(h_decl_closers: ∀z,Le (zq z) (decl_closers' z))(x:ze):Le (BF n zq x) (qP decl_closers' x):=by unfold BF qP;exact(.bind .rfl fun _=>(.bind .rfl fun _=>(.bind .rfl fun _=>(.bind (.cond (h_decl_closers _)) fun _=> .rfl))))
def Q5(n:Nat)(zq:List ze->Option Bool)(x:List ze):Option Int:=
 ql n (fun(s1:Int)=>
   bif decide (s1<(x.length:Int))then
    zb (geti x s1) fun y2=>
    zb (BF n zq (⟨y2.token,y2.list⟩:ze)) fun y3=>
    bif y3 then
     some (LO.ret s1)
    else
     some (LO.again (w64 (s1+1)))
   else
    some (LO.out ()):Int->Option (LO (Int) (Unit) _)) 0 fun o4=>
 some (-1)
theorem V7(n:Nat)(zq decl_closers':List ze->Option Bool)(h_decl_closers: ∀z,Le (zq z) (decl_closers' z))(x:List ze):Le (Q5 n zq x) (ZC decl_closers' x):=by unfold Q5 ZC;exact(.loop (fun _=>(.bif (.bind .rfl fun _=>(.bind (U4 n _ _ h_decl_closers _) fun _=>(.bif .rfl .rfl))) .rfl)) fun _=> .rfl)
def Qe(n:Nat)(zq:List ze->Option Bool)(x:List ze):Option Bool:=
 zb (Q5 n zq x) fun y1=>
 some (decide (y1>=0))
theorem D8(n:Nat)(zq decl_closers':List ze->Option Bool)(h_decl_closers: ∀z,Le (zq z) (decl_closers' z))(x:List ze):Le (Qe n zq x) (Zh decl_closers' x):=by unfold Qe Zh;exact(.bind (V7 n _ _ h_decl_closers _) fun _=> .rfl)
def yE(n:Nat)(zq:List ze->Option Bool)(x:List ze):Option Bool:=
 zb (Qe n zq x) fun y1=>
 some y1
def WM(n:Nat):List ze->Option Bool:=Ef (yE n) n
theorem X3(n:Nat)(zq decl_closers':List ze->Option Bool)(h_decl_closers: ∀z,Le (zq z) (decl_closers' z))(x:List ze):Le (yE n zq x) (Uo decl_closers' x):=by unfold yE Uo;exact(.bind (D8 n _ _ h_decl_closers _) fun _=> .rfl)
theorem xZ(n:Nat)(x:List ze):Le (WM n x) (zq x):=Le.rec (fun S S' h x=>X3 n S S' h x) n x
def Qm(n:Nat)(x:List ze):Option Int:=
 ql n (fun(s1:Int)=>
   bif decide (s1<(x.length:Int))then
    zb (geti x s1) fun y2=>
    zb (Io (⟨y2.token,y2.list⟩:ze)) fun y3=>
    bif y3 then
     some (LO.ret s1)
    else
     some (LO.again (w64 (s1+1)))
   else
    some (LO.out ()):Int->Option (LO (Int) (Unit) _)) 0 fun o4=>
 some (-1)
theorem E8(n:Nat)(x:List ze):Le (Qm n x) (Zm x):=by unfold Qm Zm;exact(.loop (fun _=>(.bif (.bind .rfl fun _=>(.bind .rfl fun _=>(.bif .rfl .rfl))) .rfl)) fun _=> .rfl)
def qJ(n:Nat)(x:List ze):Option Bool:=
 zb (Qm n x) fun y1=>
 some (decide (y1>=0))
theorem J8(n:Nat)(x:List ze):Le (qJ n x) (zW x):=by unfold qJ zW;exact(.bind (E8 n _) fun _=> .rfl)
def Rs(n:Nat)(x:zA):Option Int:=
 zb (wC n x.value) fun y1=>
 zb (UD n x.name) fun y2=>
 zb (zw (!(bif !y2 then true else y1.2 != 0)) (xw n y1.1) (default:Int)) fun y3=>
 zb (zw (!(bif bif !y2 then true else y1.2 != 0 then true else y3 != 0)) (WM n x.value) (default:Bool)) fun y4=>
 bif bif bif bif !y2 then true else y1.2 != 0 then true else y3 != 0 then true else y4 then
  some 8
 else
  zb (qJ n x.value) fun y5=>
  bif y5 then
   some 8
  else
   zb (zw ((x.value.length:Int)==0) (strings_HasPrefix (x.name,[45,45])) (default:Bool)) fun y6=>
   zb (zw (decide ((x.value.length:Int)>0)&& !(bif (x.value.length:Int)==0 then !y6 else false)) (geti x.value 0) (default:ze)) fun y7=>
   zb (zw (decide ((x.value.length:Int)>0)&& !(bif (x.value.length:Int)==0 then !y6 else false)) (Zq ((⟨y7.token,y7.list⟩:ze),13)) (default:Bool)) fun y8=>
   zb (zw (!y8&&(decide ((x.value.length:Int)>0)&& !(bif (x.value.length:Int)==0 then !y6 else false))) (geti x.value (w64 ((x.value.length:Int) - 1))) (default:ze)) fun y9=>
   zb (zw (!y8&&(decide ((x.value.length:Int)>0)&& !(bif (x.value.length:Int)==0 then !y6 else false))) (Zq ((⟨y9.token,y9.list⟩:ze),13)) (default:Bool)) fun y10=>
   bif bif bif (x.value.length:Int)==0 then !y6 else false then true else bif decide ((x.value.length:Int)>0)then bif y8 then true else y10 else false then
    some 8
   else
    some 0
theorem KE(n:Nat)(x:zA):Le (Rs n x) (Qn x):=by unfold Rs Qn;exact(.bind (nW n _) fun _=>(.bind (LY n _) fun _=>(.bind (.cond (Px n _)) fun _=>(.bind (.cond (xZ n _)) fun _=>(.bif .rfl (.bind (J8 n _) fun _=>(.bif .rfl (.bind .rfl fun _=>(.bind .rfl fun _=>(.bind .rfl fun _=>(.bind .rfl fun _=>(.bind .rfl fun _=>(.bif .rfl .rfl)))))))))))))
def mD(n:Nat)(ZW:zg×Int->Option ((Int×Bool)×Int))(x:zg×Int):Option ((Int×Bool)×Int):=
 bif decide (w64 (x.2+1)>1500)then
  some ((0,false),w64 (x.2+1))
 else
  bif x.1.kind==7 then
   zb (iD n x.1.decl.value) fun y1=>
   zb (zw (bif bif bif (x.1.list.length:Int)==0 then x.1.name==[]else false then x.1.num==0 else false then y1.2==0 else false) (Rs n x.1.decl) (default:Int)) fun y2=>
   some ((w64 (y1.1+1),bif bif bif bif (x.1.list.length:Int)==0 then x.1.name==[]else false then x.1.num==0 else false then y1.2==0 else false then y2==0 else false),w64 (x.2+1))
  else
   bif x.1.kind==8 then
    zb (zw ((x.1.list.length:Int)==0) (ZO (⟨x.1.kind,x.1.name,x.1.num,x.1.decl,x.1.list⟩:zg)) (default:Bool)) fun y3=>
    some ((1,bif (x.1.list.length:Int)==0 then y3 else false),w64 (x.2+1))
   else
    zR (X:=Bool) (
      bif x.1.kind==3 then
       some (LX.out (x.1.kind==3))
      else
       bif x.1.kind==1 then
        some (LX.out (x.1.kind==1))
       else
        some (LX.out (x.1.kind==2))) fun j4=>
    bif j4 then
     zb (ZO (⟨x.1.kind,x.1.name,x.1.num,x.1.decl,x.1.list⟩:zg)) fun y5=>
     bif bif bif !y5 then true else bif x.1.kind==3 then(x.1.list.length:Int) != 1 else false then true else bif x.1.kind != 3 then decide ((x.1.list.length:Int)<2)else false then
      some ((0,false),w64 (x.2+1))
     else
      ql n (fun(s6:(Int×Int)×Int)=>
        bif decide (s6.1.2<(x.1.list.length:Int))then
         zb (geti x.1.list s6.1.2) fun y7=>
         zb (ZW ((⟨y7.kind,y7.name,y7.num,y7.decl,y7.list⟩:zg),s6.2)) fun y8=>
         bif !y8.1.2 then
          some (LO.ret ((0,false),y8.2))
         else
          zR (X:=Int×Int) (
            zb (Di (⟨y7.kind,y7.name,y7.num,y7.decl,y7.list⟩:zg)) fun y9=>
            bif !y9 then
             some (LX.out (s6.1.1,w64 (y8.1.1+1)))
            else
             some (LX.out (s6.1.1,y8.1.1))) fun j10=>
          some (LO.again ((if j10.2>j10.1 then j10.2 else j10.1,w64 (s6.1.2+1)),y8.2))
        else
         some (LO.out (s6.1.1,s6.2)):(Int×Int)×Int->Option (LO ((Int×Int)×Int) (Int×Int) _)) ((0,0),w64 (x.2+1)) fun o11=>
      some ((o11.1,true),o11.2)
    else
     some ((0,false),w64 (x.2+1))
def rJ(n:Nat):zg×Int->Option ((Int×Bool)×Int):=Ef (mD n) n
theorem VY(n:Nat)(ZW cond_look':zg×Int->Option ((Int×Bool)×Int))(h_cond_look: ∀z,Le (ZW z) (cond_look' z))(x:zg×Int):Le (mD n ZW x) (Gj cond_look' x):=by unfold mD Gj;exact(.bif .rfl (.bif (.bind (JY n _) fun _=>(.bind (.cond (KE n _)) fun _=> .rfl)) (.bif (.bind .rfl fun _=> .rfl) (.join (.bif .rfl (.bif .rfl .rfl)) fun _=>(.bif (.bind .rfl fun _=>(.bif .rfl (.loop (fun _=>(.bif (.bind .rfl fun _=>(.bind (h_cond_look _) fun _=>(.bif .rfl (.join (.bind .rfl fun _=>(.bif .rfl .rfl)) fun _=> .rfl)))) .rfl)) fun _=> .rfl))) .rfl)))))
theorem pW(n:Nat)(x:zg×Int):Le (rJ n x) (ZW x):=Le.rec (fun S S' h x=>VY n S S' h x) n x
def qL(n:Nat)(x:zg):Option Int:=
 zb (rJ n ((⟨x.kind,x.name,x.num,x.decl,x.list⟩:zg),0)) fun y1=>
 bif bif !y1.1.2 then true else decide (y1.1.1>16)then
  some 8
 else
  some 0
theorem kF(n:Nat)(x:zg):Le (qL n x) (zZ x):=by unfold qL zZ;exact(.bind (pW n _) fun _=>(.bif .rfl .rfl))
def TN(n:Nat)(x:List ze):Option (List ze):=need (zQ 0 x.length 80) (some x)
theorem V6(n:Nat)(x):Le (TN n x) (qB x):=by
 cases x with
 |nil=> intro y hy;show both (some []) (some [])=some y;unfold both;rw[Na rfl];exact hy
 |cons a r=>exact .rfl
def FE(n:Nat)(ZY:List ze->Option (List ze))(x:List ze):Option (List ze):=
 zb (TN n x) fun y1=>
 ql n (fun(s2:Int×List ze)=>
   bif decide (s2.1<(y1.length:Int))then
    need (decide (0<=s2.1)&&decide (s2.1<(s2.2.length:Int)))<|
    zb s2.2[s2.1.toNat]? fun y3=>
    zb (ZY y3.list) fun y4=>
    need (decide (0<=s2.1)&&decide (s2.1<(s2.2.length:Int)))<|
    zb s2.2[s2.1.toNat]? fun y5=>
    some (LO.again (w64 (s2.1+1),List.set s2.2 s2.1.toNat (⟨y5.token,y4⟩:ze)))
   else
    some (LO.out s2.2):Int×List ze->Option (LO (Int×List ze) (List ze) _)) (0,y1) fun o6=>
 some o6
def kw(n:Nat):List ze->Option (List ze):=Ef (FE n) n
theorem TY(n:Nat)(ZY nest_twin':List ze->Option (List ze))(h_nest_twin: ∀z,Le (ZY z) (nest_twin' z))(x:List ze):Le (FE n ZY x) (Xn nest_twin' x):=by unfold FE Xn;exact(.bind (V6 n _) fun _=>(.loop (fun _=>(.bif (.need (.bind .rfl fun _=>(.bind (h_nest_twin _) fun _=>(.need (.bind .rfl fun _=> .rfl))))) .rfl)) fun _=> .rfl))
theorem jD(n:Nat)(x:List ze):Le (kw n x) (ZY x):=Le.rec (fun S S' h x=>TY n S S' h x) n x
def lw(n:Nat)(x:List ze):Option (List ze×Int):=
 zb (Qz n x) fun y1=>
 bif y1 != 0 then
  some ([],y1)
 else
  ql n (fun(s2:Int)=>
    zb (zw (decide (s2<(x.length:Int))) (Dj (s2,x)) (default:Bool)) fun y3=>
    bif bif decide (s2<(x.length:Int))then y3 else false then
     some (LO.again (w64 (s2+1)))
    else
     some (LO.out s2):Int->Option (LO (Int) (Int) _)) 0 fun o4=>
  ql n (fun(s5:Int)=>
    zb (zw (decide (o4<s5)) (Dj (w64 (s5 - 1),x)) (default:Bool)) fun y6=>
    bif bif decide (o4<s5)then y6 else false then
     some (LO.again (w64 (s5 - 1)))
    else
     some (LO.out s5):Int->Option (LO (Int) (Int) _)) (x.length:Int) fun o7=>
  need (decide (0<=o4)&&(decide (o4<=o7)&&(decide (o7<=o7)&&decide (o7<=(x.length:Int))))&&decide (o7=o7))<|
  zb (kw n (List.drop o4.toNat (List.take o7.toNat x))) fun y8=>
  some (y8,0)
theorem bK(n:Nat)(x:List ze):Le (lw n x) (QZ x):=by unfold lw QZ;exact(.bind (ak n _) fun _=>(.bif .rfl (.loop (fun _=>(.bind .rfl fun _=>(.bif .rfl .rfl))) fun _=>(.loop (fun _=>(.bind .rfl fun _=>(.bif .rfl .rfl))) fun _=>(.need (.bind (jD n _) fun _=> .rfl))))))
def bE(n:Nat)(Zl:zg->Option (List zA))(x:zg):Option (List zA):=
 bif x.kind==7 then
  zb (lw n x.decl.value) fun y1=>
  some [(⟨x.decl.name,y1.1,x.decl.important⟩:zA)]
 else
  ql n (fun(s2:Int×List zA)=>
    bif decide (s2.1<(x.list.length:Int))then
     zb (geti x.list s2.1) fun y3=>
     zb (Zl (⟨y3.kind,y3.name,y3.num,y3.decl,y3.list⟩:zg)) fun y4=>
     need (zQ s2.2.length y4.length 48)<|
     some (LO.again (w64 (s2.1+1),s2.2++y4))
    else
     some (LO.out s2.2):Int×List zA->Option (LO (Int×List zA) (List zA) _)) (0,[]) fun o5=>
  some o5
def Dx(n:Nat):zg->Option (List zA):=Ef (bE n) n
theorem YZ(n:Nat)(Zl cond_decls':zg->Option (List zA))(h_cond_decls: ∀z,Le (Zl z) (cond_decls' z))(x:zg):Le (bE n Zl x) (Ko cond_decls' x):=by unfold bE Ko;exact(.bif (.bind (bK n _) fun _=> .rfl) (.loop (fun _=>(.bif (.bind .rfl fun _=>(.bind (h_cond_decls _) fun _=>(.need .rfl))) .rfl)) fun _=> .rfl))
theorem ME(n:Nat)(x:zg):Le (Dx n x) (Zl x):=Le.rec (fun S S' h x=>YZ n S S' h x) n x
def YD(n:Nat)(x:zg):Option (List zA×Int):=
 zb (qL n (⟨x.kind,x.name,x.num,x.decl,x.list⟩:zg)) fun y1=>
 bif y1 != 0 then
  some ([],y1)
 else
  zb (Dx n (⟨x.kind,x.name,x.num,x.decl,x.list⟩:zg)) fun y2=>
  some (y2,0)
theorem SY(n:Nat)(x:zg):Le (YD n x) (Kr x):=by unfold YD Kr;exact(.bind (kF n _) fun _=>(.bif .rfl (.bind (ME n _) fun _=> .rfl)))
def gF(n:Nat)(x:List Str×Str):Option Int:=
 ql n (fun(s1:Int)=>
   bif decide (s1<(x.1.length:Int))then
    zb (geti x.1 s1) fun y2=>
    bif x.2==y2 then
     some (LO.ret s1)
    else
     some (LO.again (w64 (s1+1)))
   else
    some (LO.out ()):Int->Option (LO (Int) (Unit) _)) 0 fun o3=>
 some (-1)
theorem K7(n:Nat)(x:List Str×Str):Le (gF n x) (slices_Index_string x):=by unfold gF slices_Index_string;exact(.loop (fun _=>(.bif (.bind .rfl fun _=>(.bif .rfl .rfl)) .rfl)) fun _=> .rfl)
def Q4(n:Nat)(x:List Str×Str):Option Bool:=
 zb (gF n (x.1,x.2)) fun y1=>
 some (decide (y1>=0))
theorem X7(n:Nat)(x:List Str×Str):Le (Q4 n x) (slices_Contains_string x):=by unfold Q4 slices_Contains_string;exact(.bind (K7 n _) fun _=> .rfl)
def Vx(n:Nat)(x:Str):Option Bool:=
 zb (Q4 n ([[],[97,110,100],[111,114],[110,111,116],[111,110,108,121]],x)) fun y1=>
 zb (zw (bif !y1 then decide ((x.length:Int)<=64)else false) (Qv n x) (default:Str)) fun y2=>
 zb (zw (bif bif !y1 then decide ((x.length:Int)<=64)else false then y2==x else false) (strings_IndexByte (x,0)) (default:Int)) fun y3=>
 some (bif bif bif !y1 then decide ((x.length:Int)<=64)else false then y2==x else false then decide (y3<0)else false)
theorem UM(n:Nat)(x:Str):Le (Vx n x) (QF x):=by unfold Vx QF;exact(.bind (X7 n _) fun _=>(.bind (.cond (Po n _)) fun _=>(.bind .rfl fun _=> .rfl)))
def Rx(n:Nat)(x:List Int):Option Int:=
 ql n (fun(s1:Int)=>
   bif decide (s1<(x.length:Int))then
    zb (geti x s1) fun y2=>
    bif bif decide (y2<(-1000000000000))then true else decide (y2>1000000000000)then
     some (LO.ret 8)
    else
     some (LO.again (w64 (s1+1)))
   else
    some (LO.out ()):Int->Option (LO (Int) (Unit) _)) 0 fun o3=>
 some 0
theorem PM(n:Nat)(x:List Int):Le (Rx n x) (Ej x):=by unfold Rx Ej;exact(.loop (fun _=>(.bif (.bind .rfl fun _=>(.bif .rfl .rfl)) .rfl)) fun _=> .rfl)
def Tx(n:Nat)(x:Int):Option Int:=
 zb (Rx n [x]) fun y1=>
 some y1
theorem TM(n:Nat)(x:Int):Le (Tx n x) (QH x):=by unfold Tx QH;exact(.bind (PM n _) fun _=> .rfl)
def yw(n:Nat)(x:zg):Option Bool:=
 zb (zw (!(x.kind != 1)) (ZO (⟨x.kind,x.name,x.num,x.decl,x.list⟩:zg)) (default:Bool)) fun y1=>
 bif bif bif x.kind != 1 then true else !y1 then true else(x.list.length:Int)==0 then
  some false
 else
  ql n (fun(s2:Int)=>
    bif decide (s2<(x.list.length:Int))then
     zR (X:=Int) (
       zb (geti x.list s2) fun y3=>
       zb (zw (!(decide ((y3.list.length:Int)>0))) (ZO (⟨y3.kind,[],0,y3.decl,y3.list⟩:zg)) (default:Bool)) fun y4=>
       bif bif decide ((y3.list.length:Int)>0)then true else !y4 then
        some (LX.ret (LO.ret false))
       else
        bif y3.kind==4 then
         zb (zw (!(bif decide (s2>0)then true else y3.num != 0)) (Vx n y3.name) (default:Bool)) fun y5=>
         bif bif bif decide (s2>0)then true else y3.num != 0 then true else !y5 then
          some (LX.ret (LO.ret false))
         else
          some (LX.out s2)
        else
         zR (X:=Bool) (
           bif y3.kind==5 then
            some (LX.out (y3.kind==5))
           else
            some (LX.out (y3.kind==6))) fun j6=>
         bif j6 then
          zb (zw (!(bif !(y3.name==[])then true else decide (y3.num<0))) (Tx n y3.num) (default:Int)) fun y7=>
          bif bif bif !(y3.name==[])then true else decide (y3.num<0)then true else y7 != 0 then
           some (LX.ret (LO.ret false))
          else
           some (LX.out s2)
         else
          some (LX.ret (LO.ret false))) fun j8=>
     some (LO.again (w64 (j8+1)))
    else
     some (LO.out ()):Int->Option (LO (Int) (Unit) _)) 0 fun o9=>
  some true
theorem oL(n:Nat)(x:zg):Le (yw n x) (ui x):=by unfold yw ui;exact(.bind .rfl fun _=>(.bif .rfl (.loop (fun _=>(.bif (.join (.bind .rfl fun _=>(.bind .rfl fun _=>(.bif .rfl (.bif (.bind (.cond (UM n _)) fun _=>(.bif .rfl .rfl)) (.join (.bif .rfl .rfl) fun _=>(.bif (.bind (.cond (TM n _)) fun _=>(.bif .rfl .rfl)) .rfl)))))) fun _=> .rfl) .rfl)) fun _=> .rfl)))
def GD(n:Nat)(x:zg):Option Bool:=
 bif x.kind==3 then
  zb (ZO (⟨x.kind,x.name,x.num,x.decl,x.list⟩:zg)) fun y1=>
  zb (zw (bif y1 then(x.list.length:Int)==1 else false) (geti x.list 0) (default:zg)) fun y2=>
  zb (zw (bif y1 then(x.list.length:Int)==1 else false) (yw n (⟨y2.kind,y2.name,y2.num,y2.decl,y2.list⟩:zg)) (default:Bool)) fun y3=>
  zb (zw (bif bif y1 then(x.list.length:Int)==1 else false then y3 else false) (geti x.list 0) (default:zg)) fun y4=>
  zb (zw (bif bif y1 then(x.list.length:Int)==1 else false then y3 else false) (Tn (⟨y4.kind,y4.name,y4.num,y4.decl,y4.list⟩:zg)) (default:Bool)) fun y5=>
  some (bif bif bif y1 then(x.list.length:Int)==1 else false then y3 else false then y5 else false)
 else
  zb (yw n (⟨x.kind,x.name,x.num,x.decl,x.list⟩:zg)) fun y6=>
  some y6
theorem rW(n:Nat)(x:zg):Le (GD n x) (Kk x):=by unfold GD Kk;exact(.bif (.bind .rfl fun _=>(.bind .rfl fun _=>(.bind (.cond (oL n _)) fun _=>(.bind .rfl fun _=>(.bind .rfl fun _=> .rfl))))) (.bind (oL n _) fun _=> .rfl))
def JF(n:Nat)(x:zg):Option Bool:=
 zb (GD n (⟨x.kind,x.name,x.num,x.decl,x.list⟩:zg)) fun y1=>
 some (!y1)
theorem H6(n:Nat)(x:zg):Le (JF n x) (qd x):=by unfold JF qd;exact(.bind (rW n _) fun _=> .rfl)
def bF(n:Nat)(x:List zg):Option Int:=
 ql n (fun(s1:Int)=>
   bif decide (s1<(x.length:Int))then
    zb (geti x s1) fun y2=>
    zb (JF n (⟨y2.kind,y2.name,y2.num,y2.decl,y2.list⟩:zg)) fun y3=>
    bif y3 then
     some (LO.ret s1)
    else
     some (LO.again (w64 (s1+1)))
   else
    some (LO.out ()):Int->Option (LO (Int) (Unit) _)) 0 fun o4=>
 some (-1)
theorem l7(n:Nat)(x:List zg):Le (bF n x) (ZP x):=by unfold bF ZP;exact(.loop (fun _=>(.bif (.bind .rfl fun _=>(.bind (H6 n _) fun _=>(.bif .rfl .rfl))) .rfl)) fun _=> .rfl)
def Ql(n:Nat)(x:List zg):Option Bool:=
 zb (bF n x) fun y1=>
 some (decide (y1>=0))
theorem F8(n:Nat)(x:List zg):Le (Ql n x) (Zc x):=by unfold Ql Zc;exact(.bind (l7 n _) fun _=> .rfl)
def Ny(n:Nat)(x:zg):Option Int:=
 zb (zw (bif bif x.kind==2 then decide ((x.list.length:Int)>0)else false then decide ((x.list.length:Int)<=64)else false) (Ql n x.list) (default:Bool)) fun y1=>
 zb (ZO (⟨x.kind,x.name,x.num,x.decl,x.list⟩:zg)) fun y2=>
 bif bif !y2 then true else bif !(bif x.kind==1 then(x.list.length:Int)==0 else false)then !(bif bif bif x.kind==2 then decide ((x.list.length:Int)>0)else false then decide ((x.list.length:Int)<=64)else false then !y1 else false)else false then
  some 8
 else
  some 0
theorem GN(n:Nat)(x:zg):Le (Ny n x) (ZV x):=by unfold Ny ZV;exact(.bind (.cond (F8 n _)) fun _=>(.bind .rfl fun _=>(.bif .rfl .rfl)))
def Vs(n:Nat)(x:zg):Option Int:=
 zb (Ny n (⟨x.kind,x.name,x.num,x.decl,x.list⟩:zg)) fun y1=>
 bif y1 != 0 then
  zb (qL n (⟨x.kind,x.name,x.num,x.decl,x.list⟩:zg)) fun y2=>
  some y2
 else
  some 0
theorem NE(n:Nat)(x:zg):Le (Vs n x) (QT x):=by unfold Vs QT;exact(.bind (GN n _) fun _=>(.bif (.bind (kF n _) fun _=> .rfl) .rfl))
def YE(n:Nat)(Z7:(zg×Int)×Int×List Bool->Option (Bool×Int))(x:(zg×Int)×Int×List Bool):Option (Bool×Int):=
 bif x.1.1.kind==4 then
  some (bif x.1.1.name==[97,108,108]then true else x.1.1.name==[115,99,114,101,101,110],x.2.1)
 else
  bif x.1.1.kind==5 then
   some (decide (x.1.2>=x.1.1.num),x.2.1)
  else
   bif x.1.1.kind==6 then
    some (decide (x.1.2<=x.1.1.num),x.2.1)
   else
    bif x.1.1.kind==7 then
     zb (Ws (x.2.1,x.2.2)) fun y1=>
     some (y1.1,y1.2)
    else
     bif x.1.1.kind==8 then
      some (false,x.2.1)
     else
      ql n (fun(s2:(Bool×Bool×Int)×Int)=>
        bif decide (s2.1.2.2<(x.1.1.list.length:Int))then
         zb (geti x.1.1.list s2.1.2.2) fun y3=>
         zb (Z7 (((⟨y3.kind,y3.name,y3.num,y3.decl,y3.list⟩:zg),x.1.2),s2.2,x.2.2)) fun y4=>
         some (LO.again ((bif s2.1.1 then y4.1 else false,bif s2.1.2.1 then true else y4.1,w64 (s2.1.2.2+1)),y4.2))
        else
         some (LO.out ((s2.1.1,s2.1.2.1),s2.2)):(Bool×Bool×Int)×Int->Option (LO ((Bool×Bool×Int)×Int) ((Bool×Bool)×Int) _)) ((true,false,0),x.2.1) fun o5=>
      bif x.1.1.kind==1 then
       some (o5.1.1,o5.2)
      else
       bif x.1.1.kind==2 then
        some (o5.1.2,o5.2)
       else
        some (!o5.1.2,o5.2)
def jK(n:Nat):(zg×Int)×Int×List Bool->Option (Bool×Int):=Ef (YE n) n
theorem XZ(n:Nat)(Z7 cond_holds':(zg×Int)×Int×List Bool->Option (Bool×Int))(h_cond_holds: ∀z,Le (Z7 z) (cond_holds' z))(x:(zg×Int)×Int×List Bool):Le (YE n Z7 x) (Jo cond_holds' x):=by unfold YE Jo;exact(.bif .rfl (.bif .rfl (.bif .rfl (.bif (.bind .rfl fun _=> .rfl) (.bif .rfl (.loop (fun _=>(.bif (.bind .rfl fun _=>(.bind (h_cond_holds _) fun _=> .rfl)) .rfl)) fun _=>(.bif .rfl (.bif .rfl .rfl))))))))
theorem OY(n:Nat)(x:(zg×Int)×Int×List Bool):Le (jK n x) (Z7 x):=Le.rec (fun S S' h x=>XZ n S S' h x) n x
def XD(n:Nat)(x:zg×VEnv×List Bool):Option (Bool×Int):=
 zb (Vs n (⟨x.1.kind,x.1.name,x.1.num,x.1.decl,x.1.list⟩:zg)) fun y1=>
 bif y1 != 0 then
  some (false,y1)
 else
  zb (zw (!(bif decide (x.2.1.width<0)then true else decide (x.2.1.width>1000000000))) (Dx n (⟨x.1.kind,x.1.name,x.1.num,x.1.decl,x.1.list⟩:zg)) (default:List zA)) fun y2=>
  bif bif bif decide (x.2.1.width<0)then true else decide (x.2.1.width>1000000000)then true else(x.2.2.length:Int) != (y2.length:Int)then
   some (false,2)
  else
   zb (jK n (((⟨x.1.kind,x.1.name,x.1.num,x.1.decl,x.1.list⟩:zg),w64 (1000*x.2.1.width)),0,x.2.2)) fun y3=>
   some (y3.1,0)
theorem RY(n:Nat)(x:zg×VEnv×List Bool):Le (XD n x) (Z6 x):=by unfold XD Z6;exact(.bind (NE n _) fun _=>(.bif .rfl (.bind (.cond (ME n _)) fun _=>(.bif .rfl (.bind (OY n _) fun _=> .rfl)))))
def SE(n:Nat)(x:Str×Int):Option (List UInt8):=
 ql n (fun(s1:Int×List UInt8)=>
   bif decide (s1.1<(x.1.length:Int))then
    zR (X:=Int×List UInt8) (
      zb (geti x.1 s1.1) fun y2=>
      zb (QW (y2.toNat:Int)) fun y3=>
      zb (zw (!(decide (s1.1>=x.2))&&y3) (Z8 (y2.toNat:Int)) (default:Bool)) fun y4=>
      bif bif bif y3 then bif decide (s1.1>=x.2)then true else !y4 else false then bif x.2==0 then true else !(x.1==[45])else false then
       zb (qD (y2.toNat:Int)) fun y5=>
       need (zQ s1.2.length 1 1)<|
       some (LX.out (s1.1,s1.2++[y5]))
      else
       zb (Zk ((y2.toNat:Int),s1.2)) fun y6=>
       some (LX.out (s1.1,y6))) fun j7=>
    some (LO.again (w64 (j7.1+1),j7.2))
   else
    some (LO.out s1.2):Int×List UInt8->Option (LO (Int×List UInt8) (List UInt8) _)) (0,[]) fun o8=>
 some o8
theorem UZ(n:Nat)(x:Str×Int):Le (SE n x) (Yr x):=by unfold SE Yr;exact(.loop (fun _=>(.bif (.join (.bind .rfl fun _=>(.bind .rfl fun _=>(.bind .rfl fun _=>(.bif (.bind .rfl fun _=>(.need .rfl)) (.bind .rfl fun _=> .rfl))))) fun _=> .rfl) .rfl)) fun _=> .rfl)
def ow(n:Nat)(x:Str):Option (Str×Int):=
 zb (zw (!(x==[])) (strings_IndexByte (x,0)) (default:Int)) fun y1=>
 bif bif x==[]then true else decide (y1>=0)then
  some ([],8)
 else
  zb (qg x) fun y2=>
  zb (SE n (x,y2)) fun y3=>
  bif bif decide ((x.length:Int)>4000)then true else decide ((y3.length:Int)>4000)then
   some ([],28)
  else
   some (y3,0)
theorem cK(n:Nat)(x:Str):Le (ow n x) (Dk x):=by unfold ow Dk;exact(.bind .rfl fun _=>(.bif .rfl (.bind .rfl fun _=>(.bind (UZ n _) fun _=>(.bif .rfl .rfl)))))
def TE(n:Nat)(x:Int):Option (Str×Int):=
 zb (Rx n [x]) fun y1=>
 bif y1 != 0 then
  some ([],y1)
 else
  zR (X:=Int) (
    bif decide (x<0)then
     some (LX.out (w64 (0 - x)))
    else
     some (LX.out x)) fun j2=>
  ql n (fun(s3:(Int×Int)×List UInt8×Int)=>
    bif decide (s3.1.2<3)then
     zR (X:=(Int×Int)×List UInt8×Int) (
       zR (X:=Int×List UInt8×Int) (
         bif bif Int.tmod s3.1.1 10 != 0 then true else decide (s3.2.2<20)then
          zb (qj (wu8 (w64 (48+Int.tmod s3.1.1 10)),s3.2.2,s3.2.1)) fun y4=>
          some (LX.out (s3.1.1,y4.2,y4.1))
         else
          some (LX.out (s3.1.1,s3.2.1,s3.2.2))) fun j5=>
       bif bif s3.1.2==2 then decide (j5.2.2<20)else false then
        zb (qj (46,j5.2.2,j5.2.1)) fun y6=>
        some (LX.out ((w64 (Int.tdiv j5.1 10),s3.1.2),y6.2,y6.1))
       else
        some (LX.out ((w64 (Int.tdiv j5.1 10),s3.1.2),j5.2.1,j5.2.2))) fun j7=>
     some (LO.again ((j7.1.1,w64 (j7.1.2+1)),j7.2.1,j7.2.2))
    else
     some (LO.out (s3.2.1,s3.2.2)):(Int×Int)×List UInt8×Int->Option (LO ((Int×Int)×List UInt8×Int) (List UInt8×Int) _)) ((Int.tmod j2 1000,0),List.replicate 20 (0:UInt8),20) fun o8=>
  ql n (fun(s9:Int×List UInt8×Int)=>
    zb (qj (wu8 (w64 (48+Int.tmod s9.1 10)),s9.2.2,s9.2.1)) fun y10=>
    bif decide (s9.1<10)then
     some (LO.out (y10.2,y10.1))
    else
     some (LO.again (w64 (Int.tdiv s9.1 10),y10.2,y10.1)):Int×List UInt8×Int->Option (LO (Int×List UInt8×Int) (List UInt8×Int) _)) (w64 (Int.tdiv j2 1000),o8.1,o8.2) fun o11=>
  zR (X:=List UInt8×Int) (
    bif decide (x<0)then
     zb (qj (45,o11.2,o11.1)) fun y12=>
     some (LX.out (y12.2,y12.1))
    else
     some (LX.out (o11.1,o11.2))) fun j13=>
  need (decide (0<=j13.2)&&decide (j13.2<=20)&&Nat.beq j13.1.length 20)<|
  need (decide (j13.2.toNat+(20 - j13.2.toNat)<=j13.1.length))<|
  some (List.take (20 - j13.2.toNat) (List.drop j13.2.toNat j13.1),0)
theorem VZ(n:Nat)(x:Int):Le (TE n x) (kr x):=by unfold TE kr;exact(.bind (PM n _) fun _=>(.bif .rfl (.join (.bif .rfl .rfl) fun _=>(.loop (fun _=>(.bif (.join (.join (.bif (.bind .rfl fun _=> .rfl) .rfl) fun _=>(.bif (.bind .rfl fun _=> .rfl) .rfl)) fun _=> .rfl) .rfl)) fun _=>(.loop (fun _=>(.bind .rfl fun _=>(.bif .rfl .rfl))) fun _=>(.join (.bif (.bind .rfl fun _=> .rfl) .rfl) fun _=>(.need (.need .rfl))))))))
def fw(n:Nat)(zU:zg->Option Str)(x:List zg×Str):Option Str:=
 ql n (fun(s1:Int×List Str)=>
   bif decide (s1.1<(x.1.length:Int))then
    zb (geti x.1 s1.1) fun y2=>
    zb (zU (⟨y2.kind,y2.name,y2.num,y2.decl,y2.list⟩:zg)) fun y3=>
    need (zQ s1.2.length 1 16)<|
    some (LO.again (w64 (s1.1+1),s1.2++[y3]))
   else
    some (LO.out s1.2):Int×List Str->Option (LO (Int×List Str) (List Str) _)) (0,[]) fun o4=>
 zb (Kh (o4,x.2)) fun y5=>
 some y5
theorem dK(n:Nat)(zU cond_media':zg->Option Str)(h_cond_media: ∀z,Le (zU z) (cond_media' z))(x:List zg×Str):Le (fw n zU x) (Pn cond_media' x):=by unfold fw Pn;exact(.loop (fun _=>(.bif (.bind .rfl fun _=>(.bind (h_cond_media _) fun _=>(.need .rfl))) .rfl)) fun _=>(.bind .rfl fun _=> .rfl))
def XE(n:Nat)(zU:zg->Option Str)(x:zg):Option Str:=
 bif x.kind==4 then
  zb (ow n x.name) fun y1=>
  some y1.1
 else
  bif x.kind==3 then
   zb (geti x.list 0) fun y2=>
   zb (zU (⟨y2.kind,y2.name,y2.num,y2.decl,y2.list⟩:zg)) fun y3=>
   need (Ue ([110,111,116,32]:Str).length y3.length)<|
   some (([110,111,116,32]:Str)++y3)
  else
   bif x.kind==2 then
    zb (fw n zU (x.list,[44,32])) fun y4=>
    some y4
   else
    bif x.kind==1 then
     zb (fw n zU (x.list,[32,97,110,100,32])) fun y5=>
     some y5
    else
     zb (TE n x.num) fun y6=>
     bif x.kind==5 then
      need (Ue ([40,109,105,110,45,119,105,100,116,104,58,32]:Str).length y6.1.length)<|
      need (Ue (([40,109,105,110,45,119,105,100,116,104,58,32]:Str)++y6.1).length ([112,120,41]:Str).length)<|
      some (([40,109,105,110,45,119,105,100,116,104,58,32]:Str)++y6.1++([112,120,41]:Str))
     else
      need (Ue ([40,109,97,120,45,119,105,100,116,104,58,32]:Str).length y6.1.length)<|
      need (Ue (([40,109,97,120,45,119,105,100,116,104,58,32]:Str)++y6.1).length ([112,120,41]:Str).length)<|
      some (([40,109,97,120,45,119,105,100,116,104,58,32]:Str)++y6.1++([112,120,41]:Str))
def iK(n:Nat):zg->Option Str:=Ef (XE n) n
theorem WZ(n:Nat)(zU cond_media':zg->Option Str)(h_cond_media: ∀z,Le (zU z) (cond_media' z))(x:zg):Le (XE n zU x) (Us cond_media' x):=by unfold XE Us;exact(.bif (.bind (cK n _) fun _=> .rfl) (.bif (.bind .rfl fun _=>(.bind (h_cond_media _) fun _=>(.need .rfl))) (.bif (.bind (dK n _ _ h_cond_media _) fun _=> .rfl) (.bif (.bind (dK n _ _ h_cond_media _) fun _=> .rfl) (.bind (VZ n _) fun _=>(.bif (.need (.need .rfl)) (.need (.need .rfl))))))))
theorem NY(n:Nat)(x:zg):Le (iK n x) (zU x):=Le.rec (fun S S' h x=>WZ n S S' h x) n x
def Qt(n:Nat)(x:(Str×Int)×List UInt8):Option (List UInt8):=
 ql n (fun(s1:Int×List UInt8)=>
   bif decide (s1.1<(x.1.1.length:Int))then
    zR (X:=Int×List UInt8) (
      zb (geti x.1.1 s1.1) fun y2=>
      zb (QW (y2.toNat:Int)) fun y3=>
      zb (zw (!(decide (s1.1>=x.1.2))&&y3) (Z8 (y2.toNat:Int)) (default:Bool)) fun y4=>
      bif bif bif y3 then bif decide (s1.1>=x.1.2)then true else !y4 else false then bif x.1.2==0 then true else !(x.1.1==[45])else false then
       zb (qD (y2.toNat:Int)) fun y5=>
       need (zQ s1.2.length 1 1)<|
       some (LX.out (s1.1,s1.2++[y5]))
      else
       zb (Zk ((y2.toNat:Int),s1.2)) fun y6=>
       some (LX.out (s1.1,y6))) fun j7=>
    some (LO.again (w64 (j7.1+1),j7.2))
   else
    some (LO.out s1.2):Int×List UInt8->Option (LO (Int×List UInt8) (List UInt8) _)) (0,x.2) fun o8=>
 some o8
theorem Ro(n:Nat)(x:(Str×Int)×List UInt8):Le (Qt n x) (QI x):=by unfold Qt QI;exact(.loop (fun _=>(.bif (.join (.bind .rfl fun _=>(.bind .rfl fun _=>(.bind .rfl fun _=>(.bif (.bind .rfl fun _=>(.need .rfl)) (.bind .rfl fun _=> .rfl))))) fun _=> .rfl) .rfl)) fun _=> .rfl)
def PE(n:Nat)(x:zk×List UInt8):Option (List UInt8):=
 bif x.1.kind==1 then
  zb (qg x.1.text) fun y1=>
  zb (Qt n ((x.1.text,y1),x.2)) fun y2=>
  some y2
 else
  bif x.1.kind==2 then
   zb (qg x.1.text) fun y3=>
   zb (Qt n ((x.1.text,y3),x.2)) fun y4=>
   need (zQ y4.length 1 1)<|
   some (y4++[(40:UInt8)])
  else
   bif x.1.kind==3 then
    need (zQ x.2.length 1 1)<|
    zb (qg x.1.text) fun y5=>
    zb (Qt n ((x.1.text,y5),x.2++[(64:UInt8)])) fun y6=>
    some y6
   else
    bif x.1.kind==4 then
     zR (X:=Int×List UInt8) (
       bif x.1.flag then
        zb (qg x.1.text) fun y7=>
        some (LX.out (y7,x.2))
       else
        some (LX.out (0,x.2))) fun j8=>
     need (zQ j8.2.length 1 1)<|
     zb (Qt n ((x.1.text,j8.1),j8.2++[(35:UInt8)])) fun y9=>
     some y9
    else
     bif x.1.kind==5 then
      need (zQ x.2.length 1 1)<|
      need (decide (x.1.text.length<=maxLen))<|
      ql n (fun(s10:Int×List UInt8)=>
        bif decide (s10.1<(x.1.text.length:Int))then
         zR (X:=Int×List UInt8) (
           need (decide (0<=s10.1)&&decide (s10.1<(x.1.text.length:Int)))<|
           zb x.1.text[s10.1.toNat]? fun y11=>
           zb (strings_IndexByte ([10,12,13,34,92],(y11.toNat:Int))) fun y12=>
           bif decide (y12>=0)then
            zb (Zk ((y11.toNat:Int),s10.2)) fun y13=>
            some (LX.out (s10.1,y13))
           else
            zb (qD (y11.toNat:Int)) fun y14=>
            need (zQ s10.2.length 1 1)<|
            some (LX.out (s10.1,s10.2++[y14]))) fun j15=>
         some (LO.again (w64 (j15.1+1),j15.2))
        else
         some (LO.out s10.2):Int×List UInt8->Option (LO (Int×List UInt8) (List UInt8) _)) (0,x.2++[(34:UInt8)]) fun o16=>
      need (zQ o16.length 1 1)<|
      some (o16++[(34:UInt8)])
     else
      bif x.1.kind==7 then
       need (zQ x.2.length ([117,114,108,40]:Str).length 1)<|
       need (decide (x.1.text.length<=maxLen))<|
       ql n (fun(s17:Int×List UInt8)=>
         bif decide (s17.1<(x.1.text.length:Int))then
          zR (X:=Int×List UInt8) (
            need (decide (0<=s17.1)&&decide (s17.1<(x.1.text.length:Int)))<|
            zb x.1.text[s17.1.toNat]? fun y18=>
            zb (zw (!(decide ((y18.toNat:Int)<=32))) (strings_IndexByte ([34,39,40,41,92,127],(y18.toNat:Int))) (default:Int)) fun y19=>
            bif bif decide ((y18.toNat:Int)<=32)then true else decide (y19>=0)then
             zb (Zk ((y18.toNat:Int),s17.2)) fun y20=>
             some (LX.out (s17.1,y20))
            else
             zb (qD (y18.toNat:Int)) fun y21=>
             need (zQ s17.2.length 1 1)<|
             some (LX.out (s17.1,s17.2++[y21]))) fun j22=>
          some (LO.again (w64 (j22.1+1),j22.2))
         else
          some (LO.out s17.2):Int×List UInt8->Option (LO (Int×List UInt8) (List UInt8) _)) (0,x.2++([117,114,108,40]:Str)) fun o23=>
       need (zQ o23.length 1 1)<|
       some (o23++[(41:UInt8)])
      else
       bif x.1.kind==9 then
        need (zQ x.2.length x.1.text.length 1)<|
        some (x.2++x.1.text)
       else
        bif x.1.kind==10 then
         zb (Qu ((x.1.num, !x.1.flag),x.2)) fun y24=>
         some y24
        else
         bif x.1.kind==11 then
          zb (Qu ((x.1.num,false),x.2)) fun y25=>
          need (zQ y25.length 1 1)<|
          some (y25++[(37:UInt8)])
         else
          bif x.1.kind==12 then
           zb (Qu ((x.1.num, !x.1.flag),x.2)) fun y26=>
           zb (geti x.1.unit 0) fun y27=>
           need (decide (1<=(x.1.unit.length:Int))|| !(ibOr IntKind.u8 (y27.toNat:Int) 32==101))<|
           zb (zw (ibOr IntKind.u8 (y27.toNat:Int) 32==101) (Aj (List.drop 1 x.1.unit)) (default:Bool)) fun y28=>
           need (decide (1<=(x.1.unit.length:Int))|| !(bif ibOr IntKind.u8 (y27.toNat:Int) 32==101 then y28 else false))<|
           zb (zw (bif ibOr IntKind.u8 (y27.toNat:Int) 32==101 then y28 else false) (strings_HasPrefix (List.drop 1 x.1.unit,[45,45])) (default:Bool)) fun y29=>
           bif bif bif ibOr IntKind.u8 (y27.toNat:Int) 32==101 then y28 else false then !y29 else false then
            zb (geti x.1.unit 0) fun y30=>
            zb (Zk ((y30.toNat:Int),y26)) fun y31=>
            need (decide (1<=(x.1.unit.length:Int)))<|
            zb (Qt n ((List.drop 1 x.1.unit,0),y31)) fun y32=>
            some y32
           else
            zb (qg x.1.unit) fun y33=>
            zb (Qt n ((x.1.unit,y33),y26)) fun y34=>
            some y34
          else
           zb (Xw ()) fun y35=>
           zb (geti [y35.e0,y35.e1,y35.e2,y35.e3,y35.e4,y35.e5,y35.e6,y35.e7,y35.e8,y35.e9,y35.e10,y35.e11] (wu8 (x.1.kind - 13))) fun y36=>
           need (zQ x.2.length y36.length 1)<|
           some (x.2++y36)
theorem TZ(n:Nat)(x:zk×List UInt8):Le (PE n x) (Xr x):=by unfold PE Xr;exact(.bif (.bind .rfl fun _=>(.bind (Ro n _) fun _=> .rfl)) (.bif (.bind .rfl fun _=>(.bind (Ro n _) fun _=>(.need .rfl))) (.bif (.need (.bind .rfl fun _=>(.bind (Ro n _) fun _=> .rfl))) (.bif (.join (.bif (.bind .rfl fun _=> .rfl) .rfl) fun _=>(.need (.bind (Ro n _) fun _=> .rfl))) (.bif (.need (.need (.loop (fun _=>(.bif (.join (.need (.bind .rfl fun _=>(.bind .rfl fun _=>(.bif (.bind .rfl fun _=> .rfl) (.bind .rfl fun _=>(.need .rfl)))))) fun _=> .rfl) .rfl)) fun _=>(.need .rfl)))) (.bif (.need (.need (.loop (fun _=>(.bif (.join (.need (.bind .rfl fun _=>(.bind .rfl fun _=>(.bif (.bind .rfl fun _=> .rfl) (.bind .rfl fun _=>(.need .rfl)))))) fun _=> .rfl) .rfl)) fun _=>(.need .rfl)))) (.bif (.need .rfl) (.bif (.bind .rfl fun _=> .rfl) (.bif (.bind .rfl fun _=>(.need .rfl)) (.bif (.bind .rfl fun _=>(.bind .rfl fun _=>(.need (.bind .rfl fun _=>(.need (.bind .rfl fun _=>(.bif (.bind .rfl fun _=>(.bind .rfl fun _=>(.need (.bind (Ro n _) fun _=> .rfl)))) (.bind .rfl fun _=>(.bind (Ro n _) fun _=> .rfl))))))))) (.bind .rfl fun _=>(.bind .rfl fun _=>(.need .rfl)))))))))))))
def qC(n:Nat)(x:za):Option za:=
 ql n (fun(s1:za)=>
   need (decide (0<=s1.at_)&&decide (s1.at_<=(s1.s.length:Int)))<|
   zb (strings_HasPrefix (List.drop s1.at_.toNat s1.s,[47,42])) fun y2=>
   bif y2 then
    need (decide (0<=w64 (s1.at_+2))&&decide (w64 (s1.at_+2)<=(s1.s.length:Int)))<|
    zb (Si (List.drop (w64 (s1.at_+2)).toNat s1.s,[42,47])) fun y3=>
    bif decide (y3<0)then
     some (LO.ret (⟨s1.s,(s1.s.length:Int)⟩:za))
    else
     some (LO.again (⟨s1.s,w64 (s1.at_+w64 (y3+4))⟩:za))
   else
    some (LO.out s1):za->Option (LO (za) (za) _)) x fun o4=>
 some o4
theorem sN(n:Nat)(x:za):Le (qC n x) (ZE x):=by unfold qC ZE;exact(.loop (fun _=>(.need (.bind .rfl fun _=>(.bif (.need (.bind .rfl fun _=>(.bif .rfl .rfl))) .rfl)))) fun _=> .rfl)
def ZQ(n:Nat)(x:za):Option za:=
 ql n (fun(s1:za)=>
   zb (zf (0,s1)) fun y2=>
   zb (Zz y2) fun y3=>
   bif y3 then
    some (LO.again (⟨s1.s,w64 (s1.at_+1)⟩:za))
   else
    some (LO.out s1):za->Option (LO (za) (za) _)) x fun o4=>
 some o4
theorem Qh(n:Nat)(x:za):Le (ZQ n x) (Za x):=by unfold ZQ Za;exact(.loop (fun _=>(.bind .rfl fun _=>(.bind .rfl fun _=>(.bif .rfl .rfl)))) fun _=> .rfl)
def QL(n:Nat)(x:za):Option (za×List UInt8):=
 zb (zf (0,(⟨x.s,w64 (x.at_+1)⟩:za))) fun y1=>
 bif y1==(-1)then
  zb (qV 65533) fun y2=>
  some ((⟨x.s,w64 (x.at_+1)⟩:za),y2)
 else
  zb (Ih y1) fun y3=>
  bif decide (y3<0)then
   zb (qD (wu8 y1)) fun y4=>
   need (zQ 0 1 1)<|
   some ((⟨x.s,w64 (w64 (x.at_+1)+1)⟩:za),[y4])
  else
   ql n (fun(s5:(Int×Int)×za)=>
     bif decide (s5.1.2<6)then
      zb (zf (0,s5.2)) fun y6=>
      zb (Ih y6) fun y7=>
      bif decide (y7<0)then
       some (LO.out (s5.1.1,s5.2))
      else
       some (LO.again ((ibOr IntKind.i64 (Gu IntKind.i64 s5.1.1 4) y7,w64 (s5.1.2+1)),(⟨s5.2.s,w64 (s5.2.at_+1)⟩:za)))
     else
      some (LO.out (s5.1.1,s5.2)):(Int×Int)×za->Option (LO ((Int×Int)×za) (Int×za) _)) ((0,0),(⟨x.s,w64 (x.at_+1)⟩:za)) fun o8=>
   zR (X:=Int×za) (
     zb (zf (0,o8.2)) fun y9=>
     zb (Zz y9) fun y10=>
     bif y10 then
      some (LX.out (o8.1,(⟨o8.2.s,w64 (o8.2.at_+1)⟩:za)))
     else
      some (LX.out (o8.1,o8.2))) fun j11=>
   zR (X:=Int) (
     bif j11.1==0 then
      some (LX.out 65533)
     else
      some (LX.out j11.1)) fun j12=>
   zb (qV (w32 j12)) fun y13=>
   some (j11.2,y13)
theorem N7(n:Nat)(x:za):Le (QL n x) (Z0 x):=by unfold QL Z0;exact(.bind .rfl fun _=>(.bif (.bind .rfl fun _=> .rfl) (.bind .rfl fun _=>(.bif (.bind .rfl fun _=>(.need .rfl)) (.loop (fun _=>(.bif (.bind .rfl fun _=>(.bind .rfl fun _=>(.bif .rfl .rfl))) .rfl)) fun _=>(.join (.bind .rfl fun _=>(.bind .rfl fun _=>(.bif .rfl .rfl))) fun _=>(.join (.bif .rfl .rfl) fun _=>(.bind .rfl fun _=> .rfl))))))))
def ZF(n:Nat)(x:za×List UInt8):Option (za×List UInt8):=
 zb (zf (0,(⟨x.1.s,w64 (x.1.at_+1)⟩:za))) fun y1=>
 bif y1==(-1)then
  zb (qW (65533,x.2)) fun y2=>
  some ((⟨x.1.s,w64 (x.1.at_+1)⟩:za),y2)
 else
  zb (Ih y1) fun y3=>
  bif decide (y3<0)then
   zb (qD (wu8 y1)) fun y4=>
   need (zQ x.2.length 1 1)<|
   some ((⟨x.1.s,w64 (w64 (x.1.at_+1)+1)⟩:za),x.2++[y4])
  else
   ql n (fun(s5:(Int×Int)×za)=>
     bif decide (s5.1.2<6)then
      zb (zf (0,s5.2)) fun y6=>
      zb (Ih y6) fun y7=>
      bif decide (y7<0)then
       some (LO.out (s5.1.1,s5.2))
      else
       some (LO.again ((ibOr IntKind.i64 (Gu IntKind.i64 s5.1.1 4) y7,w64 (s5.1.2+1)),(⟨s5.2.s,w64 (s5.2.at_+1)⟩:za)))
     else
      some (LO.out (s5.1.1,s5.2)):(Int×Int)×za->Option (LO ((Int×Int)×za) (Int×za) _)) ((0,0),(⟨x.1.s,w64 (x.1.at_+1)⟩:za)) fun o8=>
   zR (X:=Int×za×List UInt8) (
     zb (zf (0,o8.2)) fun y9=>
     zb (Zz y9) fun y10=>
     bif y10 then
      some (LX.out (o8.1,(⟨o8.2.s,w64 (o8.2.at_+1)⟩:za),x.2))
     else
      some (LX.out (o8.1,o8.2,x.2))) fun j11=>
   zR (X:=Int×List UInt8) (
     bif j11.1==0 then
      some (LX.out (65533,j11.2.2))
     else
      some (LX.out (j11.1,j11.2.2))) fun j12=>
   zb (qW (w32 j12.1,j12.2)) fun y13=>
   some (j11.2.1,y13)
theorem Qj(n:Nat)(x:za×List UInt8):Le (ZF n x) (zV x):=by unfold ZF zV;exact(.bind .rfl fun _=>(.bif (.bind .rfl fun _=> .rfl) (.bind .rfl fun _=>(.bif (.bind .rfl fun _=>(.need .rfl)) (.loop (fun _=>(.bif (.bind .rfl fun _=>(.bind .rfl fun _=>(.bif .rfl .rfl))) .rfl)) fun _=>(.join (.bind .rfl fun _=>(.bind .rfl fun _=>(.bif .rfl .rfl))) fun _=>(.join (.bif .rfl .rfl) fun _=>(.bind .rfl fun _=> .rfl))))))))
def WF(n:Nat)(x:za):Option (zk×za):=
 zb (zf (0,x)) fun y1=>
 ql n (fun(s2:za×zk×List UInt8)=>
   zb (zf (0,s2.1)) fun y3=>
   bif y3==(-1)then
    some (LO.out (s2.1,s2.2.1,s2.2.2))
   else
    bif y3==y1 then
     some (LO.out ((⟨s2.1.s,w64 (s2.1.at_+1)⟩:za),s2.2.1,s2.2.2))
    else
     bif y3==10 then
      some (LO.ret ((⟨6,[],0,[],false⟩:zk),s2.1))
     else
      zb (zw (y3==92) (zf (1,s2.1)) (default:Int)) fun y4=>
      zb (zw (!(y4==(-1))&&y3==92) (zf (1,s2.1)) (default:Int)) fun y5=>
      bif bif y3==92 then bif y4==(-1)then true else y5==10 else false then
       some (LO.again ((⟨s2.1.s,if(s2.1.s.length:Int)<w64 (s2.1.at_+2)then(s2.1.s.length:Int)else w64 (s2.1.at_+2)⟩:za),s2.2.1,s2.2.2))
      else
       bif y3==92 then
        zb (ZF n (s2.1,s2.2.2)) fun y6=>
        some (LO.again (y6.1,s2.2.1,y6.2))
       else
        zb (qD (wu8 y3)) fun y7=>
        need (zQ s2.2.2.length 1 1)<|
        some (LO.again ((⟨s2.1.s,w64 (s2.1.at_+1)⟩:za),s2.2.1,s2.2.2++[y7])):za×zk×List UInt8->Option (LO (za×zk×List UInt8) (za×zk×List UInt8) _)) ((⟨x.s,w64 (x.at_+1)⟩:za),(⟨0,[],0,[],false⟩:zk),[]) fun o8=>
 some ((⟨5,o8.2.2,0,[],false⟩:zk),o8.1)
theorem G7(n:Nat)(x:za):Le (WF n x) (qM x):=by unfold WF qM;exact(.bind .rfl fun _=>(.loop (fun _=>(.bind .rfl fun _=>(.bif .rfl (.bif .rfl (.bif .rfl (.bind .rfl fun _=>(.bind .rfl fun _=>(.bif .rfl (.bif (.bind (Qj n _) fun _=> .rfl) (.bind .rfl fun _=>(.need .rfl))))))))))) fun _=> .rfl))
def qa(n:Nat)(x:za):Option (Str×za):=
 ql n (fun(s1:za×List UInt8)=>
   zb (zf (0,s1.1)) fun y2=>
   zb (ik y2) fun y3=>
   bif y3 then
    zb (qD (wu8 y2)) fun y4=>
    need (zQ s1.2.length 1 1)<|
    some (LO.again ((⟨s1.1.s,w64 (s1.1.at_+1)⟩:za),s1.2++[y4]))
   else
    zb (zw (y2 != (-1)) (zK (0,s1.1)) (default:Bool)) fun y5=>
    bif bif y2 != (-1)then y5 else false then
     zb (ZF n (s1.1,s1.2)) fun y6=>
     some (LO.again (y6.1,y6.2))
    else
     some (LO.ret (s1.2,s1.1)):za×List UInt8->Option (LO (za×List UInt8) (Unit) _)) (x,[]) fun o7=>
 none
theorem Qw(n:Nat)(x:za):Le (qa n x) (Zd x):=by unfold qa Zd;exact(.loop (fun _=>(.bind .rfl fun _=>(.bind .rfl fun _=>(.bif (.bind .rfl fun _=>(.need .rfl)) (.bind .rfl fun _=>(.bif (.bind (Qj n _) fun _=> .rfl) .rfl)))))) fun _=> .none)
def Z4(n:Nat)(x:za):Option za:=
 ql n (fun(s1:za)=>
   zb (zf (0,s1)) fun y2=>
   zb (ZL y2) fun y3=>
   bif y3 then
    some (LO.again (⟨s1.s,w64 (s1.at_+1)⟩:za))
   else
    some (LO.out s1):za->Option (LO (za) (za) _)) x fun o4=>
 some o4
theorem QX(n:Nat)(x:za):Le (Z4 n x) (Zt x):=by unfold Z4 Zt;exact(.loop (fun _=>(.bind .rfl fun _=>(.bind .rfl fun _=>(.bif .rfl .rfl)))) fun _=> .rfl)
def aF(n:Nat)(x:za):Option (Bool×za):=
 zR (X:=za) (
   zb (zf (0,x)) fun y1=>
   bif bif y1==43 then true else y1==45 then
    some (LX.out (⟨x.s,w64 (x.at_+1)⟩:za))
   else
    some (LX.out x)) fun j2=>
 zb (Z4 n j2) fun y3=>
 zR (X:=Bool×za) (
   zb (zf (0,y3)) fun y4=>
   zb (zw (y4==46) (zf (1,y3)) (default:Int)) fun y5=>
   zb (zw (y4==46) (ZL y5) (default:Bool)) fun y6=>
   bif bif y4==46 then y6 else false then
    zb (Z4 n (⟨y3.s,w64 (y3.at_+1)⟩:za)) fun y7=>
    some (LX.out (false,y7))
   else
    some (LX.out (true,y3))) fun j8=>
 zR (X:=Bool×za) (
   zb (zf (0,j8.2)) fun y9=>
   zb (zw (!(y9==101)) (zf (0,j8.2)) (default:Int)) fun y10=>
   bif bif y9==101 then true else y10==69 then
    zR (X:=(Bool×Int)×za) (
      zb (zf (1,j8.2)) fun y11=>
      bif bif y11==43 then true else y11==45 then
       some (LX.out ((j8.1,2),j8.2))
      else
       some (LX.out ((j8.1,1),j8.2))) fun j12=>
    zb (zf (j12.1.2,j12.2)) fun y13=>
    zb (ZL y13) fun y14=>
    bif y14 then
     zb (Z4 n (⟨j12.2.s,w64 (j12.2.at_+j12.1.2)⟩:za)) fun y15=>
     some (LX.out (false,y15))
    else
     some (LX.out (j12.1.1,j12.2))
   else
    some (LX.out (j8.1,j8.2))) fun j16=>
 some (j16.1,j16.2)
theorem Y7(n:Nat)(x:za):Le (aF n x) (qo x):=by unfold aF qo;exact(.join (.bind .rfl fun _=>(.bif .rfl .rfl)) fun _=>(.bind (QX n _) fun _=>(.join (.bind .rfl fun _=>(.bind .rfl fun _=>(.bind .rfl fun _=>(.bif (.bind (QX n _) fun _=> .rfl) .rfl)))) fun _=>(.join (.bind .rfl fun _=>(.bind .rfl fun _=>(.bif (.join (.bind .rfl fun _=>(.bif .rfl .rfl)) fun _=>(.bind .rfl fun _=>(.bind .rfl fun _=>(.bif (.bind (QX n _) fun _=> .rfl) .rfl)))) .rfl))) fun _=> .rfl))))
def SF(n:Nat)(x:Str):Option Int:=
 zb (geti x 0) fun y1=>
 zb (Oj (x,[43,45])) fun y2=>
 zR (X:=Str×Int) (
   zb (oq (y2,[101,69])) fun y3=>
   bif decide (y3>=0)then
    need (decide (0<=w64 (y3+1))&&decide (w64 (y3+1)<=(y2.length:Int)))<|
    zb (Oj (List.drop (w64 (y3+1)).toNat y2,[43,45])) fun y4=>
    need (decide (y4.length<=maxLen))<|
    ql n (fun(s5:Int×Int)=>
      bif decide (s5.2<(y4.length:Int))then
       need (decide (0<=s5.2)&&decide (s5.2<(y4.length:Int)))<|
       zb y4[s5.2.toNat]? fun y6=>
       some (LO.again (if 1048576<w64 (w64 (10*s5.1)+w64 (wu8 ((y6.toNat:Int) - 48)))then 1048576 else w64 (w64 (10*s5.1)+w64 (wu8 ((y6.toNat:Int) - 48))),w64 (s5.2+1)))
      else
       some (LO.out s5.1):Int×Int->Option (LO (Int×Int) (Int) _)) (0,0) fun o7=>
    zR (X:=Str×Int×Int) (
      zb (geti y2 (w64 (y3+1))) fun y8=>
      bif (y8.toNat:Int)==45 then
       some (LX.out (y2,3,w64 (0 - o7)))
      else
       some (LX.out (y2,3,o7))) fun j9=>
    need (decide (0<=y3)&&decide (y3<=(j9.1.length:Int)))<|
    some (LX.out (List.take y3.toNat j9.1,w64 (j9.2.1+j9.2.2)))
   else
    some (LX.out (y2,3))) fun j10=>
 zb (cutF (j10.1,[46])) fun y11=>
 need (Ue y11.1.length y11.2.1.length)<|
 zR (X:=Str×Int) (
   bif decide (w64 (j10.2 - (y11.2.1.length:Int))<0)then
    need (decide (0<=(if w64 (((y11.1++y11.2.1).length:Int)+w64 (j10.2 - (y11.2.1.length:Int)))>0 then w64 (((y11.1++y11.2.1).length:Int)+w64 (j10.2 - (y11.2.1.length:Int)))else 0))&&decide ((if w64 (((y11.1++y11.2.1).length:Int)+w64 (j10.2 - (y11.2.1.length:Int)))>0 then w64 (((y11.1++y11.2.1).length:Int)+w64 (j10.2 - (y11.2.1.length:Int)))else 0)<=((y11.1++y11.2.1).length:Int)))<|
    some (LX.out (List.take (if w64 (((y11.1++y11.2.1).length:Int)+w64 (j10.2 - (y11.2.1.length:Int)))>0 then w64 (((y11.1++y11.2.1).length:Int)+w64 (j10.2 - (y11.2.1.length:Int)))else 0).toNat (y11.1++y11.2.1),w64 (j10.2 - (y11.2.1.length:Int))))
   else
    some (LX.out (y11.1++y11.2.1,w64 (j10.2 - (y11.2.1.length:Int))))) fun j12=>
 need (decide (j12.1.length<=maxLen))<|
 ql n (fun(s13:Int×Int)=>
   bif decide (s13.2<(j12.1.length:Int))then
    need (decide (0<=s13.2)&&decide (s13.2<(j12.1.length:Int)))<|
    zb j12.1[s13.2.toNat]? fun y14=>
    some (LO.again (if 1000000000000<w64 (w64 (10*s13.1)+w64 (wu8 ((y14.toNat:Int) - 48)))then 1000000000000 else w64 (w64 (10*s13.1)+w64 (wu8 ((y14.toNat:Int) - 48))),w64 (s13.2+1)))
   else
    some (LO.out s13.1):Int×Int->Option (LO (Int×Int) (Int) _)) (0,0) fun o15=>
 ql n (fun(s16:Int×Int)=>
   bif bif bif decide (s16.1>0)then decide (s16.2>0)else false then decide (s16.2<1000000000000)else false then
    some (LO.again (w64 (s16.1 - 1),if 1000000000000<w64 (10*s16.2)then 1000000000000 else w64 (10*s16.2)))
   else
    some (LO.out s16.2):Int×Int->Option (LO (Int×Int) (Int) _)) (j12.2,o15) fun o17=>
 zR (X:=Int) (
   bif (y1.toNat:Int)==45 then
    some (LX.out (w64 (0 - o17)))
   else
    some (LX.out o17)) fun j18=>
 some j18
theorem D6(n:Nat)(x:Str):Le (SF n x) (Q7 x):=by unfold SF Q7;exact(.bind .rfl fun _=>(.bind .rfl fun _=>(.join (.bind .rfl fun _=>(.bif (.need (.bind .rfl fun _=>(.need (.loop (fun _=>(.bif (.need (.bind .rfl fun _=> .rfl)) .rfl)) fun _=>(.join (.bind .rfl fun _=>(.bif .rfl .rfl)) fun _=>(.need .rfl)))))) .rfl)) fun _=>(.bind .rfl fun _=>(.need (.join (.bif (.need .rfl) .rfl) fun _=>(.need (.loop (fun _=>(.bif (.need (.bind .rfl fun _=> .rfl)) .rfl)) fun _=>(.loop (fun _=>(.bif .rfl .rfl)) fun _=>(.join (.bif .rfl .rfl) fun _=> .rfl))))))))))
def YF(n:Nat)(x:za):Option (zk×za):=
 zb (aF n x) fun y1=>
 need (decide (0<=x.at_)&&(decide (x.at_<=y1.2.at_)&&decide (y1.2.at_<=(y1.2.s.length:Int))))<|
 zb (SF n (List.drop x.at_.toNat (List.take y1.2.at_.toNat y1.2.s))) fun y2=>
 zR (X:=za×zk×zk) (
   zb (z8 (0,y1.2)) fun y3=>
   bif y3 then
    zb (qa n y1.2) fun y4=>
    some (LX.out (y4.2,(⟨0,[],0,[],false⟩:zk),(⟨12,[],y2,y4.1,y1.1⟩:zk)))
   else
    zb (zf (0,y1.2)) fun y5=>
    bif y5==37 then
     some (LX.out ((⟨y1.2.s,w64 (y1.2.at_+1)⟩:za),(⟨0,[],0,[],false⟩:zk),(⟨11,[],y2,[],false⟩:zk)))
    else
     some (LX.out (y1.2,(⟨0,[],0,[],false⟩:zk),(⟨10,[],y2,[],y1.1⟩:zk)))) fun j6=>
 some (j6.2.2,j6.1)
theorem A7(n:Nat)(x:za):Le (YF n x) (qp x):=by unfold YF qp;exact(.bind (Y7 n _) fun _=>(.need (.bind (D6 n _) fun _=>(.join (.bind .rfl fun _=>(.bif (.bind (Qw n _) fun _=> .rfl) (.bind .rfl fun _=>(.bif .rfl .rfl)))) fun _=> .rfl))))
def Qf(n:Nat)(x:za):Option (zk×za):=
 ql n (fun(s1:za×zk)=>
   zb (zf (0,s1.1)) fun y2=>
   bif y2==(-1)then
    some (LO.ret ((⟨8,[],0,[],false⟩:zk),s1.1))
   else
    zb (zK (0,s1.1)) fun y3=>
    bif y3 then
     zb (QL n s1.1) fun y4=>
     some (LO.again (y4.1,s1.2))
    else
     zb (geti s1.1.s (w64 (w64 (s1.1.at_+1) - 1))) fun y5=>
     bif (y5.toNat:Int)==41 then
      some (LO.ret ((⟨8,[],0,[],false⟩:zk),(⟨s1.1.s,w64 (s1.1.at_+1)⟩:za)))
     else
      some (LO.again ((⟨s1.1.s,w64 (s1.1.at_+1)⟩:za),s1.2)):za×zk->Option (LO (za×zk) (Unit) _)) (x,(⟨0,[],0,[],false⟩:zk)) fun o6=>
 none
theorem MF(n:Nat)(x:za):Le (Qf n x) (qh x):=by unfold Qf qh;exact(.loop (fun _=>(.bind .rfl fun _=>(.bif .rfl (.bind .rfl fun _=>(.bif (.bind (N7 n _) fun _=> .rfl) (.bind .rfl fun _=>(.bif .rfl .rfl))))))) fun _=> .none)
def TF(n:Nat)(x:za):Option (zk×za):=
 zb (ZQ n x) fun y1=>
 ql n (fun(s2:za×zk×List UInt8)=>
   zb (zf (0,s2.1)) fun y3=>
   zR (X:=Int×za×zk×List UInt8) (
     zb (Zz y3) fun y4=>
     bif y4 then
      zb (ZQ n s2.1) fun y5=>
      zb (zf (0,y5)) fun y6=>
      bif bif y6 != 41 then y6 != (-1)else false then
       zb (Qf n y5) fun y7=>
       some (LX.ret (LO.ret (y7.1,y7.2)))
      else
       some (LX.out (y6,y5,s2.2.1,s2.2.2))
     else
      some (LX.out (y3,s2.1,s2.2.1,s2.2.2))) fun j8=>
   bif j8.1==(-1)then
    some (LO.ret ((⟨7,j8.2.2.2,0,[],false⟩:zk),j8.2.1))
   else
    bif j8.1==41 then
     some (LO.ret ((⟨7,j8.2.2.2,0,[],false⟩:zk),(⟨j8.2.1.s,w64 (j8.2.1.at_+1)⟩:za)))
    else
     zb (zw (!(bif bif bif bif j8.1==34 then true else j8.1==39 then true else j8.1==40 then true else decide (j8.1<=8)then true else j8.1==11)) (qQ (j8.1,14,31)) (default:Bool)) fun y9=>
     bif bif bif bif bif bif bif j8.1==34 then true else j8.1==39 then true else j8.1==40 then true else decide (j8.1<=8)then true else j8.1==11 then true else y9 then true else j8.1==127 then
      zb (Qf n j8.2.1) fun y10=>
      some (LO.ret (y10.1,y10.2))
     else
      bif j8.1 != 92 then
       zb (qD (wu8 j8.1)) fun y11=>
       need (zQ j8.2.2.2.length 1 1)<|
       some (LO.again ((⟨j8.2.1.s,w64 (j8.2.1.at_+1)⟩:za),j8.2.2.1,j8.2.2.2++[y11]))
      else
       zb (zK (0,j8.2.1)) fun y12=>
       bif y12 then
        zb (ZF n (j8.2.1,j8.2.2.2)) fun y13=>
        some (LO.again (y13.1,j8.2.2.1,y13.2))
       else
        zb (Qf n j8.2.1) fun y14=>
        some (LO.ret (y14.1,y14.2)):za×zk×List UInt8->Option (LO (za×zk×List UInt8) (Unit) _)) (y1,(⟨0,[],0,[],false⟩:zk),[]) fun o15=>
 none
theorem F6(n:Nat)(x:za):Le (TF n x) (Q6 x):=by unfold TF Q6;exact(.bind (Qh n _) fun _=>(.loop (fun _=>(.bind .rfl fun _=>(.join (.bind .rfl fun _=>(.bif (.bind (Qh n _) fun _=>(.bind .rfl fun _=>(.bif (.bind (MF n _) fun _=> .rfl) .rfl))) .rfl)) fun _=>(.bif .rfl (.bif .rfl (.bind .rfl fun _=>(.bif (.bind (MF n _) fun _=> .rfl) (.bif (.bind .rfl fun _=>(.need .rfl)) (.bind .rfl fun _=>(.bif (.bind (Qj n _) fun _=> .rfl) (.bind (MF n _) fun _=> .rfl))))))))))) fun _=> .none))
def fF(n:Nat)(x:za):Option (zk×za):=
 zb (qa n x) fun y1=>
 zb (zf (0,y1.2)) fun y2=>
 bif y2 != 40 then
  some ((⟨1,y1.1,0,[],false⟩:zk),y1.2)
 else
  zR (X:=za×zk) (
    zb (ek n (y1.1,[117,114,108])) fun y3=>
    bif y3 then
     zb (ZQ n (⟨y1.2.s,w64 (y1.2.at_+1)⟩:za)) fun y4=>
     zb (zf (0,y4)) fun y5=>
     bif bif y5 != 34 then y5 != 39 else false then
      zb (TF n (⟨y1.2.s,w64 (y1.2.at_+1)⟩:za)) fun y6=>
      some (LX.ret (y6.1,y6.2))
     else
      some (LX.out ((⟨y1.2.s,w64 (y1.2.at_+1)⟩:za),(⟨0,[],0,[],false⟩:zk)))
    else
     some (LX.out ((⟨y1.2.s,w64 (y1.2.at_+1)⟩:za),(⟨0,[],0,[],false⟩:zk)))) fun j7=>
  some ((⟨2,y1.1,0,[],false⟩:zk),j7.1)
theorem J7(n:Nat)(x:za):Le (fF n x) (Qg x):=by unfold fF Qg;exact(.bind (Qw n _) fun _=>(.bind .rfl fun _=>(.bif .rfl (.join (.bind (Ot n _) fun _=>(.bif (.bind (Qh n _) fun _=>(.bind .rfl fun _=>(.bif (.bind (F6 n _) fun _=> .rfl) .rfl))) .rfl)) fun _=> .rfl))))
def KF(n:Nat)(x:za):Option (zk×za):=
 zb (zf (0,x)) fun y1=>
 need (decide (0<=x.at_)&&decide (x.at_<=(x.s.length:Int)))<|
 zb (Zz y1) fun y2=>
 bif y2 then
  zb (ZQ n x) fun y3=>
  some ((⟨13,[],0,[],false⟩:zk),y3)
 else
  bif bif y1==34 then true else y1==39 then
   zb (WF n x) fun y4=>
   some (y4.1,y4.2)
  else
   zb (zw (y1==35) (zf (1,x)) (default:Int)) fun y5=>
   zb (zw (y1==35) (ik y5) (default:Bool)) fun y6=>
   zb (zw (!y6&&y1==35) (zK (1,x)) (default:Bool)) fun y7=>
   bif bif y1==35 then bif y6 then true else y7 else false then
    zb (z8 (1,x)) fun y8=>
    zb (qa n (⟨x.s,w64 (x.at_+1)⟩:za)) fun y9=>
    some ((⟨4,y9.1,0,[],y8⟩:zk),y9.2)
   else
    zb (QR x) fun y10=>
    bif y10 then
     zb (YF n x) fun y11=>
     some (y11.1,y11.2)
    else
     zb (strings_HasPrefix (List.drop x.at_.toNat x.s,[45,45,62])) fun y12=>
     bif y12 then
      some ((⟨15,[],0,[],false⟩:zk),(⟨x.s,w64 (x.at_+3)⟩:za))
     else
      zb (strings_HasPrefix (List.drop x.at_.toNat x.s,[60,33,45,45])) fun y13=>
      bif y13 then
       some ((⟨14,[],0,[],false⟩:zk),(⟨x.s,w64 (x.at_+4)⟩:za))
      else
       zb (zw (y1==64) (z8 (1,x)) (default:Bool)) fun y14=>
       bif bif y1==64 then y14 else false then
        zb (qa n (⟨x.s,w64 (x.at_+1)⟩:za)) fun y15=>
        some ((⟨3,y15.1,0,[],false⟩:zk),y15.2)
       else
        zb (z8 (0,x)) fun y16=>
        bif y16 then
         zb (fF n x) fun y17=>
         some (y17.1,y17.2)
        else
         zb (strings_IndexByte ([58,59,44,91,93,40,41,123,125],wu8 y1)) fun y18=>
         bif decide (y18>=0)then
          some ((⟨wu8 (16+wu8 y18),[],0,[],false⟩:zk),(⟨x.s,w64 (x.at_+1)⟩:za))
         else
          need (decide (1<=((List.drop x.at_.toNat x.s).length:Int)))<|
          some ((⟨9,List.take 1 (List.drop x.at_.toNat x.s),0,[],false⟩:zk),(⟨x.s,w64 (x.at_+1)⟩:za))
theorem R6(n:Nat)(x:za):Le (KF n x) (QE x):=by unfold KF QE;exact(.bind .rfl fun _=>(.need (.bind .rfl fun _=>(.bif (.bind (Qh n _) fun _=> .rfl) (.bif (.bind (G7 n _) fun _=> .rfl) (.bind .rfl fun _=>(.bind .rfl fun _=>(.bind .rfl fun _=>(.bif (.bind .rfl fun _=>(.bind (Qw n _) fun _=> .rfl)) (.bind .rfl fun _=>(.bif (.bind (A7 n _) fun _=> .rfl) (.bind .rfl fun _=>(.bif .rfl (.bind .rfl fun _=>(.bif .rfl (.bind .rfl fun _=>(.bif (.bind (Qw n _) fun _=> .rfl) (.bind .rfl fun _=>(.bif (.bind (J7 n _) fun _=> .rfl) (.bind .rfl fun _=>(.bif .rfl (.need .rfl))))))))))))))))))))))
def UE(n:Nat)(x:Str):Option (Int×List zk):=
 zb (Vl x) fun y1=>
 bif y1.2 != 0 then
  some (y1.2,[])
 else
  zb (qC n (⟨y1.1,0⟩:za)) fun y2=>
  ql n (fun(s3:Int×List zk×za)=>
    bif decide (s3.2.2.at_<(y1.1.length:Int))then
     bif decide (w64 (s3.1+1)>1500)then
      some (LO.ret (4,s3.2.1))
     else
      zb (KF n s3.2.2) fun y4=>
      zb (Gy ((y4.1,s3.2.2.at_,y4.2.at_),s3.2.1)) fun y5=>
      zb (qC n y4.2) fun y6=>
      some (LO.again (w64 (s3.1+1),y5,y6))
    else
     some (LO.out (s3.2.1,s3.2.2)):Int×List zk×za->Option (LO (Int×List zk×za) (List zk×za) _)) (0,[],y2) fun o7=>
  some (0,o7.1)
theorem wZ(n:Nat)(x:Str):Le (UE n x) (Ls x):=by unfold UE Ls;exact(.bind .rfl fun _=>(.bif .rfl (.bind (sN n _) fun _=>(.loop (fun _=>(.bif (.bif .rfl (.bind (R6 n _) fun _=>(.bind .rfl fun _=>(.bind (sN n _) fun _=> .rfl)))) .rfl)) fun _=> .rfl))))
def Dy(n:Nat)(x:Str):Option (List zk×Int):=
 zb (UE n x) fun y1=>
 bif y1.1 != 0 then
  some ([],y1.1)
 else
  some (y1.2,0)
theorem uM(n:Nat)(x:Str):Le (Dy n x) (jk x):=by unfold Dy jk;exact(.bind (wZ n _) fun _=>(.bif .rfl .rfl))
def LF(n:Nat)(x:List zk×List zk):Option Bool:=
 bif (x.1.length:Int) != (x.2.length:Int)then
  some false
 else
  ql n (fun(s1:Int)=>
    bif decide (s1<(x.1.length:Int))then
     zb (geti x.1 s1) fun y2=>
     zb (geti x.2 s1) fun y3=>
     bif !(y2.kind==y3.kind&&(y2.text==y3.text&&(y2.num==y3.num&&(y2.unit==y3.unit&&(y2.flag==y3.flag&&true)))))then
      some (LO.ret false)
     else
      some (LO.again (w64 (s1+1)))
    else
     some (LO.out ()):Int->Option (LO (Int) (Unit) _)) 0 fun o4=>
  some true
theorem U6(n:Nat)(x:List zk×List zk):Le (LF n x) (QD x):=by unfold LF QD;exact(.bif .rfl (.loop (fun _=>(.bif (.bind .rfl fun _=>(.bind .rfl fun _=>(.bif .rfl .rfl))) .rfl)) fun _=> .rfl))
def TD(n:Nat)(x:List zk):Option (Str×Int):=
 zb (xw n x) fun y1=>
 bif y1 != 0 then
  some ([],y1)
 else
  ql n (fun(s2:Int×List UInt8×List zO)=>
    bif decide (s2.1<(x.length:Int))then
     need (decide (0<=s2.1)&&decide (s2.1<=(x.length:Int)))<|
     zb (ww n (List.drop s2.1.toNat x)) fun y3=>
     need (decide (0<=s2.1)&&(decide (s2.1<=w64 (s2.1+y3))&&decide (w64 (s2.1+y3)<=(x.length:Int))))<|
     ql n (fun(s4:Int×List UInt8)=>
       bif decide (s4.1<((List.drop s2.1.toNat (List.take (w64 (s2.1+y3)).toNat x)).length:Int))then
        zb (geti (List.drop s2.1.toNat (List.take (w64 (s2.1+y3)).toNat x)) s4.1) fun y5=>
        zb (PE n (y5,s4.2)) fun y6=>
        some (LO.again (w64 (s4.1+1),y6))
       else
        some (LO.out s4.2):Int×List UInt8->Option (LO (Int×List UInt8) (List UInt8) _)) (0,[]) fun o7=>
     zR (X:=Int×List UInt8×List zO×List UInt8) (
       zb (geti x s2.1) fun y8=>
       bif bif y8.kind==9 then y3==2 else false then
        some (LX.out (s2.1,s2.2.1,s2.2.2,[(92:UInt8),(10:UInt8)]))
       else
        some (LX.out (s2.1,s2.2.1,s2.2.2,o7))) fun j9=>
     zR (X:=Int×List UInt8×List zO×zO) (
       bif decide (w64 ((j9.2.2.1.length:Int) - 4)>=0)then
        need (decide (0<=w64 ((j9.2.2.1.length:Int) - 4))&&decide (w64 ((j9.2.2.1.length:Int) - 4)<(j9.2.2.1.length:Int)))<|
        zb (j9.2.2.1[(w64 ((j9.2.2.1.length:Int) - 4)).toNat]?) fun y10=>
        some (LX.out (j9.1,j9.2.1,j9.2.2.1,y10))
       else
        some (LX.out (j9.1,j9.2.1,j9.2.2.1,(⟨0,0⟩:zO)))) fun j11=>
     need (decide (0<=j11.2.2.2.at_)&&decide (j11.2.2.2.at_<=(j11.2.1.length:Int)))<|
     need (decide (j11.2.2.2.at_.toNat+(j11.2.1.length - j11.2.2.2.at_.toNat)<=j11.2.1.length))<|
     need (Ue (List.take (j11.2.1.length - j11.2.2.2.at_.toNat) (List.drop j11.2.2.2.at_.toNat j11.2.1)).length j9.2.2.2.length)<|
     zb (Dy n (List.take (j11.2.1.length - j11.2.2.2.at_.toNat) (List.drop j11.2.2.2.at_.toNat j11.2.1)++j9.2.2.2)) fun y12=>
     zR (X:=Int×List zO×List UInt8) (
       need (decide (0<=j11.2.2.2.token)&&(decide (j11.2.2.2.token<=w64 (j11.1+y3))&&decide (w64 (j11.1+y3)<=(x.length:Int)))|| !(!(y12.2 != 0)))<|
       zb (zw (!(y12.2 != 0)) (LF n (y12.1,List.drop j11.2.2.2.token.toNat (List.take (w64 (j11.1+y3)).toNat x))) (default:Bool)) fun y13=>
       bif bif y12.2 != 0 then true else !y13 then
        need (zQ j11.2.1.length ([47,42,42,47]:Str).length 1)<|
        some (LX.out (j11.1,j11.2.2.1,j11.2.1++([47,42,42,47]:Str)))
       else
        some (LX.out (j11.1,j11.2.2.1,j11.2.1))) fun j14=>
     need (zQ j14.2.1.length 1 16)<|
     need (zQ j14.2.2.length j9.2.2.2.length 1)<|
     bif decide (((j14.2.2++j9.2.2.2).length:Int)>4000)then
      some (LO.ret ([],28))
     else
      some (LO.again (w64 (j14.1+y3),j14.2.2++j9.2.2.2,j14.2.1++[(⟨j14.1,(j14.2.2.length:Int)⟩:zO)]))
    else
     some (LO.out s2.2.1):Int×List UInt8×List zO->Option (LO (Int×List UInt8×List zO) (List UInt8) _)) (0,[],[]) fun o15=>
  some (o15,0)
theorem KY(n:Nat)(x:List zk):Le (TD n x) (Nr x):=by unfold TD Nr;exact(.bind (Px n _) fun _=>(.bif .rfl (.loop (fun _=>(.bif (.need (.bind (nL n _) fun _=>(.need (.loop (fun _=>(.bif (.bind .rfl fun _=>(.bind (TZ n _) fun _=> .rfl)) .rfl)) fun _=>(.join (.bind .rfl fun _=>(.bif .rfl .rfl)) fun _=>(.join (.bif (.need (.bind .rfl fun _=> .rfl)) .rfl) fun _=>(.need (.need (.need (.bind (uM n _) fun _=>(.join (.need (.bind (.cond (U6 n _)) fun _=>(.bif (.need .rfl) .rfl))) fun _=>(.need (.need (.bif .rfl .rfl)))))))))))))) .rfl)) fun _=> .rfl)))
def vC(n:Nat)(x:List ze):Option (Str×Int):=
 zb (Qz n x) fun y1=>
 bif y1 != 0 then
  some ([],y1)
 else
  zb (Ox n x) fun y2=>
  zb (TD n y2) fun y3=>
  some (y3.1,y3.2)
theorem mW(n:Nat)(x:List ze):Le (vC n x) (Br x):=by unfold vC Br;exact(.bind (ak n _) fun _=>(.bif .rfl (.bind (OM n _) fun _=>(.bind (KY n _) fun _=> .rfl))))
def ED(n:Nat)(x:zA):Option (Str×Int):=
 zb (Rs n x) fun y1=>
 bif y1 != 0 then
  some ([],y1)
 else
  zb (ow n x.name) fun y2=>
  bif y2.2 != 0 then
   some ([],y2.2)
  else
   zb (vC n x.value) fun y3=>
   bif y3.2 != 0 then
    some ([],y3.2)
   else
    need (Ue y2.1.length ([58,32]:Str).length)<|
    need (Ue (y2.1++([58,32]:Str)).length y3.1.length)<|
    zR (X:=Str) (
      bif x.important then
       need (Ue (y2.1++([58,32]:Str)++y3.1).length ([32,33,105,109,112,111,114,116,97,110,116]:Str).length)<|
       some (LX.out (y2.1++([58,32]:Str)++y3.1++([32,33,105,109,112,111,114,116,97,110,116]:Str)))
      else
       some (LX.out (y2.1++([58,32]:Str)++y3.1))) fun j4=>
    bif decide ((j4.length:Int)>4000)then
     some ([],28)
    else
     some (j4,0)
theorem oW(n:Nat)(x:zA):Le (ED n x) (rq x):=by unfold ED rq;exact(.bind (KE n _) fun _=>(.bif .rfl (.bind (cK n _) fun _=>(.bif .rfl (.bind (mW n _) fun _=>(.bif .rfl (.need (.need (.join (.bif (.need .rfl) .rfl) fun _=>(.bif .rfl .rfl))))))))))
def Ky(n:Nat)(zt:zg×Bool->Option (Str×Bool))(x:zg×Bool):Option (Str×Bool):=
 zb (zt ((⟨x.1.kind,x.1.name,x.1.num,x.1.decl,x.1.list⟩:zg),x.2)) fun y1=>
 zb (Di (⟨x.1.kind,x.1.name,x.1.num,x.1.decl,x.1.list⟩:zg)) fun y2=>
 bif y2 then
  some (y1.1,y1.2)
 else
  need (Ue ([40]:Str).length y1.1.length)<|
  need (Ue (([40]:Str)++y1.1).length ([41]:Str).length)<|
  some (([40]:Str)++y1.1++([41]:Str),y1.2)
theorem FN(n:Nat)(zt cond_supports':zg×Bool->Option (Str×Bool))(h_cond_supports: ∀z,Le (zt z) (cond_supports' z))(x:zg×Bool):Le (Ky n zt x) (qZ cond_supports' x):=by unfold Ky qZ;exact(.bind (h_cond_supports _) fun _=>(.bind .rfl fun _=>(.bif .rfl (.need (.need .rfl)))))
def Wx(n:Nat)(zt:zg×Bool->Option (Str×Bool))(x:(List zg×Str)×Bool):Option (Str×Bool):=
 ql n (fun(s1:Int×Bool×List Str)=>
   bif decide (s1.1<(x.1.1.length:Int))then
    zb (geti x.1.1 s1.1) fun y2=>
    zb (Ky n zt ((⟨y2.kind,y2.name,y2.num,y2.decl,y2.list⟩:zg),s1.2.1)) fun y3=>
    need (zQ s1.2.2.length 1 16)<|
    some (LO.again (w64 (s1.1+1),y3.2,s1.2.2++[y3.1]))
   else
    some (LO.out (s1.2.1,s1.2.2)):Int×Bool×List Str->Option (LO (Int×Bool×List Str) (Bool×List Str) _)) (0,x.2,[]) fun o4=>
 zb (Kh (o4.2,x.1.2)) fun y5=>
 some (y5,o4.1)
theorem VM(n:Nat)(zt cond_supports':zg×Bool->Option (Str×Bool))(h_cond_supports: ∀z,Le (zt z) (cond_supports' z))(x:(List zg×Str)×Bool):Le (Wx n zt x) (dn cond_supports' x):=by unfold Wx dn;exact(.loop (fun _=>(.bif (.bind .rfl fun _=>(.bind (FN n _ _ h_cond_supports _) fun _=>(.need .rfl))) .rfl)) fun _=>(.bind .rfl fun _=> .rfl))
def rE(n:Nat)(zt:zg×Bool->Option (Str×Bool))(x:zg×Bool):Option (Str×Bool):=
 bif x.1.kind==7 then
  zb (ED n x.1.decl) fun y1=>
  need (Ue ([40]:Str).length y1.1.length)<|
  need (Ue (([40]:Str)++y1.1).length ([41]:Str).length)<|
  some (([40]:Str)++y1.1++([41]:Str),bif x.2 then true else y1.2 != 0)
 else
  bif x.1.kind==8 then
   some ([40,117,110,107,110,111,119,110,41],x.2)
  else
   bif x.1.kind==3 then
    zb (geti x.1.list 0) fun y2=>
    zb (Ky n zt ((⟨y2.kind,y2.name,y2.num,y2.decl,y2.list⟩:zg),x.2)) fun y3=>
    need (Ue ([110,111,116,32]:Str).length y3.1.length)<|
    some (([110,111,116,32]:Str)++y3.1,y3.2)
   else
    bif x.1.kind==2 then
     zb (Wx n zt ((x.1.list,[32,111,114,32]),x.2)) fun y4=>
     some (y4.1,y4.2)
    else
     zb (Wx n zt ((x.1.list,[32,97,110,100,32]),x.2)) fun y5=>
     some (y5.1,y5.2)
def jM(n:Nat):zg×Bool->Option (Str×Bool):=Ef (rE n) n
theorem V4(n:Nat)(zt cond_supports':zg×Bool->Option (Str×Bool))(h_cond_supports: ∀z,Le (zt z) (cond_supports' z))(x:zg×Bool):Le (rE n zt x) (yt cond_supports' x):=by unfold rE yt;exact(.bif (.bind (oW n _) fun _=>(.need (.need .rfl))) (.bif .rfl (.bif (.bind .rfl fun _=>(.bind (FN n _ _ h_cond_supports _) fun _=>(.need .rfl))) (.bif (.bind (VM n _ _ h_cond_supports _) fun _=> .rfl) (.bind (VM n _ _ h_cond_supports _) fun _=> .rfl)))))
theorem U3(n:Nat)(x:zg×Bool):Le (jM n x) (zt x):=Le.rec (fun S S' h x=>V4 n S S' h x) n x
def iw(n:Nat)(x:zg):Option (Str×Int):=
 zb (Vs n (⟨x.kind,x.name,x.num,x.decl,x.list⟩:zg)) fun y1=>
 bif y1 != 0 then
  some ([],y1)
 else
  zR (X:=Str×Bool) (
    zb (Ny n (⟨x.kind,x.name,x.num,x.decl,x.list⟩:zg)) fun y2=>
    bif y2==0 then
     zb (iK n (⟨x.kind,x.name,x.num,x.decl,x.list⟩:zg)) fun y3=>
     some (LX.out (y3,false))
    else
     zb (jM n ((⟨x.kind,x.name,x.num,x.decl,x.list⟩:zg),false)) fun y4=>
     some (LX.out (y4.1,y4.2))) fun j5=>
  bif bif j5.2 then true else decide ((j5.1.length:Int)>4000)then
   some ([],28)
  else
   some (j5.1,0)
theorem fK(n:Nat)(x:zg):Le (iw n x) (Mk x):=by unfold iw Mk;exact(.bind (NE n _) fun _=>(.bif .rfl (.join (.bind (GN n _) fun _=>(.bif (.bind (NY n _) fun _=> .rfl) (.bind (U3 n _) fun _=> .rfl))) fun _=>(.bif .rfl .rfl))))
def Fy(n:Nat)(x:Str):Option (List ze):=
 zb (Dy n x) fun y1=>
 zb (parseF y1.1) fun y2=>
 bif bif y1.2 != 0 then true else y2.2 != 0 then
  some []
 else
  some y2.1
theorem vM(n:Nat)(x:Str):Le (Fy n x) (nk x):=by unfold Fy nk;exact(.bind (uM n _) fun _=>(.bind .rfl fun _=>(.bif .rfl .rfl)))
def gD(n:Nat)(x:List ze×Int):Option (List (List ze)×Int):=
 zb (Qz n x.1) fun y1=>
 bif y1 != 0 then
  some ([],y1)
 else
  bif bif decide (x.2<1)then true else decide (x.2>24)then
   some ([],2)
  else
   ql n (fun(s2:(Int×Int)×List (List ze))=>
     bif decide (s2.1.2<(x.1.length:Int))then
      zR (X:=(Int×Int)×List (List ze)) (
        zb (geti x.1 s2.1.2) fun y3=>
        bif y3.token.kind==x.2 then
         need (decide (0<=s2.1.1)&&(decide (s2.1.1<=s2.1.2)&&(decide (s2.1.2<=s2.1.2)&&decide (s2.1.2<=(x.1.length:Int))))&&decide (s2.1.2=s2.1.2))<|
         zb (kw n (List.drop s2.1.1.toNat (List.take s2.1.2.toNat x.1))) fun y4=>
         need (zQ s2.2.length 1 24)<|
         some (LX.out ((w64 (s2.1.2+1),s2.1.2),s2.2++[y4]))
        else
         some (LX.out ((s2.1.1,s2.1.2),s2.2))) fun j5=>
      some (LO.again ((j5.1.1,w64 (j5.1.2+1)),j5.2))
     else
      some (LO.out (s2.1.1,s2.2)):(Int×Int)×List (List ze)->Option (LO ((Int×Int)×List (List ze)) (Int×List (List ze)) _)) ((0,0),[]) fun o6=>
   need (decide (0<=o6.1)&&decide (o6.1<=(x.1.length:Int)))<|
   zb (kw n (List.drop o6.1.toNat x.1)) fun y7=>
   need (zQ o6.2.length 1 24)<|
   some (o6.2++[y7],0)
theorem IY(n:Nat)(x:List ze×Int):Le (gD n x) (Er x):=by unfold gD Er;exact(.bind (ak n _) fun _=>(.bif .rfl (.bif .rfl (.loop (fun _=>(.bif (.join (.bind .rfl fun _=>(.bif (.need (.bind (jD n _) fun _=>(.need .rfl))) .rfl)) fun _=> .rfl) .rfl)) fun _=>(.need (.bind (jD n _) fun _=>(.need .rfl)))))))
def zB(n:Nat)(x:zh):Option (Bool×zh):=
 ql n (fun(s1:zh)=>
   zb (zH s1) fun y2=>
   bif y2==13 then
    zb (zI s1) fun y3=>
    some (LO.again y3.2)
   else
    some (LO.out s1):zh->Option (LO (zh) (zh) _)) x fun o4=>
 some (decide ((o4.v.length:Int)<(x.v.length:Int)),o4)
theorem zD(n:Nat)(x:zh):Le (zB n x) (zx x):=by unfold zB zx;exact(.loop (fun _=>(.bind .rfl fun _=>(.bif (.bind .rfl fun _=> .rfl) .rfl))) fun _=> .rfl)
def ZX(n:Nat)(x:List Str×zh):Option (Str×zh):=
 ql n (fun(s1:Int×zh)=>
   bif decide (s1.1<(x.1.length:Int))then
    zb (geti x.1 s1.1) fun y2=>
    zb (zH s1.2) fun y3=>
    zb (zw (y3==1) (geti s1.2.v 0) (default:ze)) fun y4=>
    zb (zw (y3==1) (ek n (y4.token.text,y2)) (default:Bool)) fun y5=>
    bif bif y3==1 then y5 else false then
     zb (zI s1.2) fun y6=>
     some (LO.ret (y2,y6.2))
    else
     some (LO.again (w64 (s1.1+1),s1.2))
   else
    some (LO.out s1.2):Int×zh->Option (LO (Int×zh) (zh) _)) (0,x.2) fun o7=>
 some ([],o7)
theorem Qb(n:Nat)(x:List Str×zh):Le (ZX n x) (Zf x):=by unfold ZX Zf;exact(.loop (fun _=>(.bif (.bind .rfl fun _=>(.bind .rfl fun _=>(.bind .rfl fun _=>(.bind (.cond (Ot n _)) fun _=>(.bif (.bind .rfl fun _=> .rfl) .rfl))))) .rfl)) fun _=> .rfl)
def Qq(n:Nat)(x:zh):Option ((zg×Bool)×zh):=
 zb (zH x) fun y1=>
 bif y1 != 21 then
  some (((⟨0,[],0,(⟨[],[],false⟩:zA),[]⟩:zg),false),x)
 else
  zb (zI x) fun y2=>
  zb (zB n (⟨y2.1.list⟩:zh)) fun y3=>
  zR (X:=(Int×Str×Int×Str×Bool)×zh×(Int×Str×Int×Str×Bool)) (
    zb (ZX n ([[109,105,110,45,119,105,100,116,104],[109,97,120,45,119,105,100,116,104]],y3.2)) fun y4=>
    bif y4.1==[]then
     some (LX.ret (((⟨5,[],0,(⟨[],[],false⟩:zA),[]⟩:zg),false),y2.2))
    else
     bif y4.1==[109,97,120,45,119,105,100,116,104]then
      some (LX.out ((0,[],0,[],false),y4.2,(6,[],0,[],false)))
     else
      some (LX.out ((0,[],0,[],false),y4.2,(5,[],0,[],false)))) fun j5=>
  zb (zB n j5.2.1) fun y6=>
  zb (zH y6.2) fun y7=>
  bif y7 != 16 then
   some (((⟨j5.2.2.1,j5.2.2.2.1,j5.2.2.2.2.1,(⟨j5.2.2.2.2.2.1,[],j5.2.2.2.2.2.2⟩:zA),[]⟩:zg),false),y2.2)
  else
   zb (zI y6.2) fun y8=>
   zb (zB n y8.2) fun y9=>
   zb (zH y9.2) fun y10=>
   zb (zw (y10 != 12) (zH y9.2) (default:Int)) fun y11=>
   bif bif y10 != 12 then y11 != 10 else false then
    some (((⟨j5.2.2.1,j5.2.2.2.1,j5.2.2.2.2.1,(⟨j5.2.2.2.2.2.1,[],j5.2.2.2.2.2.2⟩:zA),[]⟩:zg),false),y2.2)
   else
    zb (zI y9.2) fun y12=>
    zb (zB n y12.2) fun y13=>
    zb (zw (y12.1.token.kind==12) (ek n (y12.1.token.unit,[112,120])) (default:Bool)) fun y14=>
    zb (zw (bif bif bif y12.1.token.kind==12 then y14 else false then true else bif y12.1.token.kind==10 then y12.1.token.num==0 else false then decide (y12.1.token.num>=0)else false) (Tx n y12.1.token.num) (default:Int)) fun y15=>
    some (((⟨j5.2.2.1,j5.2.2.2.1,y12.1.token.num,(⟨j5.2.2.2.2.2.1,[],j5.2.2.2.2.2.2⟩:zA),[]⟩:zg),bif bif bif bif bif y12.1.token.kind==12 then y14 else false then true else bif y12.1.token.kind==10 then y12.1.token.num==0 else false then decide (y12.1.token.num>=0)else false then y15==0 else false then(y13.2.v.length:Int)==0 else false),y2.2)
theorem gN(n:Nat)(x:zh):Le (Qq n x) (qf x):=by unfold Qq qf;exact(.bind .rfl fun _=>(.bif .rfl (.bind .rfl fun _=>(.bind (zD n _) fun _=>(.join (.bind (Qb n _) fun _=>(.bif .rfl (.bif .rfl .rfl))) fun _=>(.bind (zD n _) fun _=>(.bind .rfl fun _=>(.bif .rfl (.bind .rfl fun _=>(.bind (zD n _) fun _=>(.bind .rfl fun _=>(.bind .rfl fun _=>(.bif .rfl (.bind .rfl fun _=>(.bind (zD n _) fun _=>(.bind (.cond (Ot n _)) fun _=>(.bind (.cond (TM n _)) fun _=> .rfl)))))))))))))))))
def DF(n:Nat)(x:zh):Option ((zg×Bool)×zh):=
 zb (zB n x) fun y1=>
 zb (ZX n ([[110,111,116],[111,110,108,121]],y1.2)) fun y2=>
 zb (zB n y2.2) fun y3=>
 zR (X:=zh×(Int×Str×Int×Str×Bool)×(Int×Str×Int×Str×Bool)×List zg) (
   zb (zH y3.2) fun y4=>
   bif y4==1 then
    zb (zI y3.2) fun y5=>
    zb (Qv n y5.1.token.text) fun y6=>
    zb (Vx n y6) fun y7=>
    bif !y7 then
     some (LX.ret (((⟨1,[],0,(⟨[],[],false⟩:zA),[]⟩:zg),false),y5.2))
    else
     need (zQ 0 1 104)<|
     some (LX.out (y5.2,(0,[],0,[],false),(1,[],0,[],false),[(⟨4,y6,0,(⟨[],[],false⟩:zA),[]⟩:zg)]))
   else
    zb (Qq n y3.2) fun y8=>
    bif bif !y8.1.2 then true else !(y2.1==[])then
     some (LX.ret (((⟨1,[],0,(⟨[],[],false⟩:zA),[]⟩:zg),false),y8.2))
    else
     need (zQ 0 1 104)<|
     some (LX.out (y8.2,(0,[],0,[],false),(1,[],0,[],false),[(⟨y8.1.1.kind,y8.1.1.name,y8.1.1.num,y8.1.1.decl,y8.1.1.list⟩:zg)]))) fun j9=>
 zb (zB n j9.1) fun y10=>
 ql n (fun(s11:zh×(Int×Str×Int×Str×Bool)×(Int×Str×Int×Str×Bool)×List zg)=>
   bif decide ((s11.1.v.length:Int)>0)then
    zb (ZX n ([[97,110,100]],s11.1)) fun y12=>
    bif y12.1==[]then
     some (LO.ret (((⟨s11.2.2.1.1,s11.2.2.1.2.1,s11.2.2.1.2.2.1,(⟨s11.2.2.1.2.2.2.1,[],s11.2.2.1.2.2.2.2⟩:zA),s11.2.2.2⟩:zg),false),y12.2))
    else
     zb (zB n y12.2) fun y13=>
     zb (Qq n y13.2) fun y14=>
     bif !y14.1.2 then
      some (LO.ret (((⟨s11.2.2.1.1,s11.2.2.1.2.1,s11.2.2.1.2.2.1,(⟨s11.2.2.1.2.2.2.1,[],s11.2.2.1.2.2.2.2⟩:zA),s11.2.2.2⟩:zg),false),y14.2))
     else
      need (zQ s11.2.2.2.length 1 104)<|
      zb (zB n y14.2) fun y15=>
      some (LO.again (y15.2,(s11.2.1.1,s11.2.1.2.1,s11.2.1.2.2.1,s11.2.1.2.2.2.1,s11.2.1.2.2.2.2),(s11.2.2.1.1,s11.2.2.1.2.1,s11.2.2.1.2.2.1,s11.2.2.1.2.2.2.1,s11.2.2.1.2.2.2.2),s11.2.2.2++[(⟨y14.1.1.kind,y14.1.1.name,y14.1.1.num,y14.1.1.decl,y14.1.1.list⟩:zg)]))
   else
    some (LO.out (s11.1,(s11.2.1.1,s11.2.1.2.1,s11.2.1.2.2.1,s11.2.1.2.2.2.1,s11.2.1.2.2.2.2),(s11.2.2.1.1,s11.2.2.1.2.1,s11.2.2.1.2.2.1,s11.2.2.1.2.2.2.1,s11.2.2.1.2.2.2.2),s11.2.2.2)):zh×(Int×Str×Int×Str×Bool)×(Int×Str×Int×Str×Bool)×List zg->Option (LO (zh×(Int×Str×Int×Str×Bool)×(Int×Str×Int×Str×Bool)×List zg) (zh×(Int×Str×Int×Str×Bool)×(Int×Str×Int×Str×Bool)×List zg) _)) (y10.2,(j9.2.1.1,j9.2.1.2.1,j9.2.1.2.2.1,j9.2.1.2.2.2.1,j9.2.1.2.2.2.2),(j9.2.2.1.1,j9.2.2.1.2.1,j9.2.2.1.2.2.1,j9.2.2.1.2.2.2.1,j9.2.2.1.2.2.2.2),j9.2.2.2) fun o16=>
 zR (X:=(Int×Str×Int×Str×Bool)×(Int×Str×Int×Str×Bool×List zg)) (
   bif y2.1==[110,111,116]then
    some (LX.out ((o16.2.1.1,o16.2.1.2.1,o16.2.1.2.2.1,o16.2.1.2.2.2.1,o16.2.1.2.2.2.2),(3,[],0,[],false,[(⟨o16.2.2.1.1,o16.2.2.1.2.1,o16.2.2.1.2.2.1,(⟨o16.2.2.1.2.2.2.1,[],o16.2.2.1.2.2.2.2⟩:zA),o16.2.2.2⟩:zg)])))
   else
    some (LX.out ((o16.2.1.1,o16.2.1.2.1,o16.2.1.2.2.1,o16.2.1.2.2.2.1,o16.2.1.2.2.2.2),(o16.2.2.1.1,o16.2.2.1.2.1,o16.2.2.1.2.2.1,o16.2.2.1.2.2.2.1,o16.2.2.1.2.2.2.2,o16.2.2.2)))) fun j17=>
 some (((⟨j17.2.1,j17.2.2.1,j17.2.2.2.1,(⟨j17.2.2.2.2.1,[],j17.2.2.2.2.2.1⟩:zA),j17.2.2.2.2.2.2⟩:zg),true),o16.1)
theorem G6(n:Nat)(x:zh):Le (DF n x) (QU x):=by unfold DF QU;exact(.bind (zD n _) fun _=>(.bind (Qb n _) fun _=>(.bind (zD n _) fun _=>(.join (.bind .rfl fun _=>(.bif (.bind .rfl fun _=>(.bind (Po n _) fun _=>(.bind (UM n _) fun _=>(.bif .rfl (.need .rfl))))) (.bind (gN n _) fun _=>(.bif .rfl (.need .rfl))))) fun _=>(.bind (zD n _) fun _=>(.loop (fun _=>(.bif (.bind (Qb n _) fun _=>(.bif .rfl (.bind (zD n _) fun _=>(.bind (gN n _) fun _=>(.bif .rfl (.need (.bind (zD n _) fun _=> .rfl))))))) .rfl)) fun _=>(.join (.bif .rfl .rfl) fun _=> .rfl)))))))
def VD(n:Nat)(x:List ze):Option (zg×Int):=
 zb (gD n (x,18)) fun y1=>
 bif y1.2 != 0 then
  some ((⟨0,[],0,(⟨[],[],false⟩:zA),[]⟩:zg),y1.2)
 else
  zR (X:=Int×Str×Int×Str×Bool) (
    bif (y1.1.length:Int)==1 then
     zb (zB n (⟨x⟩:zh)) fun y2=>
     bif (y2.2.v.length:Int)==0 then
      some (LX.ret ((⟨1,[],0,(⟨[],[],false⟩:zA),[]⟩:zg),0))
     else
      some (LX.out (0,[],0,[],false))
    else
     some (LX.out (0,[],0,[],false))) fun j3=>
  bif decide ((y1.1.length:Int)>64)then
   some ((⟨0,[],0,(⟨[],[],false⟩:zA),[]⟩:zg),4)
  else
   ql n (fun(s4:Int×(Int×Str×Int×Str×Bool)×List zg)=>
     bif decide (s4.1<(y1.1.length:Int))then
      zb (geti y1.1 s4.1) fun y5=>
      zb (DF n (⟨y5⟩:zh)) fun y6=>
      zR (X:=(Int×Str×Int×Str×Bool)×List zg×zg) (
        bif !y6.1.2 then
         some (LX.out ((s4.2.1.1,s4.2.1.2.1,s4.2.1.2.2.1,s4.2.1.2.2.2.1,s4.2.1.2.2.2.2),s4.2.2,(⟨3,[],0,(⟨[],[],false⟩:zA),[(⟨1,[],0,(⟨[],[],false⟩:zA),[(⟨4,[97,108,108],0,(⟨[],[],false⟩:zA),[]⟩:zg)]⟩:zg)]⟩:zg)))
        else
         some (LX.out ((s4.2.1.1,s4.2.1.2.1,s4.2.1.2.2.1,s4.2.1.2.2.2.1,s4.2.1.2.2.2.2),s4.2.2,(⟨y6.1.1.kind,y6.1.1.name,y6.1.1.num,y6.1.1.decl,y6.1.1.list⟩:zg)))) fun j7=>
      need (zQ j7.2.1.length 1 104)<|
      some (LO.again (w64 (s4.1+1),(j7.1.1,j7.1.2.1,j7.1.2.2.1,j7.1.2.2.2.1,j7.1.2.2.2.2),j7.2.1++[(⟨j7.2.2.kind,j7.2.2.name,j7.2.2.num,j7.2.2.decl,j7.2.2.list⟩:zg)]))
     else
      some (LO.out ((s4.2.1.1,s4.2.1.2.1,s4.2.1.2.2.1,s4.2.1.2.2.2.1,s4.2.1.2.2.2.2),s4.2.2)):Int×(Int×Str×Int×Str×Bool)×List zg->Option (LO (Int×(Int×Str×Int×Str×Bool)×List zg) ((Int×Str×Int×Str×Bool)×List zg) _)) (0,(2,[],0,[],false),[]) fun o8=>
   some ((⟨o8.1.1,o8.1.2.1,o8.1.2.2.1,(⟨o8.1.2.2.2.1,[],o8.1.2.2.2.2⟩:zA),o8.2⟩:zg),0)
theorem PY(n:Nat)(x:List ze):Le (VD n x) (Ur x):=by unfold VD Ur;exact(.bind (IY n _) fun _=>(.bif .rfl (.join (.bif (.bind (zD n _) fun _=>(.bif .rfl .rfl)) .rfl) fun _=>(.bif .rfl (.loop (fun _=>(.bif (.bind .rfl fun _=>(.bind (G6 n _) fun _=>(.join (.bif .rfl .rfl) fun _=>(.need .rfl)))) .rfl)) fun _=> .rfl)))))
def OE(n:Nat)(x:Str×Str×Int×Int):Option Bool:=
 zb (Fy n x.1) fun y1=>
 zb (VD n y1) fun y2=>
 zb (iw n (⟨y2.1.kind,y2.1.name,y2.1.num,y2.1.decl,y2.1.list⟩:zg)) fun y3=>
 bif bif bif y2.2 != 0 then true else y3.2 != 0 then true else !(y3.1==x.2.1)then
  some false
 else
  ql n (fun(s4:Int)=>
    bif decide (s4<30)then
     zb (XD n ((⟨y2.1.kind,y2.1.name,y2.1.num,y2.1.decl,y2.1.list⟩:zg),(⟨s4⟩:VEnv),[])) fun y5=>
     bif bif y5.2 != 0 then true else !(y5.1==(bif decide (s4>=x.2.2.1)then decide (s4<=x.2.2.2)else false))then
      some (LO.ret false)
     else
      some (LO.again (w64 (s4+1)))
    else
     some (LO.out ()):Int->Option (LO (Int) (Unit) _)) 0 fun o6=>
  some true
theorem PZ(n:Nat)(x:Str×Str×Int×Int):Le (OE n x) (Vr x):=by unfold OE Vr;exact(.bind (vM n _) fun _=>(.bind (PY n _) fun _=>(.bind (fK n _) fun _=>(.bif .rfl (.loop (fun _=>(.bif (.bind (RY n _) fun _=>(.bif .rfl .rfl)) .rfl)) fun _=> .rfl)))))
def Cs(n:Nat)(x:List ze):Option (List ze):=
 ql n (fun(s1:List ze)=>
   zb (zw (decide ((s1.length:Int)>0)) (geti s1 0) (default:ze)) fun y2=>
   zb (zw (decide ((s1.length:Int)>0)) (Zq ((⟨y2.token,y2.list⟩:ze),13)) (default:Bool)) fun y3=>
   bif bif decide ((s1.length:Int)>0)then y3 else false then
    need (decide (1<=(s1.length:Int)))<|
    some (LO.again (List.drop 1 s1))
   else
    some (LO.out s1):List ze->Option (LO (List ze) (List ze) _)) x fun o4=>
 some o4
theorem kD(n:Nat)(x:List ze):Le (Cs n x) (Ik x):=by unfold Cs Ik;exact(.loop (fun _=>(.bind .rfl fun _=>(.bind .rfl fun _=>(.bif (.need .rfl) .rfl)))) fun _=> .rfl)
def Ps(n:Nat)(x:List ze):Option (List ze):=
 ql n (fun(s1:List ze)=>
   zb (zw (decide ((s1.length:Int)>0)) (geti s1 (w64 ((s1.length:Int) - 1))) (default:ze)) fun y2=>
   zb (zw (decide ((s1.length:Int)>0)) (Zq ((⟨y2.token,y2.list⟩:ze),13)) (default:Bool)) fun y3=>
   bif bif decide ((s1.length:Int)>0)then y3 else false then
    need (decide (0<=w64 ((s1.length:Int) - 1))&&decide (w64 ((s1.length:Int) - 1)<=(s1.length:Int)))<|
    some (LO.again (List.take (w64 ((s1.length:Int) - 1)).toNat s1))
   else
    some (LO.out s1):List ze->Option (LO (List ze) (List ze) _)) x fun o4=>
 some o4
theorem JE(n:Nat)(x:List ze):Le (Ps n x) (Uk x):=by unfold Ps Uk;exact(.loop (fun _=>(.bind .rfl fun _=>(.bind .rfl fun _=>(.bif (.need .rfl) .rfl)))) fun _=> .rfl)
def nC(n:Nat)(x:List ze):Option (zA×Bool):=
 zb (Cs n x) fun y1=>
 zb (Ps n y1) fun y2=>
 zb (zw (!((y2.length:Int)==0)) (geti y2 0) (default:ze)) fun y3=>
 zb (zw (!((y2.length:Int)==0)) (Zq ((⟨y3.token,y3.list⟩:ze),1)) (default:Bool)) fun y4=>
 bif bif (y2.length:Int)==0 then true else !y4 then
  some ((⟨[],[],false⟩:zA),false)
 else
  zb (geti y2 0) fun y5=>
  zR (X:=List ze×(Str×Bool)×(Str×Bool)) (
    zb (strings_HasPrefix (y5.token.text,[45,45])) fun y6=>
    bif !y6 then
     zb (Qv n y5.token.text) fun y7=>
     some (LX.out (y2,([],false),(y7,false)))
    else
     some (LX.out (y2,([],false),(y5.token.text,false)))) fun j8=>
  need (decide (1<=(j8.1.length:Int)))<|
  zb (Cs n (List.drop 1 j8.1)) fun y9=>
  zb (zw (!((y9.length:Int)==0)) (geti y9 0) (default:ze)) fun y10=>
  zb (zw (!((y9.length:Int)==0)) (Zq ((⟨y10.token,y10.list⟩:ze),16)) (default:Bool)) fun y11=>
  bif bif (y9.length:Int)==0 then true else !y11 then
   some ((⟨[],[],false⟩:zA),false)
  else
   need (decide (1<=(y9.length:Int)))<|
   zb (Cs n (List.drop 1 y9)) fun y12=>
   zR (X:=List ze×(Str×Bool)×(Str×Bool)) (
     zb (zw (decide (w64 ((y12.length:Int) - 1)>0)) (geti y12 (w64 ((y12.length:Int) - 1))) (default:ze)) fun y13=>
     zb (zw (decide (w64 ((y12.length:Int) - 1)>0)) (Zq ((⟨y13.token,y13.list⟩:ze),1)) (default:Bool)) fun y14=>
     zb (zw (bif decide (w64 ((y12.length:Int) - 1)>0)then y14 else false) (geti y12 (w64 ((y12.length:Int) - 1))) (default:ze)) fun y15=>
     zb (zw (bif decide (w64 ((y12.length:Int) - 1)>0)then y14 else false) (ek n (y15.token.text,[105,109,112,111,114,116,97,110,116])) (default:Bool)) fun y16=>
     bif bif bif decide (w64 ((y12.length:Int) - 1)>0)then y14 else false then y16 else false then
      need (decide (0<=w64 ((y12.length:Int) - 1))&&decide (w64 ((y12.length:Int) - 1)<=(y12.length:Int)))<|
      zb (Ps n (List.take (w64 ((y12.length:Int) - 1)).toNat y12)) fun y17=>
      zb (zw (decide ((y17.length:Int)>0)) (geti y17 (w64 ((y17.length:Int) - 1))) (default:ze)) fun y18=>
      zb (zw (decide ((y17.length:Int)>0)) (Jk (⟨y18.token,y18.list⟩:ze)) (default:Bool)) fun y19=>
      bif bif decide ((y17.length:Int)>0)then y19 else false then
       need (decide (0<=w64 ((y17.length:Int) - 1))&&decide (w64 ((y17.length:Int) - 1)<=(y17.length:Int)))<|
       zb (Ps n (List.take (w64 ((y17.length:Int) - 1)).toNat y17)) fun y20=>
       some (LX.out (y20,(j8.2.1.1,j8.2.1.2),(j8.2.2.1,true)))
      else
       some (LX.out (y12,(j8.2.1.1,j8.2.1.2),(j8.2.2.1,j8.2.2.2)))
     else
      some (LX.out (y12,(j8.2.1.1,j8.2.1.2),(j8.2.2.1,j8.2.2.2)))) fun j21=>
   zb (lw n j21.1) fun y22=>
   zb (zw (!(y22.2 != 0)) (Rs n (⟨j21.2.2.1,y22.1,j21.2.2.2⟩:zA)) (default:Int)) fun y23=>
   bif bif y22.2 != 0 then true else y23 != 0 then
    some ((⟨[],[],false⟩:zA),false)
   else
    some ((⟨j21.2.2.1,y22.1,j21.2.2.2⟩:zA),true)
theorem aW(n:Nat)(x:List ze):Le (nC n x) (iq x):=by unfold nC iq;exact(.bind (kD n _) fun _=>(.bind (JE n _) fun _=>(.bind .rfl fun _=>(.bind .rfl fun _=>(.bif .rfl (.bind .rfl fun _=>(.join (.bind .rfl fun _=>(.bif (.bind (Po n _) fun _=> .rfl) .rfl)) fun _=>(.need (.bind (kD n _) fun _=>(.bind .rfl fun _=>(.bind .rfl fun _=>(.bif .rfl (.need (.bind (kD n _) fun _=>(.join (.bind .rfl fun _=>(.bind .rfl fun _=>(.bind .rfl fun _=>(.bind (.cond (Ot n _)) fun _=>(.bif (.need (.bind (JE n _) fun _=>(.bind .rfl fun _=>(.bind .rfl fun _=>(.bif (.need (.bind (JE n _) fun _=> .rfl)) .rfl))))) .rfl))))) fun _=>(.bind (bK n _) fun _=>(.bind (.cond (KE n _)) fun _=>(.bif .rfl .rfl))))))))))))))))))
def oC(n:Nat)(x:List ze):Option (zA×Bool×Int):=
 zb (Qz n x) fun y1=>
 bif y1 != 0 then
  some ((⟨[],[],false⟩:zA),false,y1)
 else
  zb (nC n x) fun y2=>
  some (y2.1,y2.2,0)
theorem bW(n:Nat)(x:List ze):Le (oC n x) (jq x):=by unfold oC jq;exact(.bind (ak n _) fun _=>(.bif .rfl (.bind (aW n _) fun _=> .rfl)))
def Qr(n:Nat)(zu:zh->Option ((zg×Bool)×zh))(x:zh):Option ((zg×Bool)×zh):=
 zb (zH x) fun y1=>
 bif y1==2 then
  zb (zI x) fun y2=>
  some (((⟨8,[],0,(⟨[],[],false⟩:zA),[]⟩:zg),true),y2.2)
 else
  bif y1==21 then
   zb (zI x) fun y3=>
   zb (oC n y3.1.list) fun y4=>
   bif bif y4.2.2==0 then y4.2.1 else false then
    some (((⟨7,[],0,y4.1,[]⟩:zg),true),y3.2)
   else
    zb (zu (⟨y3.1.list⟩:zh)) fun y5=>
    bif y5.1.2 then
     some (((⟨y5.1.1.kind,y5.1.1.name,y5.1.1.num,y5.1.1.decl,y5.1.1.list⟩:zg),true),y3.2)
    else
     some (((⟨8,[],0,(⟨[],[],false⟩:zA),[]⟩:zg),true),y3.2)
  else
   some (((⟨8,[],0,(⟨[],[],false⟩:zA),[]⟩:zg),false),x)
theorem VF(n:Nat)(zu cond_reader_told':zh->Option ((zg×Bool)×zh))(h_cond_reader_told: ∀z,Le (zu z) (cond_reader_told' z))(x:zh):Le (Qr n zu x) (qE cond_reader_told' x):=by unfold Qr qE;exact(.bind .rfl fun _=>(.bif (.bind .rfl fun _=> .rfl) (.bif (.bind .rfl fun _=>(.bind (bW n _) fun _=>(.bif .rfl (.bind (h_cond_reader_told _) fun _=>(.bif .rfl .rfl))))) .rfl)))
def NF(n:Nat)(zu:zh->Option ((zg×Bool)×zh))(x:zh):Option ((zg×Bool)×zh):=
 zb (zB n x) fun y1=>
 zb (ZX n ([[110,111,116]],y1.2)) fun y2=>
 bif !(y2.1==[])then
  zb (zB n y2.2) fun y3=>
  zb (Qr n zu y3.2) fun y4=>
  zb (zB n y4.2) fun y5=>
  some (((⟨3,[],0,(⟨[],[],false⟩:zA),[(⟨y4.1.1.kind,y4.1.1.name,y4.1.1.num,y4.1.1.decl,y4.1.1.list⟩:zg)]⟩:zg),bif bif y4.1.2 then y3.1 else false then(y5.2.v.length:Int)==0 else false),y5.2)
 else
  zb (Qr n zu y2.2) fun y6=>
  bif !y6.1.2 then
   some (((⟨y6.1.1.kind,y6.1.1.name,y6.1.1.num,y6.1.1.decl,y6.1.1.list⟩:zg),false),y6.2)
  else
   zb (zB n y6.2) fun y7=>
   bif (y7.2.v.length:Int)==0 then
    some (((⟨y6.1.1.kind,y6.1.1.name,y6.1.1.num,y6.1.1.decl,y6.1.1.list⟩:zg),true),y7.2)
   else
    ql n (fun(s8:Bool×zh×(Int×Str×Int×Str×Bool)×(Int×Str×Int×Str×Bool)×List zg)=>
      bif decide ((s8.2.1.v.length:Int)>0)then
       zb (ZX n ([[97,110,100],[111,114]],s8.2.1)) fun y9=>
       bif bif bif (bif y9.1==[97,110,100]then 1 else bif y9.1==[111,114]then 2 else(0:Int))==0 then true else !s8.1 then true else bif s8.2.2.2.1.1 != 0 then s8.2.2.2.1.1 != (bif y9.1==[97,110,100]then 1 else bif y9.1==[111,114]then 2 else(0:Int))else false then
        some (LO.ret (((⟨s8.2.2.2.1.1,s8.2.2.2.1.2.1,s8.2.2.2.1.2.2.1,(⟨s8.2.2.2.1.2.2.2.1,[],s8.2.2.2.1.2.2.2.2⟩:zA),s8.2.2.2.2⟩:zg),false),y9.2))
       else
        zb (zB n y9.2) fun y10=>
        zb (Qr n zu y10.2) fun y11=>
        bif bif !y10.1 then true else !y11.1.2 then
         some (LO.ret (((⟨bif y9.1==[97,110,100]then 1 else bif y9.1==[111,114]then 2 else(0:Int),s8.2.2.2.1.2.1,s8.2.2.2.1.2.2.1,(⟨s8.2.2.2.1.2.2.2.1,[],s8.2.2.2.1.2.2.2.2⟩:zA),s8.2.2.2.2⟩:zg),false),y11.2))
        else
         need (zQ s8.2.2.2.2.length 1 104)<|
         zb (zB n y11.2) fun y12=>
         some (LO.again (y12.1,y12.2,(s8.2.2.1.1,s8.2.2.1.2.1,s8.2.2.1.2.2.1,s8.2.2.1.2.2.2.1,s8.2.2.1.2.2.2.2),(bif y9.1==[97,110,100]then 1 else bif y9.1==[111,114]then 2 else(0:Int),s8.2.2.2.1.2.1,s8.2.2.2.1.2.2.1,s8.2.2.2.1.2.2.2.1,s8.2.2.2.1.2.2.2.2),s8.2.2.2.2++[(⟨y11.1.1.kind,y11.1.1.name,y11.1.1.num,y11.1.1.decl,y11.1.1.list⟩:zg)]))
      else
       some (LO.out (s8.2.1,(s8.2.2.1.1,s8.2.2.1.2.1,s8.2.2.1.2.2.1,s8.2.2.1.2.2.2.1,s8.2.2.1.2.2.2.2),(s8.2.2.2.1.1,s8.2.2.2.1.2.1,s8.2.2.2.1.2.2.1,s8.2.2.2.1.2.2.2.1,s8.2.2.2.1.2.2.2.2),s8.2.2.2.2)):Bool×zh×(Int×Str×Int×Str×Bool)×(Int×Str×Int×Str×Bool)×List zg->Option (LO (Bool×zh×(Int×Str×Int×Str×Bool)×(Int×Str×Int×Str×Bool)×List zg) (zh×(Int×Str×Int×Str×Bool)×(Int×Str×Int×Str×Bool)×List zg) _)) (y7.1,y7.2,(0,[],0,[],false),(0,[],0,[],false),[(⟨y6.1.1.kind,y6.1.1.name,y6.1.1.num,y6.1.1.decl,y6.1.1.list⟩:zg)]) fun o13=>
    some (((⟨o13.2.2.1.1,o13.2.2.1.2.1,o13.2.2.1.2.2.1,(⟨o13.2.2.1.2.2.2.1,[],o13.2.2.1.2.2.2.2⟩:zA),o13.2.2.2⟩:zg),true),o13.1)
def JN(n:Nat):zh->Option ((zg×Bool)×zh):=Ef (NF n) n
theorem I6(n:Nat)(zu cond_reader_told':zh->Option ((zg×Bool)×zh))(h_cond_reader_told: ∀z,Le (zu z) (cond_reader_told' z))(x:zh):Le (NF n zu x) (Qs cond_reader_told' x):=by unfold NF Qs;exact(.bind (zD n _) fun _=>(.bind (Qb n _) fun _=>(.bif (.bind (zD n _) fun _=>(.bind (VF n _ _ h_cond_reader_told _) fun _=>(.bind (zD n _) fun _=> .rfl))) (.bind (VF n _ _ h_cond_reader_told _) fun _=>(.bif .rfl (.bind (zD n _) fun _=>(.bif .rfl (.loop (fun _=>(.bif (.bind (Qb n _) fun _=>(.bif .rfl (.bind (zD n _) fun _=>(.bind (VF n _ _ h_cond_reader_told _) fun _=>(.bif .rfl (.need (.bind (zD n _) fun _=> .rfl))))))) .rfl)) fun _=> .rfl))))))))
theorem J5(n:Nat)(x:zh):Le (JN n x) (zu x):=Le.rec (fun S S' h x=>I6 n S S' h x) n x
def mE(n:Nat)(x:List ze):Option (zg×Int):=
 zb (Qz n x) fun y1=>
 bif y1 != 0 then
  some ((⟨0,[],0,(⟨[],[],false⟩:zA),[]⟩:zg),y1)
 else
  zb (JN n (⟨x⟩:zh)) fun y2=>
  zb (zw (!(!y2.1.2)) (qL n (⟨y2.1.1.kind,y2.1.1.name,y2.1.1.num,y2.1.1.decl,y2.1.1.list⟩:zg)) (default:Int)) fun y3=>
  bif bif !y2.1.2 then true else y3 != 0 then
   some ((⟨0,[],0,(⟨[],[],false⟩:zA),[]⟩:zg),12)
  else
   some ((⟨y2.1.1.kind,y2.1.1.name,y2.1.1.num,y2.1.1.decl,y2.1.1.list⟩:zg),0)
theorem V3(n:Nat)(x:List ze):Le (mE n x) (Xt x):=by unfold mE Xt;exact(.bind (ak n _) fun _=>(.bif .rfl (.bind (J5 n _) fun _=>(.bind (.cond (kF n _)) fun _=>(.bif .rfl .rfl)))))
def CF(n:Nat)(Zp:(zg×Int)×Int×List Bool->Option (Bool×Int))(x:(zg×Int)×Int×List Bool):Option (Bool×Int):=
 bif x.1.1.kind==4 then
  some (bif x.1.1.name==[97,108,108]then true else x.1.1.name==[115,99,114,101,101,110],x.2.1)
 else
  bif x.1.1.kind==5 then
   some (decide (x.1.2>=x.1.1.num),x.2.1)
  else
   bif x.1.1.kind==6 then
    some (decide (x.1.2<=x.1.1.num),x.2.1)
   else
    bif x.1.1.kind==7 then
     zb (Ay (x.2.1,x.2.2)) fun y1=>
     some (y1.1,y1.2)
    else
     bif x.1.1.kind==8 then
      some (false,x.2.1)
     else
      ql n (fun(s2:(Bool×Bool×Int)×Int)=>
        bif decide (s2.1.2.2<(x.1.1.list.length:Int))then
         zb (geti x.1.1.list s2.1.2.2) fun y3=>
         zb (Zp (((⟨y3.kind,y3.name,y3.num,y3.decl,y3.list⟩:zg),x.1.2),s2.2,x.2.2)) fun y4=>
         some (LO.again ((bif s2.1.1 then y4.1 else false,bif s2.1.2.1 then true else y4.1,w64 (s2.1.2.2+1)),y4.2))
        else
         some (LO.out ((s2.1.1,s2.1.2.1),s2.2)):(Bool×Bool×Int)×Int->Option (LO ((Bool×Bool×Int)×Int) ((Bool×Bool)×Int) _)) ((true,false,0),x.2.1) fun o5=>
      bif x.1.1.kind==1 then
       some (o5.1.1,o5.2)
      else
       bif x.1.1.kind==2 then
        some (o5.1.2,o5.2)
       else
        some (!o5.1.2,o5.2)
def XM(n:Nat):(zg×Int)×Int×List Bool->Option (Bool×Int):=Ef (CF n) n
theorem Y3(n:Nat)(Zp cond_holds_2':(zg×Int)×Int×List Bool->Option (Bool×Int))(h_cond_holds_2: ∀z,Le (Zp z) (cond_holds_2' z))(x:(zg×Int)×Int×List Bool):Le (CF n Zp x) (Rt cond_holds_2' x):=by unfold CF Rt;exact(.bif .rfl (.bif .rfl (.bif .rfl (.bif (.bind .rfl fun _=> .rfl) (.bif .rfl (.loop (fun _=>(.bif (.bind .rfl fun _=>(.bind (h_cond_holds_2 _) fun _=> .rfl)) .rfl)) fun _=>(.bif .rfl (.bif .rfl .rfl))))))))
theorem yZ(n:Nat)(x:(zg×Int)×Int×List Bool):Le (XM n x) (Zp x):=Le.rec (fun S S' h x=>Y3 n S S' h x) n x
def yx(n:Nat)(x:(zg×VEnv)×List Bool):Option (Bool×Int):=
 zb (Vs n (⟨x.1.1.kind,x.1.1.name,x.1.1.num,x.1.1.decl,x.1.1.list⟩:zg)) fun y1=>
 bif y1 != 0 then
  some (false,y1)
 else
  zb (zw (!(bif decide (x.1.2.width<0)then true else decide (x.1.2.width>1000000000))) (Dx n (⟨x.1.1.kind,x.1.1.name,x.1.1.num,x.1.1.decl,x.1.1.list⟩:zg)) (default:List zA)) fun y2=>
  bif bif bif decide (x.1.2.width<0)then true else decide (x.1.2.width>1000000000)then true else(x.2.length:Int) != (y2.length:Int)then
   some (false,2)
  else
   zb (XM n (((⟨x.1.1.kind,x.1.1.name,x.1.1.num,x.1.1.decl,x.1.1.list⟩:zg),w64 (1000*x.1.2.width)),0,x.2)) fun y3=>
   some (y3.1,0)
theorem wM(n:Nat)(x:(zg×VEnv)×List Bool):Le (yx n x) (Mo x):=by unfold yx Mo;exact(.bind (NE n _) fun _=>(.bif .rfl (.bind (.cond (ME n _)) fun _=>(.bif .rfl (.bind (yZ n _) fun _=> .rfl)))))
def xE(n:Nat)(x:Str×Str×Bool×Bool):Option Bool:=
 zb (Fy n x.1) fun y1=>
 zb (mE n y1) fun y2=>
 zb (iw n (⟨y2.1.kind,y2.1.name,y2.1.num,y2.1.decl,y2.1.list⟩:zg)) fun y3=>
 zb (YD n (⟨y2.1.kind,y2.1.name,y2.1.num,y2.1.decl,y2.1.list⟩:zg)) fun y4=>
 bif bif bif bif y2.2 != 0 then true else y3.2 != 0 then true else y4.2 != 0 then true else !(y3.1==x.2.1)then
  some false
 else
  need (decide (0<=(y4.1.length:Int))&&decide ((y4.1.length:Int)<=(y4.1.length:Int))&&decide ((y4.1.length:Int)*1<=140737488355328)&&decide ((y4.1.length:Int)<=9223372036854775807))<|
  zb (yx n (((⟨y2.1.kind,y2.1.name,y2.1.num,y2.1.decl,y2.1.list⟩:zg),(⟨0⟩:VEnv)),List.replicate (Int.toNat (y4.1.length:Int)) false)) fun y5=>
  ql n (fun(s6:Int×List Bool)=>
    bif decide (s6.1<(s6.2.length:Int))then
     need (decide (0<=s6.1)&&decide (s6.1<(s6.2.length:Int)))<|
     zb s6.2[s6.1.toNat]? fun y7=>
     some (LO.again (w64 (s6.1+1),List.set s6.2 s6.1.toNat true))
    else
     some (LO.out s6.2):Int×List Bool->Option (LO (Int×List Bool) (List Bool) _)) (0,List.replicate (Int.toNat (y4.1.length:Int)) false) fun o8=>
  zb (yx n (((⟨y2.1.kind,y2.1.name,y2.1.num,y2.1.decl,y2.1.list⟩:zg),(⟨0⟩:VEnv)),o8)) fun y9=>
  some (bif bif bif y5.2==0 then y9.2==0 else false then y5.1==x.2.2.2 else false then y9.1==x.2.2.1 else false)
theorem R4(n:Nat)(x:Str×Str×Bool×Bool):Le (xE n x) (Pt x):=by unfold xE Pt;exact(.bind (vM n _) fun _=>(.bind (V3 n _) fun _=>(.bind (fK n _) fun _=>(.bind (SY n _) fun _=>(.bif .rfl (.need (.bind (wM n _) fun _=>(.loop (fun _=>(.bif (.need (.bind .rfl fun _=> .rfl)) .rfl)) fun _=>(.bind (wM n _) fun _=> .rfl)))))))))
def tL(n:Nat)(x:Unit):Option Bool:=
 zb (OE n ([83,99,114,101,101,110,32,65,78,68,32,40,109,105,110,45,119,105,100,116,104,58,49,48,46,53,112,120,41,44,32,40,102,111,111,41],[115,99,114,101,101,110,32,97,110,100,32,40,109,105,110,45,119,105,100,116,104,58,32,49,48,46,53,112,120,41,44,32,110,111,116,32,97,108,108],11,99)) fun y1=>
 zb (zw y1 (xE n ([110,111,116,32,40,40,97,58,98,41,32,111,114,32,40,99,41,41],[110,111,116,32,40,40,97,58,32,98,41,32,111,114,32,40,117,110,107,110,111,119,110,41,41],false,true)) (default:Bool)) fun y2=>
 some (bif y1 then y2 else false)
theorem RZ(n:Nat)(x:Unit):Le (tL n x) (Xk x):=by unfold tL Xk;exact(.bind (PZ n _) fun _=>(.bind (.cond (R4 n _)) fun _=> .rfl))
end
end Go.Lv.VT
