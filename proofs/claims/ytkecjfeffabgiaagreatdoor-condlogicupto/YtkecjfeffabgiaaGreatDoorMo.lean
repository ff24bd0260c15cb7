/- Laws for the plain texts: loops that look for something; bytes. -/
import Derived.Test.YtkecjfeffabgiaaGreatDoorLf
import Derived.Test.YtkecjfeffabgiaaGreatDoorTx
set_option linter.unusedSimpArgs false
set_option linter.unusedVariables false
namespace Go.Lv.VT
abbrev big:Nat:=4194304
theorem Zw{i n:Nat}(h:i<n):decide ((i:Int)<(n:Int))=true:=Ta (by omega)
theorem af(n:Nat):decide ((n:Int)<(n:Int))=false:=Eb (by omega)
theorem Zh{i n:Nat}(h:i<n)(a:n<=big):w64 ((i:Int)+1)=((i+1:Nat):Int):=by rw[w64,Zo (by omega) (by grind)];omega
theorem Zb{α:Type}(b:Bool)(v d:α):zo b (some v) d=some (bif b then v else d):=by cases b<;>rfl
theorem Sl {α X R:Type} {step:Int->Option (LO Int X R)} {k:X->Option R} (l:List α) (q:α->Option R) (x:X)
  (hg: ∀(i:Nat) (h:i<l.length),step (i:Int)=some (match q l[i]with|some r=> .ret r|none=> .again ((i+1:Nat):Int)))
  (hf:step (l.length:Int)=some (.out x)):zY step 0 k=match l.findSome? q with|some r=>some r|none=>k x:=by
 have key: ∀(m:List α) (i:Nat),l.drop i=m->i<=l.length-> ∃n,qD step n (i:Int)=some (match m.findSome? q with|some r=> .ret r|none=> .out x):=by
  intro m
  induction m with
  |nil=>
   intro i hd hi;have:i=l.length:=by have:=Rc.1 hd;omega
   subst this;exact⟨1,by simp only[qD,hf,List.findSome?_nil]⟩
  |cons v m ih=>
   intro i hd hi;have hlt:i<l.length:=by
    rcases Fe i l.length with h|h
    ·exact h
    ·grind
   have hv:l[i]=v:=by have:=Xa hlt;rw[hd]at this;injection this with h1 _;exact h1.symm
   have hs:=hg i hlt;rw[hv]at hs;cases hq:q v with
   |some r=> rw[hq]at hs;exact⟨1,by simp only[qD,hs,List.findSome?_cons,hq]⟩
   |none=> rw[hq]at hs;obtain⟨n,hn⟩:=ih (i+1) (by rw[Xa hlt]at hd;injection hd) (by omega);refine⟨n+1,?_⟩;simp only[qD,hs,List.findSome?_cons,hq];exact hn
 obtain⟨n,hn⟩:=key l 0 rfl (by omega);replace hn:qD step n 0=_:=hn;rw[kg (Bh hn)];cases l.findSome? q<;>rfl
theorem Oo{α R:Type}(p:α->Bool)(r:R): ∀(l:List α),l.findSome? (fun v=>bif p v then none else some r)=bif l.all p then none else some r
 |[]=>rfl
 |v::l=>by
  rw[List.findSome?_cons,List.all_cons];cases p v with
  |false=>rfl
  |true=>exact Oo p r l
theorem KD{α R:Type}(p:α->Bool)(r:R): ∀(l:List α),l.findSome? (fun v=>bif p v then some r else none)=bif l.any p then some r else none
 |[]=>rfl
 |v::l=>by
  rw[List.findSome?_cons,List.any_cons];cases p v with
  |true=>rfl
  |false=>exact KD p r l
def idxS{α:Type}(p:α->Bool):List α->Int
 |[]=> -1
 |v::l=>bif p v then 0 else bif decide (idxS p l<0)then -1 else idxS p l+1
theorem Js{α:Type}(p:α->Bool): ∀(l:List α),decide (idxS p l>=0)=l.any p
 |[]=>rfl
 |v::l=>by
  have a:=Js p l;rw[List.any_cons,idxS]
  grind
theorem mI{α:Type}(p:α->Bool): ∀(l:List α), -1<=idxS p l/\idxS p l<l.length
 |[]=>by simp[idxS]
 |v::l=>by
  have:=mI p l;rw[idxS,Ab]
  grind
theorem dx {α:Type} {step:Int->Option (LO Int Unit Int)} (l:List α) (p:α->Bool) (hn:l.length<=big)
  (hg: ∀(i:Nat) (h:i<l.length),step (i:Int)=bif p l[i]then some (.ret (i:Int))else some (.again (w64 ((i:Int)+1))))
  (hf:step (l.length:Int)=some (.out ())):zY step 0 (fun _=>some (-1))=some (idxS p l):=by
 have key: ∀(m:List α) (i:Nat),l.drop i=m->i<=l.length-> ∃n,qD step n (i:Int)=some (bif decide (idxS p m<0)then .out ()else .ret ((i:Int)+idxS p m)):=by
  intro m
  induction m with
  |nil=>
   intro i hd hi;have:i=l.length:=by have:=Rc.1 hd;omega
   subst this;exact⟨1,by simp only[qD,hf];rfl⟩
  |cons v m ih=>
   intro i hd hi;have hlt:i<l.length:=by
    rcases Fe i l.length with h|h
    ·exact h
    ·grind
   have hv:l[i]=v:=by have:=Xa hlt;rw[hd]at this;injection this with h1 _;exact h1.symm
   have hs:=hg i hlt;rw[hv]at hs;cases hq:p v with
   |true=> rw[hq]at hs;refine⟨1,?_⟩;simp only[qD,hs,Ea,idxS,hq];simp
   |false=>
    rw[hq,Da,Zh hlt hn]at hs;obtain⟨n,hn'⟩:=ih (i+1) (by rw[Xa hlt]at hd;injection hd) (by omega);refine⟨n+1,?_⟩;simp only[qD,hs,idxS,hq,Da]
    grind
 obtain⟨n,hn'⟩:=key l 0 rfl (by omega);replace hn':qD step n 0=_:=hn';rw[kg (Bh hn')];have hb:=mI p l;by_cases h0:idxS p l<0
 ·rw[Ta h0];show some (-1)=_;congr 1;omega
 ·rw[Eb h0];simp_all
noncomputable section
set_option maxRecDepth 100000
def VF(n:Nat)(qp:List ze×Int->Option zA)(x:List ze×Int):Option zA:=
 ZK n (fun(s1:Int×zA)=>
   bif decide (s1.1<(x.1.length:Int))then
    zF (X:=Int×zA) (
      zb (geti x.1 s1.1) fun y2=>
      zb (qW y2.token.kind) fun y3=>
      zF (X:=zA) (
        bif bif bif x.2 != 0 then y2.token.kind==x.2 else false then true else bif y3==0 then decide ((y2.list.length:Int)>0)else false then
         some (LX.out (⟨s1.2.depth,w64 (s1.2.tokens+1),true⟩:zA))
        else
         some (LX.out (⟨s1.2.depth,w64 (s1.2.tokens+1),s1.2.bad⟩:zA))) fun j4=>
      bif y3==0 then
       some (LX.out (s1.1,j4))
      else
       zb (qp (y2.list,y3)) fun y5=>
       some (LX.out (s1.1,(⟨if w64 (y5.depth+1)>j4.depth then w64 (y5.depth+1)else j4.depth,w64 (w64 (j4.tokens+y5.tokens)+1),bif j4.bad then true else y5.bad⟩:zA)))) fun j6=>
    some (LO.again (w64 (j6.1+1),j6.2))
   else
    some (LO.out s1.2):Int×zA->Option (LO (Int×zA) (zA) _)) (0,(⟨0,0,false⟩:zA)) fun o7=>
 some o7
def jE(n:Nat):List ze×Int->Option zA:=Ef (VF n) n
theorem iY(n:Nat)(qp nest_look':List ze×Int->Option zA)(h_nest_look: ∀z,Le (qp z) (nest_look' z))(x:List ze×Int):Le (VF n qp x) (Gp nest_look' x):=by unfold VF Gp;exact(.loop (fun _=>(.bif (.join (.bind .rfl fun _=>(.bind .rfl fun _=>(.join (.bif .rfl .rfl) fun _=>(.bif .rfl (.bind (h_nest_look _) fun _=> .rfl))))) fun _=> .rfl) .rfl)) fun _=> .rfl)
theorem TM(n:Nat)(x:List ze×Int):Le (jE n x) (qp x):=Le.rec (fun S S' h x=>iY n S S' h x) n x
def QU(n:Nat)(x:List ze):Option Int:=
 zb (jE n (x,0)) fun y1=>
 bif decide (y1.depth>16)then
  some 20
 else
  bif decide (y1.tokens>1500)then
   some 4
  else
   bif y1.bad then
    some 8
   else
    some 0
theorem Gm(n:Nat)(x:List ze):Le (QU n x) (ZG x):=by unfold QU ZG;exact(.bind (TM n _) fun _=>(.bif .rfl (.bif .rfl (.bif .rfl .rfl))))
def wE(n:Nat)(x:List ze):Option (Int×Int):=
 zb (QU n x) fun y1=>
 bif y1 != 0 then
  some (0,y1)
 else
  zb (jE n (x,0)) fun y2=>
  some (y2.depth,0)
theorem VY(n:Nat)(x:List ze):Le (wE n x) (Rl x):=by unfold wE Rl;exact(.bind (Gm n _) fun _=>(.bif .rfl (.bind (TM n _) fun _=> .rfl)))
def RG(n:Nat)(ZL:List ze×List zf->Option (List zf))(x:List ze×List zf):Option (List zf):=
 ZK n (fun(s1:Int×List zf)=>
   bif decide (s1.1<(x.1.length:Int))then
    zF (X:=Int×List zf) (
      zb (geti x.1 s1.1) fun y2=>
      need (zQ s1.2.length 1 56)<|
      zb (qW y2.token.kind) fun y3=>
      bif y3 != 0 then
       zb (ZL (y2.list,s1.2++[y2.token])) fun y4=>
       need (zQ y4.length 1 56)<|
       some (LX.out (s1.1,y4++[(⟨y3,[],0,[],false⟩:zf)]))
      else
       some (LX.out (s1.1,s1.2++[y2.token]))) fun j5=>
    some (LO.again (w64 (j5.1+1),j5.2))
   else
    some (LO.out s1.2):Int×List zf->Option (LO (Int×List zf) (List zf) _)) (0,x.2) fun o6=>
 some o6
def MO(n:Nat):List ze×List zf->Option (List zf):=Ef (RG n) n
theorem O5(n:Nat)(ZL nest_flat_3':List ze×List zf->Option (List zf))(h_nest_flat_3: ∀z,Le (ZL z) (nest_flat_3' z))(x:List ze×List zf):Le (RG n ZL x) (Cq nest_flat_3' x):=by unfold RG Cq;exact(.loop (fun _=>(.bif (.join (.bind .rfl fun _=>(.need (.bind .rfl fun _=>(.bif (.bind (h_nest_flat_3 _) fun _=>(.need .rfl)) .rfl)))) fun _=> .rfl) .rfl)) fun _=> .rfl)
theorem O0(n:Nat)(x:List ze×List zf):Le (MO n x) (ZL x):=Le.rec (fun S S' h x=>O5 n S S' h x) n x
def Sz(n:Nat)(x:List ze):Option (List zf):=
 ZK n (fun(s1:Int×List zf)=>
   bif decide (s1.1<(x.length:Int))then
    zF (X:=Int×List zf) (
      zb (geti x s1.1) fun y2=>
      need (zQ s1.2.length 1 56)<|
      zb (qW y2.token.kind) fun y3=>
      bif y3 != 0 then
       zb (MO n (y2.list,s1.2++[y2.token])) fun y4=>
       need (zQ y4.length 1 56)<|
       some (LX.out (s1.1,y4++[(⟨y3,[],0,[],false⟩:zf)]))
      else
       some (LX.out (s1.1,s1.2++[y2.token]))) fun j5=>
    some (LO.again (w64 (j5.1+1),j5.2))
   else
    some (LO.out s1.2):Int×List zf->Option (LO (Int×List zf) (List zf) _)) (0,[]) fun o6=>
 some o6
theorem PO(n:Nat)(x:List ze):Le (Sz n x) (Q7 x):=by unfold Sz Q7;exact(.loop (fun _=>(.bif (.join (.bind .rfl fun _=>(.need (.bind .rfl fun _=>(.bif (.bind (O0 n _) fun _=>(.need .rfl)) .rfl)))) fun _=> .rfl) .rfl)) fun _=> .rfl)
def nE(n:Nat)(x:List ze):Option (List zf×Int):=
 zb (QU n x) fun y1=>
 bif y1 != 0 then
  some ([],y1)
 else
  zb (Sz n x) fun y2=>
  some (y2,0)
theorem bX(n:Nat)(x:List ze):Le (nE n x) (El x):=by unfold nE El;exact(.bind (Gm n _) fun _=>(.bif .rfl (.bind (PO n _) fun _=> .rfl)))
def QR(n:Nat)(x:Str):Option Str:=
 need (decide (x.length<=maxLen))<|
 ZK n (fun(s1:Int×List UInt8)=>
   bif decide (s1.1<(x.length:Int))then
    zF (X:=Int×List UInt8) (
      need (decide (0<=s1.1)&&decide (s1.1<(s1.2.length:Int)))<|
      zb s1.2[s1.1.toNat]? fun y2=>
      bif bif decide (65<=(y2.toNat:Int))then decide ((y2.toNat:Int)<=90)else false then
       need (decide (0<=s1.1)&&decide (s1.1<(s1.2.length:Int)))<|
       zb s1.2[s1.1.toNat]? fun y3=>
       need (decide (0<=s1.1)&&decide (s1.1<(s1.2.length:Int)))<|
       zb s1.2[s1.1.toNat]? fun y4=>
       zb (ZT (ibOr IntKind.u8 (y3.toNat:Int) 32)) fun y5=>
       some (LX.out (s1.1,List.set s1.2 s1.1.toNat y5))
      else
       some (LX.out (s1.1,s1.2))) fun j6=>
    some (LO.again (w64 (j6.1+1),j6.2))
   else
    some (LO.out s1.2):Int×List UInt8->Option (LO (Int×List UInt8) (List UInt8) _)) (0,x) fun o7=>
 some o7
theorem Pq(n:Nat)(x:Str):Le (QR n x) (ZJ x):=by unfold QR ZJ;exact(.need (.loop (fun _=>(.bif (.join (.need (.bind .rfl fun _=>(.bif (.need (.bind .rfl fun _=>(.need (.bind .rfl fun _=>(.bind .rfl fun _=> .rfl))))) .rfl))) fun _=> .rfl) .rfl)) fun _=> .rfl))
def oF(n:Nat)(x:Str):Option Bool:=
 zb (zo (!(bif x==[]then true else decide ((x.length:Int)>64))) (strings_IndexByte (x,0)) (default:Int)) fun y1=>
 bif bif bif x==[]then true else decide ((x.length:Int)>64)then true else decide (y1>=0)then
  some false
 else
  zb (strings_HasPrefix (x,[45,45])) fun y2=>
  bif y2 then
   some (!(x==[45,45]))
  else
   zb (QR n x) fun y3=>
   some (x==y3)
theorem XY(n:Nat)(x:Str):Le (oF n x) (Vl x):=by unfold oF Vl;exact(.bind .rfl fun _=>(.bif .rfl (.bind .rfl fun _=>(.bif .rfl (.bind (Pq n _) fun _=> .rfl)))))
def Hm(n:Nat)(x:Str×Str):Option Bool:=
 zb (QR n x.1) fun y1=>
 zb (QR n x.2) fun y2=>
 some (y1==y2)
theorem ou(n:Nat)(x:Str×Str):Le (Hm n x) (ZW x):=by unfold Hm ZW;exact(.bind (Pq n _) fun _=>(.bind (Pq n _) fun _=> .rfl))
def Gz(n:Nat)(x:List zf):Option Int:=
 zb (geti x 0) fun y1=>
 bif bif y1.kind==9 then y1.text==[92]else false then
  zb (qm ((1,13),x)) fun y2=>
  bif !y2 then
   some 0
  else
   some 2
 else
  zb (zo (y1.kind==2) (Hm n (y1.text,[117,114,108])) (default:Bool)) fun y3=>
  bif bif y1.kind==2 then y3 else false then
   zF (X:=Int) (
     zb (qm ((1,13),x)) fun y4=>
     bif y4 then
      some (LX.out 2)
     else
      some (LX.out 1)) fun j5=>
   zb (qm ((j5,5),x)) fun y6=>
   bif !y6 then
    some 0
   else
    some (w64 (j5+1))
  else
   some 1
theorem OO(n:Nat)(x:List zf):Le (Gz n x) (bi x):=by unfold Gz bi;exact(.bind .rfl fun _=>(.bif (.bind .rfl fun _=>(.bif .rfl .rfl)) (.bind (.cond (ou n _)) fun _=>(.bif (.join (.bind .rfl fun _=>(.bif .rfl .rfl)) fun _=>(.bind .rfl fun _=>(.bif .rfl .rfl))) .rfl))))
def Hz(n:Nat)(x:List zf):Option Int:=
 bif decide ((x.length:Int)>1500)then
  some 4
 else
  ZK n (fun(s1:Int)=>
    bif decide (s1<(x.length:Int))then
     zb (geti x s1) fun y2=>
     zb (Uo y2) fun y3=>
     need (decide (0<=s1)&&decide (s1<=(x.length:Int))|| !(!(!y3)))<|
     zb (zo (!(!y3)) (Gz n (List.drop s1.toNat x)) (default:Int)) fun y4=>
     bif bif !y3 then true else y4==0 then
      some (LO.ret 8)
     else
      some (LO.again (w64 (s1+1)))
    else
     some (LO.out ()):Int->Option (LO (Int) (Unit) _)) 0 fun o5=>
  some 0
theorem Tz(n:Nat)(x:List zf):Le (Hz n x) (QJ x):=by unfold Hz QJ;exact(.bif .rfl (.loop (fun _=>(.bif (.bind .rfl fun _=>(.bind .rfl fun _=>(.need (.bind (.cond (OO n _)) fun _=>(.bif .rfl .rfl))))) .rfl)) fun _=> .rfl))
def rG(n:Nat)(zt:List ze->Option Bool)(x:ze):Option Bool:=
 zb (Zz ((⟨x.token,x.list⟩:ze),20)) fun y1=>
 zb (zo (!y1) (Zz ((⟨x.token,x.list⟩:ze),22)) (default:Bool)) fun y2=>
 zb (zo (!(bif y1 then true else y2)) (Zz ((⟨x.token,x.list⟩:ze),24)) (default:Bool)) fun y3=>
 zb (zo (!(bif bif y1 then true else y2 then true else y3)) (zt x.list) (default:Bool)) fun y4=>
 some (bif bif bif y1 then true else y2 then true else y3 then true else y4)
theorem E8(n:Nat)(zt decl_closers':List ze->Option Bool)(h_decl_closers: ∀z,Le (zt z) (decl_closers' z))(x:ze):Le (rG n zt x) (Qf decl_closers' x):=by unfold rG Qf;exact(.bind .rfl fun _=>(.bind .rfl fun _=>(.bind .rfl fun _=>(.bind (.cond (h_decl_closers _)) fun _=> .rfl))))
def bH(n:Nat)(zt:List ze->Option Bool)(x:List ze):Option Int:=
 ZK n (fun(s1:Int)=>
   bif decide (s1<(x.length:Int))then
    zb (geti x s1) fun y2=>
    zb (rG n zt (⟨y2.token,y2.list⟩:ze)) fun y3=>
    bif y3 then
     some (LO.ret s1)
    else
     some (LO.again (w64 (s1+1)))
   else
    some (LO.out ()):Int->Option (LO (Int) (Unit) _)) 0 fun o4=>
 some (-1)
theorem zf7(n:Nat)(zt decl_closers':List ze->Option Bool)(h_decl_closers: ∀z,Le (zt z) (decl_closers' z))(x:List ze):Le (bH n zt x) (ZP decl_closers' x):=by unfold bH ZP;exact(.loop (fun _=>(.bif (.bind .rfl fun _=>(.bind (E8 n _ _ h_decl_closers _) fun _=>(.bif .rfl .rfl))) .rfl)) fun _=> .rfl)
def Qy(n:Nat)(zt:List ze->Option Bool)(x:List ze):Option Bool:=
 zb (bH n zt x) fun y1=>
 some (decide (y1>=0))
theorem zet(n:Nat)(zt decl_closers':List ze->Option Bool)(h_decl_closers: ∀z,Le (zt z) (decl_closers' z))(x:List ze):Le (Qy n zt x) (Zp decl_closers' x):=by unfold Qy Zp;exact(.bind (zf7 n _ _ h_decl_closers _) fun _=> .rfl)
def pG(n:Nat)(zt:List ze->Option Bool)(x:List ze):Option Bool:=
 zb (Qy n zt x) fun y1=>
 some y1
def XO(n:Nat):List ze->Option Bool:=Ef (pG n) n
theorem D7(n:Nat)(zt decl_closers':List ze->Option Bool)(h_decl_closers: ∀z,Le (zt z) (decl_closers' z))(x:List ze):Le (pG n zt x) (Jq decl_closers' x):=by unfold pG Jq;exact(.bind (zet n _ _ h_decl_closers _) fun _=> .rfl)
theorem K5(n:Nat)(x:List ze):Le (XO n x) (zt x):=Le.rec (fun S S' h x=>D7 n S S' h x) n x
def QH(n:Nat)(x:List ze):Option Int:=
 ZK n (fun(s1:Int)=>
   bif decide (s1<(x.length:Int))then
    zb (geti x s1) fun y2=>
    zb (gp (⟨y2.token,y2.list⟩:ze)) fun y3=>
    bif y3 then
     some (LO.ret s1)
    else
     some (LO.again (w64 (s1+1)))
   else
    some (LO.out ()):Int->Option (LO (Int) (Unit) _)) 0 fun o4=>
 some (-1)
theorem ze8(n:Nat)(x:List ze):Le (QH n x) (Zy x):=by unfold QH Zy;exact(.loop (fun _=>(.bif (.bind .rfl fun _=>(.bind .rfl fun _=>(.bif .rfl .rfl))) .rfl)) fun _=> .rfl)
def qX(n:Nat)(x:List ze):Option Bool:=
 zb (QH n x) fun y1=>
 some (decide (y1>=0))
theorem zdX(n:Nat)(x:List ze):Le (qX n x) (Za x):=by unfold qX Za;exact(.bind (ze8 n _) fun _=> .rfl)
def Su(n:Nat)(x:zB):Option Int:=
 zb (nE n x.value) fun y1=>
 zb (oF n x.name) fun y2=>
 zb (zo (!(bif !y2 then true else y1.2 != 0)) (Hz n y1.1) (default:Int)) fun y3=>
 zb (zo (!(bif bif !y2 then true else y1.2 != 0 then true else y3 != 0)) (XO n x.value) (default:Bool)) fun y4=>
 bif bif bif bif !y2 then true else y1.2 != 0 then true else y3 != 0 then true else y4 then
  some 8
 else
  zb (qX n x.value) fun y5=>
  bif y5 then
   some 8
  else
   zb (zo ((x.value.length:Int)==0) (strings_HasPrefix (x.name,[45,45])) (default:Bool)) fun y6=>
   zb (zo (decide ((x.value.length:Int)>0)&& !(bif (x.value.length:Int)==0 then !y6 else false)) (geti x.value 0) (default:ze)) fun y7=>
   zb (zo (decide ((x.value.length:Int)>0)&& !(bif (x.value.length:Int)==0 then !y6 else false)) (Zz ((⟨y7.token,y7.list⟩:ze),13)) (default:Bool)) fun y8=>
   zb (zo (!y8&&(decide ((x.value.length:Int)>0)&& !(bif (x.value.length:Int)==0 then !y6 else false))) (geti x.value (w64 ((x.value.length:Int) - 1))) (default:ze)) fun y9=>
   zb (zo (!y8&&(decide ((x.value.length:Int)>0)&& !(bif (x.value.length:Int)==0 then !y6 else false))) (Zz ((⟨y9.token,y9.list⟩:ze),13)) (default:Bool)) fun y10=>
   bif bif bif (x.value.length:Int)==0 then !y6 else false then true else bif decide ((x.value.length:Int)>0)then bif y8 then true else y10 else false then
    some 8
   else
    some 0
theorem XF(n:Nat)(x:zB):Le (Su n x) (QI x):=by unfold Su QI;exact(.bind (bX n _) fun _=>(.bind (XY n _) fun _=>(.bind (.cond (Tz n _)) fun _=>(.bind (.cond (K5 n _)) fun _=>(.bif .rfl (.bind (zdX n _) fun _=>(.bif .rfl (.bind .rfl fun _=>(.bind .rfl fun _=>(.bind .rfl fun _=>(.bind .rfl fun _=>(.bind .rfl fun _=>(.bif .rfl .rfl)))))))))))))
def MG(n:Nat)(Z9:zh×Int->Option ((Int×Bool)×Int))(x:zh×Int):Option ((Int×Bool)×Int):=
 bif decide (w64 (x.2+1)>1500)then
  some ((0,false),w64 (x.2+1))
 else
  bif x.1.kind==7 then
   zb (wE n x.1.decl.value) fun y1=>
   zb (zo (bif bif bif (x.1.list.length:Int)==0 then x.1.name==[]else false then x.1.num==0 else false then y1.2==0 else false) (Su n x.1.decl) (default:Int)) fun y2=>
   some ((w64 (y1.1+1),bif bif bif bif (x.1.list.length:Int)==0 then x.1.name==[]else false then x.1.num==0 else false then y1.2==0 else false then y2==0 else false),w64 (x.2+1))
  else
   bif x.1.kind==8 then
    zb (zo ((x.1.list.length:Int)==0) (ZZ (⟨x.1.kind,x.1.name,x.1.num,x.1.decl,x.1.list⟩:zh)) (default:Bool)) fun y3=>
    some ((1,bif (x.1.list.length:Int)==0 then y3 else false),w64 (x.2+1))
   else
    zF (X:=Bool) (
      bif x.1.kind==3 then
       some (LX.out (x.1.kind==3))
      else
       bif x.1.kind==1 then
        some (LX.out (x.1.kind==1))
       else
        some (LX.out (x.1.kind==2))) fun j4=>
    bif j4 then
     zb (ZZ (⟨x.1.kind,x.1.name,x.1.num,x.1.decl,x.1.list⟩:zh)) fun y5=>
     bif bif bif !y5 then true else bif x.1.kind==3 then(x.1.list.length:Int) != 1 else false then true else bif x.1.kind != 3 then decide ((x.1.list.length:Int)<2)else false then
      some ((0,false),w64 (x.2+1))
     else
      ZK n (fun(s6:(Int×Int)×Int)=>
        bif decide (s6.1.2<(x.1.list.length:Int))then
         zb (geti x.1.list s6.1.2) fun y7=>
         zb (Z9 ((⟨y7.kind,y7.name,y7.num,y7.decl,y7.list⟩:zh),s6.2)) fun y8=>
         bif !y8.1.2 then
          some (LO.ret ((0,false),y8.2))
         else
          zF (X:=Int×Int) (
            zb (Xi (⟨y7.kind,y7.name,y7.num,y7.decl,y7.list⟩:zh)) fun y9=>
            bif !y9 then
             some (LX.out (s6.1.1,w64 (y8.1.1+1)))
            else
             some (LX.out (s6.1.1,y8.1.1))) fun j10=>
          some (LO.again ((if j10.2>j10.1 then j10.2 else j10.1,w64 (s6.1.2+1)),y8.2))
        else
         some (LO.out (s6.1.1,s6.2)):(Int×Int)×Int->Option (LO ((Int×Int)×Int) (Int×Int) _)) ((0,0),w64 (x.2+1)) fun o11=>
      some ((o11.1,true),o11.2)
    else
     some ((0,false),w64 (x.2+1))
def vL(n:Nat):zh×Int->Option ((Int×Bool)×Int):=Ef (MG n) n
theorem jY(n:Nat)(Z9 cond_look':zh×Int->Option ((Int×Bool)×Int))(h_cond_look: ∀z,Le (Z9 z) (cond_look' z))(x:zh×Int):Le (MG n Z9 x) (Yj cond_look' x):=by unfold MG Yj;exact(.bif .rfl (.bif (.bind (VY n _) fun _=>(.bind (.cond (XF n _)) fun _=> .rfl)) (.bif (.bind .rfl fun _=> .rfl) (.join (.bif .rfl (.bif .rfl .rfl)) fun _=>(.bif (.bind .rfl fun _=>(.bif .rfl (.loop (fun _=>(.bif (.bind .rfl fun _=>(.bind (h_cond_look _) fun _=>(.bif .rfl (.join (.bind .rfl fun _=>(.bif .rfl .rfl)) fun _=> .rfl)))) .rfl)) fun _=> .rfl))) .rfl)))))
theorem eX(n:Nat)(x:zh×Int):Le (vL n x) (Z9 x):=Le.rec (fun S S' h x=>jY n S S' h x) n x
def qZ(n:Nat)(x:zh):Option Int:=
 zb (vL n ((⟨x.kind,x.name,x.num,x.decl,x.list⟩:zh),0)) fun y1=>
 bif bif !y1.1.2 then true else decide (y1.1.1>16)then
  some 8
 else
  some 0
theorem JH(n:Nat)(x:zh):Le (qZ n x) (Ze x):=by unfold qZ Ze;exact(.bind (eX n _) fun _=>(.bif .rfl .rfl))
def GQ(n:Nat)(x:List ze):Option (List ze):=need (zQ 0 x.length 80) (some x)
theorem G9(n:Nat)(x):Le (GQ n x) (qQ x):=by
 cases x with
 |nil=> intro y hy;show both (some []) (some [])=some y;unfold both;rw[Na rfl];exact hy
 |cons a r=>exact .rfl
def UF(n:Nat)(qb:List ze->Option (List ze))(x:List ze):Option (List ze):=
 zb (GQ n x) fun y1=>
 ZK n (fun(s2:Int×List ze)=>
   bif decide (s2.1<(y1.length:Int))then
    need (decide (0<=s2.1)&&decide (s2.1<(s2.2.length:Int)))<|
    zb s2.2[s2.1.toNat]? fun y3=>
    zb (qb y3.list) fun y4=>
    need (decide (0<=s2.1)&&decide (s2.1<(s2.2.length:Int)))<|
    zb s2.2[s2.1.toNat]? fun y5=>
    some (LO.again (w64 (s2.1+1),List.set s2.2 s2.1.toNat (⟨y5.token,y4⟩:ze)))
   else
    some (LO.out s2.2):Int×List ze->Option (LO (Int×List ze) (List ze) _)) (0,y1) fun o6=>
 some o6
def ry(n:Nat):List ze->Option (List ze):=Ef (UF n) n
theorem gY(n:Nat)(qb nest_twin':List ze->Option (List ze))(h_nest_twin: ∀z,Le (qb z) (nest_twin' z))(x:List ze):Le (UF n qb x) (Ep nest_twin' x):=by unfold UF Ep;exact(.bind (G9 n _) fun _=>(.loop (fun _=>(.bif (.need (.bind .rfl fun _=>(.bind (h_nest_twin _) fun _=>(.need (.bind .rfl fun _=> .rfl))))) .rfl)) fun _=> .rfl))
theorem xE(n:Nat)(x:List ze):Le (ry n x) (qb x):=Le.rec (fun S S' h x=>gY n S S' h x) n x
def uy(n:Nat)(x:List ze):Option (List ze×Int):=
 zb (QU n x) fun y1=>
 bif y1 != 0 then
  some ([],y1)
 else
  ZK n (fun(s2:Int)=>
    zb (zo (decide (s2<(x.length:Int))) (Vj (s2,x)) (default:Bool)) fun y3=>
    bif bif decide (s2<(x.length:Int))then y3 else false then
     some (LO.again (w64 (s2+1)))
    else
     some (LO.out s2):Int->Option (LO (Int) (Int) _)) 0 fun o4=>
  ZK n (fun(s5:Int)=>
    zb (zo (decide (o4<s5)) (Vj (w64 (s5 - 1),x)) (default:Bool)) fun y6=>
    bif bif decide (o4<s5)then y6 else false then
     some (LO.again (w64 (s5 - 1)))
    else
     some (LO.out s5):Int->Option (LO (Int) (Int) _)) (x.length:Int) fun o7=>
  need (decide (0<=o4)&&(decide (o4<=o7)&&(decide (o7<=o7)&&decide (o7<=(x.length:Int))))&&decide (o7=o7))<|
  zb (ry n (List.drop o4.toNat (List.take o7.toNat x))) fun y8=>
  some (y8,0)
theorem UM(n:Nat)(x:List ze):Le (uy n x) (lg x):=by unfold uy lg;exact(.bind (Gm n _) fun _=>(.bif .rfl (.loop (fun _=>(.bind .rfl fun _=>(.bif .rfl .rfl))) fun _=>(.loop (fun _=>(.bind .rfl fun _=>(.bif .rfl .rfl))) fun _=>(.need (.bind (xE n _) fun _=> .rfl))))))
def bG(n:Nat)(Zx:zh->Option (List zB))(x:zh):Option (List zB):=
 bif x.kind==7 then
  zb (uy n x.decl.value) fun y1=>
  some [(⟨x.decl.name,y1.1,x.decl.important⟩:zB)]
 else
  ZK n (fun(s2:Int×List zB)=>
    bif decide (s2.1<(x.list.length:Int))then
     zb (geti x.list s2.1) fun y3=>
     zb (Zx (⟨y3.kind,y3.name,y3.num,y3.decl,y3.list⟩:zh)) fun y4=>
     need (zQ s2.2.length y4.length 48)<|
     some (LO.again (w64 (s2.1+1),s2.2++y4))
    else
     some (LO.out s2.2):Int×List zB->Option (LO (Int×List zB) (List zB) _)) (0,[]) fun o5=>
  some o5
def Jz(n:Nat):zh->Option (List zB):=Ef (bG n) n
theorem U2(n:Nat)(Zx cond_decls':zh->Option (List zB))(h_cond_decls: ∀z,Le (Zx z) (cond_decls' z))(x:zh):Le (bG n Zx x) (Aq cond_decls' x):=by unfold bG Aq;exact(.bif (.bind (UM n _) fun _=> .rfl) (.loop (fun _=>(.bif (.bind .rfl fun _=>(.bind (h_cond_decls _) fun _=>(.need .rfl))) .rfl)) fun _=> .rfl))
theorem YF(n:Nat)(x:zh):Le (Jz n x) (Zx x):=Le.rec (fun S S' h x=>U2 n S S' h x) n x
def fF(n:Nat)(x:zh):Option (List zB×Int):=
 zb (qZ n (⟨x.kind,x.name,x.num,x.decl,x.list⟩:zh)) fun y1=>
 bif y1 != 0 then
  some ([],y1)
 else
  zb (Jz n (⟨x.kind,x.name,x.num,x.decl,x.list⟩:zh)) fun y2=>
  some (y2,0)
theorem eY(n:Nat)(x:zh):Le (fF n x) (Tt x):=by unfold fF Tt;exact(.bind (JH n _) fun _=>(.bif .rfl (.bind (YF n _) fun _=> .rfl)))
def Pz(n:Nat)(x:Str):Option Str:=
 need (decide (x.length<=maxLen))<|
 ZK n (fun(s1:Int×List UInt8)=>
   bif decide (s1.1<(s1.2.length:Int))then
    need (decide (0<=s1.1)&&decide (s1.1<(s1.2.length:Int)))<|
    zb s1.2[s1.1.toNat]? fun y2=>
    zb (Ci (y2.toNat:Int)) fun y3=>
    need (decide (0<=s1.1)&&decide (s1.1<(s1.2.length:Int)))<|
    zb s1.2[s1.1.toNat]? fun y4=>
    zb (ZT y3) fun y5=>
    some (LO.again (w64 (s1.1+1),List.set s1.2 s1.1.toNat y5))
   else
    some (LO.out s1.2):Int×List UInt8->Option (LO (Int×List UInt8) (List UInt8) _)) (0,x) fun o6=>
 some o6
theorem FP(n:Nat)(x:Str):Le (Pz n x) (Qw x):=by unfold Pz Qw;exact(.need (.loop (fun _=>(.bif (.need (.bind .rfl fun _=>(.bind .rfl fun _=>(.need (.bind .rfl fun _=>(.bind .rfl fun _=> .rfl)))))) .rfl)) fun _=> .rfl))
def Oq(n:Nat)(x:Str×Int):Option Int:=
 ZK n (fun(s1:Int)=>
   zb (zT (x.1,s1)) fun y2=>
   zb (qz y2) fun y3=>
   bif y3 then
    some (LO.again (w64 (s1+1)))
   else
    some (LO.out s1):Int->Option (LO (Int) (Int) _)) x.2 fun o4=>
 some o4
theorem LA(n:Nat)(x:Str×Int):Le (Oq n x) (Qh x):=by unfold Oq Qh;exact(.loop (fun _=>(.bind .rfl fun _=>(.bind .rfl fun _=>(.bif .rfl .rfl)))) fun _=> .rfl)
def Iq(n:Nat)(x:Str×Int):Option (Str×Int):=
 bif decide (w64 (x.2+1)>=(x.1.length:Int))then
  zb (oo ()) fun y1=>
  some (y1,w64 (x.2+1))
 else
  zb (geti x.1 (w64 (x.2+1))) fun y2=>
  zb (Rj (y2.toNat:Int)) fun y3=>
  bif decide (y3<0)then
   need (decide (0<=w64 (x.2+1))&&(decide (w64 (x.2+1)<=w64 (w64 (x.2+1)+1))&&decide (w64 (w64 (x.2+1)+1)<=(x.1.length:Int))))<|
   some (List.drop (w64 (x.2+1)).toNat (List.take (w64 (w64 (x.2+1)+1)).toNat x.1),w64 (w64 (x.2+1)+1))
  else
   ZK n (fun(s4:Int×Int)=>
     zb (zo (bif decide (s4.2<(x.1.length:Int))then decide (s4.2<w64 (w64 (x.2+1)+6))else false) (geti x.1 s4.2) 0) fun y5=>
     zb (zo (bif decide (s4.2<(x.1.length:Int))then decide (s4.2<w64 (w64 (x.2+1)+6))else false) (Rj (y5.toNat:Int)) (default:Int)) fun y6=>
     bif bif bif decide (s4.2<(x.1.length:Int))then decide (s4.2<w64 (w64 (x.2+1)+6))else false then decide (y6>=0)else false then
      zb (geti x.1 s4.2) fun y7=>
      zb (Rj (y7.toNat:Int)) fun y8=>
      some (LO.again (w64 (w64 (16*s4.1)+y8),w64 (s4.2+1)))
     else
      some (LO.out (s4.1,s4.2)):Int×Int->Option (LO (Int×Int) (Int×Int) _)) (0,w64 (x.2+1)) fun o9=>
   zF (X:=Int) (
     zb (zT (x.1,o9.2)) fun y10=>
     zb (qz y10) fun y11=>
     bif y11 then
      some (LX.out (w64 (o9.2+1)))
     else
      some (LX.out o9.2)) fun j12=>
   zb (Xy o9.1) fun y13=>
   some (y13,j12)
theorem EA(n:Nat)(x:Str×Int):Le (Iq n x) (qd x):=by unfold Iq qd;exact(.bif (.bind .rfl fun _=> .rfl) (.bind .rfl fun _=>(.bind .rfl fun _=>(.bif (.need .rfl) (.loop (fun _=>(.bind .rfl fun _=>(.bind .rfl fun _=>(.bif (.bind .rfl fun _=>(.bind .rfl fun _=> .rfl)) .rfl)))) fun _=>(.join (.bind .rfl fun _=>(.bind .rfl fun _=>(.bif .rfl .rfl))) fun _=>(.bind .rfl fun _=> .rfl)))))))
def rF(n:Nat)(x:Str×Int):Option (zf×Int):=
 zb (geti x.1 x.2) fun y1=>
 ZK n (fun(s2:Int×zf×zf)=>
   bif decide (s2.1<(x.1.length:Int))then
    zb (geti x.1 s2.1) fun y3=>
    bif (y3.toNat:Int)==(y1.toNat:Int)then
     some (LO.ret (s2.2.2,w64 (s2.1+1)))
    else
     zb (geti x.1 s2.1) fun y4=>
     bif (y4.toNat:Int)==10 then
      some (LO.ret ((⟨6,[],0,[],false⟩:zf),s2.1))
     else
      zb (geti x.1 s2.1) fun y5=>
      bif bif (y5.toNat:Int)==92 then w64 (s2.1+1)==(x.1.length:Int)else false then
       some (LO.again (w64 (s2.1+1),s2.2.1,s2.2.2))
      else
       zb (geti x.1 s2.1) fun y6=>
       zb (zo ((y6.toNat:Int)==92) (geti x.1 (w64 (s2.1+1))) 0) fun y7=>
       bif bif (y6.toNat:Int)==92 then(y7.toNat:Int)==10 else false then
        some (LO.again (w64 (s2.1+2),s2.2.1,s2.2.2))
       else
        zb (geti x.1 s2.1) fun y8=>
        bif (y8.toNat:Int)==92 then
         zb (Iq n (x.1,s2.1)) fun y9=>
         need (Qa s2.2.2.text.length y9.1.length)<|
         some (LO.again (y9.2,s2.2.1,(⟨s2.2.2.kind,s2.2.2.text++y9.1,s2.2.2.num,s2.2.2.unit,s2.2.2.flag⟩:zf)))
        else
         need (decide (0<=s2.1)&&(decide (s2.1<=w64 (s2.1+1))&&decide (w64 (s2.1+1)<=(x.1.length:Int))))<|
         need (Qa s2.2.2.text.length (List.drop s2.1.toNat (List.take (w64 (s2.1+1)).toNat x.1)).length)<|
         some (LO.again (w64 (s2.1+1),s2.2.1,(⟨s2.2.2.kind,s2.2.2.text++List.drop s2.1.toNat (List.take (w64 (s2.1+1)).toNat x.1),s2.2.2.num,s2.2.2.unit,s2.2.2.flag⟩:zf)))
   else
    some (LO.out (s2.1,s2.2.1,s2.2.2)):Int×zf×zf->Option (LO (Int×zf×zf) (Int×zf×zf) _)) (w64 (x.2+1),(⟨0,[],0,[],false⟩:zf),(⟨5,[],0,[],false⟩:zf)) fun o10=>
 some (o10.2.2,o10.1)
theorem J5(n:Nat)(x:Str×Int):Le (rF n x) (eu x):=by unfold rF eu;exact(.bind .rfl fun _=>(.loop (fun _=>(.bif (.bind .rfl fun _=>(.bif .rfl (.bind .rfl fun _=>(.bif .rfl (.bind .rfl fun _=>(.bif .rfl (.bind .rfl fun _=>(.bind .rfl fun _=>(.bif .rfl (.bind .rfl fun _=>(.bif (.bind (EA n _) fun _=>(.need .rfl)) (.need (.need .rfl))))))))))))) .rfl)) fun _=> .rfl))
def Bq(n:Nat)(x:Str×Int):Option (Str×Int):=
 ZK n (fun(s1:Int×Str)=>
   zb (zo (decide (s1.1<(x.1.length:Int))) (geti x.1 s1.1) 0) fun y2=>
   zb (zo (decide (s1.1<(x.1.length:Int))) (Yl (y2.toNat:Int)) (default:Bool)) fun y3=>
   bif bif decide (s1.1<(x.1.length:Int))then y3 else false then
    need (decide (0<=s1.1)&&(decide (s1.1<=w64 (s1.1+1))&&decide (w64 (s1.1+1)<=(x.1.length:Int))))<|
    need (Qa s1.2.length (List.drop s1.1.toNat (List.take (w64 (s1.1+1)).toNat x.1)).length)<|
    some (LO.again (w64 (s1.1+1),s1.2++List.drop s1.1.toNat (List.take (w64 (s1.1+1)).toNat x.1)))
   else
    zb (zo (decide (s1.1<(x.1.length:Int))) (Zt (x.1,s1.1)) (default:Bool)) fun y4=>
    bif bif decide (s1.1<(x.1.length:Int))then y4 else false then
     zb (Iq n (x.1,s1.1)) fun y5=>
     need (Qa s1.2.length y5.1.length)<|
     some (LO.again (y5.2,s1.2++y5.1))
    else
     some (LO.ret (s1.2,s1.1)):Int×Str->Option (LO (Int×Str) (Unit) _)) (x.2,[]) fun o6=>
 none
theorem xz(n:Nat)(x:Str×Int):Le (Bq n x) (Bi x):=by unfold Bq Bi;exact(.loop (fun _=>(.bind .rfl fun _=>(.bind .rfl fun _=>(.bif (.need (.need .rfl)) (.bind .rfl fun _=>(.bif (.bind (EA n _) fun _=>(.need .rfl)) .rfl)))))) fun _=> .none)
def fu(n:Nat)(x:Str×Int):Option Int:=
 ZK n (fun(s1:Int)=>
   zb (zT (x.1,s1)) fun y2=>
   zb (zZ y2) fun y3=>
   bif y3 then
    some (LO.again (w64 (s1+1)))
   else
    some (LO.out s1):Int->Option (LO (Int) (Int) _)) x.2 fun o4=>
 some o4
theorem iG(n:Nat)(x:Str×Int):Le (fu n x) (Xl x):=by unfold fu Xl;exact(.loop (fun _=>(.bind .rfl fun _=>(.bind .rfl fun _=>(.bif .rfl .rfl)))) fun _=> .rfl)
def jG(n:Nat)(x:Str×Int):Option (Int×Bool):=
 zF (X:=Int) (
   zb (zT (x.1,x.2)) fun y1=>
   bif bif y1==43 then true else y1==45 then
    some (LX.out (w64 (x.2+1)))
   else
    some (LX.out x.2)) fun j2=>
 zb (fu n (x.1,j2)) fun y3=>
 zF (X:=Int×Bool) (
   zb (zT (x.1,y3)) fun y4=>
   zb (zo (y4==46) (zT (x.1,w64 (y3+1))) (default:Int)) fun y5=>
   zb (zo (y4==46) (zZ y5) (default:Bool)) fun y6=>
   bif bif y4==46 then y6 else false then
    zb (fu n (x.1,w64 (y3+1))) fun y7=>
    some (LX.out (y7,false))
   else
    some (LX.out (y3,true))) fun j8=>
 zF (X:=Int×Bool) (
   zb (zT (x.1,j8.1)) fun y9=>
   bif bif y9==101 then true else y9==69 then
    zF (X:=Int×Bool×Int) (
      zb (zT (x.1,w64 (j8.1+1))) fun y10=>
      bif bif y10==43 then true else y10==45 then
       some (LX.out (j8.1,j8.2,w64 (w64 (j8.1+1)+1)))
      else
       some (LX.out (j8.1,j8.2,w64 (j8.1+1)))) fun j11=>
    zb (zT (x.1,j11.2.2)) fun y12=>
    zb (zZ y12) fun y13=>
    bif y13 then
     zb (fu n (x.1,j11.2.2)) fun y14=>
     some (LX.out (y14,false))
    else
     some (LX.out (j11.1,j11.2.1))
   else
    some (LX.out (j8.1,j8.2))) fun j15=>
 some (j15.1,j15.2)
theorem P8(n:Nat)(x:Str×Int):Le (jG n x) (Cv x):=by unfold jG Cv;exact(.join (.bind .rfl fun _=>(.bif .rfl .rfl)) fun _=>(.bind (iG n _) fun _=>(.join (.bind .rfl fun _=>(.bind .rfl fun _=>(.bind .rfl fun _=>(.bif (.bind (iG n _) fun _=> .rfl) .rfl)))) fun _=>(.join (.bind .rfl fun _=>(.bif (.join (.bind .rfl fun _=>(.bif .rfl .rfl)) fun _=>(.bind .rfl fun _=>(.bind .rfl fun _=>(.bif (.bind (iG n _) fun _=> .rfl) .rfl)))) .rfl)) fun _=> .rfl))))
def wG(n:Nat)(x:Str):Option Int:=
 zb (geti x 0) fun y1=>
 zF (X:=Str×Int×Int) (
   zb (geti x 0) fun y2=>
   bif bif (y2.toNat:Int)==43 then true else(y1.toNat:Int)==45 then
    some (LX.out ([],3,1))
   else
    some (LX.out ([],3,0))) fun j3=>
 ZK n (fun(s4:Str×Int)=>
   zb (zT (x,s4.2)) fun y5=>
   zb (zZ y5) fun y6=>
   bif y6 then
    need (decide (0<=s4.2)&&(decide (s4.2<=w64 (s4.2+1))&&decide (w64 (s4.2+1)<=(x.length:Int))))<|
    need (Qa s4.1.length (List.drop s4.2.toNat (List.take (w64 (s4.2+1)).toNat x)).length)<|
    some (LO.again (s4.1++List.drop s4.2.toNat (List.take (w64 (s4.2+1)).toNat x),w64 (s4.2+1)))
   else
    some (LO.out (s4.1,s4.2)):Str×Int->Option (LO (Str×Int) (Str×Int) _)) (j3.1,j3.2.2) fun o7=>
 zF (X:=Str×Int×Int) (
   zb (zT (x,o7.2)) fun y8=>
   bif y8==46 then
    ZK n (fun(s9:Str×Int×Int)=>
      zb (zT (x,s9.2.2)) fun y10=>
      zb (zZ y10) fun y11=>
      bif y11 then
       need (decide (0<=s9.2.2)&&(decide (s9.2.2<=w64 (s9.2.2+1))&&decide (w64 (s9.2.2+1)<=(x.length:Int))))<|
       need (Qa s9.1.length (List.drop s9.2.2.toNat (List.take (w64 (s9.2.2+1)).toNat x)).length)<|
       some (LO.again (s9.1++List.drop s9.2.2.toNat (List.take (w64 (s9.2.2+1)).toNat x),w64 (s9.2.1 - 1),w64 (s9.2.2+1)))
      else
       some (LO.out (s9.1,s9.2.1,s9.2.2)):Str×Int×Int->Option (LO (Str×Int×Int) (Str×Int×Int) _)) (o7.1,j3.2.1,w64 (o7.2+1)) fun o12=>
    some (LX.out (o12.1,o12.2.1,o12.2.2))
   else
    some (LX.out (o7.1,j3.2.1,o7.2))) fun j13=>
 zF (X:=Int) (
   bif decide (j13.2.2<(x.length:Int))then
    zb (geti x (w64 (j13.2.2+1))) fun y14=>
    zF (X:=Int×Int) (
      zb (geti x (w64 (j13.2.2+1))) fun y15=>
      bif bif (y15.toNat:Int)==43 then true else(y14.toNat:Int)==45 then
       some (LX.out (j13.2.1,w64 (w64 (j13.2.2+1)+1)))
      else
       some (LX.out (j13.2.1,w64 (j13.2.2+1)))) fun j16=>
    ZK n (fun(s17:Int×Int)=>
      bif decide (s17.1<(x.length:Int))then
       zb (geti x s17.1) fun y18=>
       some (LO.again (w64 (s17.1+1),if w64 (w64 (10*s17.2)+w64 (wu8 ((y18.toNat:Int) - 48)))<10000 then w64 (w64 (10*s17.2)+w64 (wu8 ((y18.toNat:Int) - 48)))else 10000))
      else
       some (LO.out s17.2):Int×Int->Option (LO (Int×Int) (Int) _)) (j16.2,0) fun o19=>
    zF (X:=Int×Int) (
      bif (y14.toNat:Int)==45 then
       some (LX.out (j16.1,w64 (0 - o19)))
      else
       some (LX.out (j16.1,o19))) fun j20=>
    some (LX.out (w64 (j20.1+j20.2)))
   else
    some (LX.out j13.2.1)) fun j21=>
 ZK n (fun(s22:Int×Int)=>
   bif bif decide (s22.2<w64 ((j13.1.length:Int)+j21))then decide (s22.2<(j13.1.length:Int))else false then
    zb (geti j13.1 s22.2) fun y23=>
    some (LO.again (if w64 (w64 (10*s22.1)+w64 (wu8 ((y23.toNat:Int) - 48)))<1000000000000 then w64 (w64 (10*s22.1)+w64 (wu8 ((y23.toNat:Int) - 48)))else 1000000000000,w64 (s22.2+1)))
   else
    some (LO.out s22.1):Int×Int->Option (LO (Int×Int) (Int) _)) (0,0) fun o24=>
 ZK n (fun(s25:Int×Int)=>
   bif bif bif decide (s25.1>0)then decide (s25.2>0)else false then decide (s25.2<1000000000000)else false then
    some (LO.again (w64 (s25.1 - 1),if w64 (10*s25.2)<1000000000000 then w64 (10*s25.2)else 1000000000000))
   else
    some (LO.out s25.2):Int×Int->Option (LO (Int×Int) (Int) _)) (j21,o24) fun o26=>
 bif (y1.toNat:Int)==45 then
  some (w64 (0 - o26))
 else
  some o26
theorem P9(n:Nat)(x:Str):Le (wG n x) (Mv x):=by unfold wG Mv;exact(.bind .rfl fun _=>(.join (.bind .rfl fun _=>(.bif .rfl .rfl)) fun _=>(.loop (fun _=>(.bind .rfl fun _=>(.bind .rfl fun _=>(.bif (.need (.need .rfl)) .rfl)))) fun _=>(.join (.bind .rfl fun _=>(.bif (.loop (fun _=>(.bind .rfl fun _=>(.bind .rfl fun _=>(.bif (.need (.need .rfl)) .rfl)))) fun _=> .rfl) .rfl)) fun _=>(.join (.bif (.bind .rfl fun _=>(.join (.bind .rfl fun _=>(.bif .rfl .rfl)) fun _=>(.loop (fun _=>(.bif (.bind .rfl fun _=> .rfl) .rfl)) fun _=>(.join (.bif .rfl .rfl) fun _=> .rfl)))) .rfl) fun _=>(.loop (fun _=>(.bif (.bind .rfl fun _=> .rfl) .rfl)) fun _=>(.loop (fun _=>(.bif .rfl .rfl)) fun _=>(.bif .rfl .rfl))))))))
def NG(n:Nat)(x:Str×Int):Option (zf×Int):=
 zb (jG n (x.1,x.2)) fun y1=>
 need (decide (0<=x.2)&&(decide (x.2<=y1.1)&&decide (y1.1<=(x.1.length:Int))))<|
 zb (wG n (List.drop x.2.toNat (List.take y1.1.toNat x.1))) fun y2=>
 zF (X:=Int×zf×zf) (
   zb (qH (x.1,y1.1)) fun y3=>
   bif y3 then
    zb (Bq n (x.1,y1.1)) fun y4=>
    some (LX.out (y4.2,(⟨0,[],0,[],false⟩:zf),(⟨12,[],y2,y4.1,y1.2⟩:zf)))
   else
    zb (zT (x.1,y1.1)) fun y5=>
    bif y5==37 then
     some (LX.out (w64 (y1.1+1),(⟨0,[],0,[],false⟩:zf),(⟨11,[],y2,[],false⟩:zf)))
    else
     some (LX.out (y1.1,(⟨0,[],0,[],false⟩:zf),(⟨10,[],y2,[],y1.2⟩:zf)))) fun j6=>
 some (j6.2.2,j6.1)
theorem R7(n:Nat)(x:Str×Int):Le (NG n x) (Av x):=by unfold NG Av;exact(.bind (P8 n _) fun _=>(.need (.bind (P9 n _) fun _=>(.join (.bind .rfl fun _=>(.bif (.bind (xz n _) fun _=> .rfl) (.bind .rfl fun _=>(.bif .rfl .rfl)))) fun _=> .rfl))))
def LF(n:Nat)(x:Str×Str):Option Bool:=
 zb (Pz n x.1) fun y1=>
 zb (Pz n x.2) fun y2=>
 some (y1==y2)
theorem M0(n:Nat)(x:Str×Str):Le (LF n x) (Qv x):=by unfold LF Qv;exact(.bind (FP n _) fun _=>(.bind (FP n _) fun _=> .rfl))
def ny(n:Nat)(x:Str×Int):Option (zf×Int):=
 ZK n (fun(s1:Int)=>
   zb (zo (decide (s1<(x.1.length:Int))) (geti x.1 s1) 0) fun y2=>
   bif bif decide (s1<(x.1.length:Int))then(y2.toNat:Int) != 41 else false then
    zb (Zt (x.1,s1)) fun y3=>
    bif y3 then
     zb (Iq n (x.1,s1)) fun y4=>
     some (LO.again y4.2)
    else
     some (LO.again (w64 (s1+1)))
   else
    some (LO.out s1):Int->Option (LO (Int) (Int) _)) x.2 fun o5=>
 some ((⟨8,[],0,[],false⟩:zf),if w64 (o5+1)<(x.1.length:Int)then w64 (o5+1)else(x.1.length:Int))
theorem MN(n:Nat)(x:Str×Int):Le (ny n x) (Yo x):=by unfold ny Yo;exact(.loop (fun _=>(.bind .rfl fun _=>(.bif (.bind .rfl fun _=>(.bif (.bind (EA n _) fun _=> .rfl) .rfl)) .rfl))) fun _=> .rfl)
def ME(n:Nat)(x:Str×Int):Option (zf×Int):=
 zb (Oq n (x.1,x.2)) fun y1=>
 ZK n (fun(s2:Int×zf×zf)=>
   zb (zo (decide (s2.1<(x.1.length:Int))) (geti x.1 s2.1) 0) fun y3=>
   bif bif decide (s2.1<(x.1.length:Int))then(y3.toNat:Int) != 41 else false then
    zb (geti x.1 s2.1) fun y4=>
    zb (qz (y4.toNat:Int)) fun y5=>
    bif y5 then
     zb (Oq n (x.1,s2.1)) fun y6=>
     zb (zo (decide (y6<(x.1.length:Int))) (geti x.1 y6) 0) fun y7=>
     bif bif decide (y6<(x.1.length:Int))then(y7.toNat:Int) != 41 else false then
      zb (ny n (x.1,y6)) fun y8=>
      some (LO.ret (y8.1,y8.2))
     else
      some (LO.again (y6,s2.2.1,s2.2.2))
    else
     zb (zo (!(bif bif (y4.toNat:Int)==34 then true else(y4.toNat:Int)==39 then true else(y4.toNat:Int)==40)) (OA (y4.toNat:Int)) (default:Bool)) fun y9=>
     zb (zo ((y4.toNat:Int)==92&& !(bif bif bif (y4.toNat:Int)==34 then true else(y4.toNat:Int)==39 then true else(y4.toNat:Int)==40 then true else y9)) (Zt (x.1,s2.1)) (default:Bool)) fun y10=>
     bif bif bif bif bif (y4.toNat:Int)==34 then true else(y4.toNat:Int)==39 then true else(y4.toNat:Int)==40 then true else y9 then true else bif (y4.toNat:Int)==92 then !y10 else false then
      zb (ny n (x.1,s2.1)) fun y11=>
      some (LO.ret (y11.1,y11.2))
     else
      bif (y4.toNat:Int)==92 then
       zb (Iq n (x.1,s2.1)) fun y12=>
       need (Qa s2.2.2.text.length y12.1.length)<|
       some (LO.again (y12.2,s2.2.1,(⟨s2.2.2.kind,s2.2.2.text++y12.1,s2.2.2.num,s2.2.2.unit,s2.2.2.flag⟩:zf)))
      else
       need (decide (0<=s2.1)&&(decide (s2.1<=w64 (s2.1+1))&&decide (w64 (s2.1+1)<=(x.1.length:Int))))<|
       need (Qa s2.2.2.text.length (List.drop s2.1.toNat (List.take (w64 (s2.1+1)).toNat x.1)).length)<|
       some (LO.again (w64 (s2.1+1),s2.2.1,(⟨s2.2.2.kind,s2.2.2.text++List.drop s2.1.toNat (List.take (w64 (s2.1+1)).toNat x.1),s2.2.2.num,s2.2.2.unit,s2.2.2.flag⟩:zf)))
   else
    some (LO.out (s2.1,s2.2.1,s2.2.2)):Int×zf×zf->Option (LO (Int×zf×zf) (Int×zf×zf) _)) (y1,(⟨0,[],0,[],false⟩:zf),(⟨7,[],0,[],false⟩:zf)) fun o13=>
 some (o13.2.2,if w64 (o13.1+1)<(x.1.length:Int)then w64 (o13.1+1)else(x.1.length:Int))
theorem XX(n:Nat)(x:Str×Int):Le (ME n x) (Bt x):=by unfold ME Bt;exact(.bind (LA n _) fun _=>(.loop (fun _=>(.bind .rfl fun _=>(.bif (.bind .rfl fun _=>(.bind .rfl fun _=>(.bif (.bind (LA n _) fun _=>(.bind .rfl fun _=>(.bif (.bind (MN n _) fun _=> .rfl) .rfl))) (.bind .rfl fun _=>(.bind .rfl fun _=>(.bif (.bind (MN n _) fun _=> .rfl) (.bif (.bind (EA n _) fun _=>(.need .rfl)) (.need (.need .rfl))))))))) .rfl))) fun _=> .rfl))
def CF(n:Nat)(x:Str×Int):Option (zf×Int):=
 zb (Bq n (x.1,x.2)) fun y1=>
 zb (zT (x.1,y1.2)) fun y2=>
 bif y2 != 40 then
  some ((⟨1,y1.1,0,[],false⟩:zf),y1.2)
 else
  zF (X:=zf) (
    zb (LF n (y1.1,[117,114,108])) fun y3=>
    bif y3 then
     zb (Oq n (x.1,w64 (y1.2+1))) fun y4=>
     zb (zT (x.1,y4)) fun y5=>
     bif bif y5 != 34 then y5 != 39 else false then
      zb (ME n (x.1,w64 (y1.2+1))) fun y6=>
      some (LX.ret (y6.1,y6.2))
     else
      some (LX.out (⟨0,[],0,[],false⟩:zf))
    else
     some (LX.out (⟨0,[],0,[],false⟩:zf))) fun j7=>
  some ((⟨2,y1.1,0,[],false⟩:zf),w64 (y1.2+1))
theorem TY(n:Nat)(x:Str×Int):Le (CF n x) (Yt x):=by unfold CF Yt;exact(.bind (xz n _) fun _=>(.bind .rfl fun _=>(.bif .rfl (.join (.bind (M0 n _) fun _=>(.bif (.bind (LA n _) fun _=>(.bind .rfl fun _=>(.bif (.bind (XX n _) fun _=> .rfl) .rfl))) .rfl)) fun _=> .rfl))))
def NE(n:Nat)(x:Str×Int):Option (zf×Int):=
 zb (geti x.1 x.2) fun y1=>
 zb (qz (y1.toNat:Int)) fun y2=>
 bif y2 then
  zb (Oq n (x.1,x.2)) fun y3=>
  some ((⟨13,[],0,[],false⟩:zf),y3)
 else
  bif bif (y1.toNat:Int)==34 then true else(y1.toNat:Int)==39 then
   zb (rF n (x.1,x.2)) fun y4=>
   some (y4.1,y4.2)
  else
   zb (zo (decide (w64 (x.2+1)<(x.1.length:Int))&&(y1.toNat:Int)==35) (geti x.1 (w64 (x.2+1))) 0) fun y5=>
   zb (zo (decide (w64 (x.2+1)<(x.1.length:Int))&&(y1.toNat:Int)==35) (Yl (y5.toNat:Int)) (default:Bool)) fun y6=>
   zb (zo (!(bif decide (w64 (x.2+1)<(x.1.length:Int))then y6 else false)&&(y1.toNat:Int)==35) (Zt (x.1,w64 (x.2+1))) (default:Bool)) fun y7=>
   bif bif (y1.toNat:Int)==35 then bif bif decide (w64 (x.2+1)<(x.1.length:Int))then y6 else false then true else y7 else false then
    zb (Bq n (x.1,w64 (x.2+1))) fun y8=>
    zb (qH (x.1,w64 (x.2+1))) fun y9=>
    some ((⟨4,y8.1,0,[],y9⟩:zf),y8.2)
   else
    zb (vz (x.1,x.2)) fun y10=>
    bif y10 then
     zb (NG n (x.1,x.2)) fun y11=>
     some (y11.1,y11.2)
    else
     zb (Xo (x.1,x.2,[45,45,62])) fun y12=>
     bif y12 then
      some ((⟨15,[],0,[],false⟩:zf),w64 (x.2+3))
     else
      zb (Xo (x.1,x.2,[60,33,45,45])) fun y13=>
      bif y13 then
       some ((⟨14,[],0,[],false⟩:zf),w64 (x.2+4))
      else
       zb (zo ((y1.toNat:Int)==64) (qH (x.1,w64 (x.2+1))) (default:Bool)) fun y14=>
       bif bif (y1.toNat:Int)==64 then y14 else false then
        zb (Bq n (x.1,w64 (x.2+1))) fun y15=>
        some ((⟨3,y15.1,0,[],false⟩:zf),y15.2)
       else
        zb (qH (x.1,x.2)) fun y16=>
        bif y16 then
         zb (CF n (x.1,x.2)) fun y17=>
         some (y17.1,y17.2)
        else
         zb (mo (y1.toNat:Int)) fun y18=>
         bif y18 != 0 then
          zb (mo (y1.toNat:Int)) fun y19=>
          some ((⟨y19,[],0,[],false⟩:zf),w64 (x.2+1))
         else
          need (decide (0<=x.2)&&(decide (x.2<=w64 (x.2+1))&&decide (w64 (x.2+1)<=(x.1.length:Int))))<|
          some ((⟨9,List.drop x.2.toNat (List.take (w64 (x.2+1)).toNat x.1),0,[],false⟩:zf),w64 (x.2+1))
theorem YX(n:Nat)(x:Str×Int):Le (NE n x) (Dt x):=by unfold NE Dt;exact(.bind .rfl fun _=>(.bind .rfl fun _=>(.bif (.bind (LA n _) fun _=> .rfl) (.bif (.bind (J5 n _) fun _=> .rfl) (.bind .rfl fun _=>(.bind .rfl fun _=>(.bind .rfl fun _=>(.bif (.bind (xz n _) fun _=>(.bind .rfl fun _=> .rfl)) (.bind .rfl fun _=>(.bif (.bind (R7 n _) fun _=> .rfl) (.bind .rfl fun _=>(.bif .rfl (.bind .rfl fun _=>(.bif .rfl (.bind .rfl fun _=>(.bif (.bind (xz n _) fun _=> .rfl) (.bind .rfl fun _=>(.bif (.bind (TY n _) fun _=> .rfl) (.bind .rfl fun _=>(.bif (.bind .rfl fun _=> .rfl) (.need .rfl)))))))))))))))))))))
def KF(n:Nat)(x:Int):Option Bool:=
 zb (ZT x) fun y1=>
 zb (NE n ([y1,(10:UInt8)],0)) fun y2=>
 some (bif bif bif bif decide (x>=1)then decide (x<=127)else false then x != 12 else false then x != 13 else false then y2.1.kind==9 else false)
theorem yZ(n:Nat)(x:Int):Le (KF n x) (Qx x):=by unfold KF Qx;exact(.bind .rfl fun _=>(.bind (YX n _) fun _=> .rfl))
def LH(n:Nat)(x:List Str×Str):Option Int:=
 ZK n (fun(s1:Int)=>
   bif decide (s1<(x.1.length:Int))then
    zb (geti x.1 s1) fun y2=>
    bif x.2==y2 then
     some (LO.ret s1)
    else
     some (LO.again (w64 (s1+1)))
   else
    some (LO.out ()):Int->Option (LO (Int) (Unit) _)) 0 fun o3=>
 some (-1)
theorem w9(n:Nat)(x:List Str×Str):Le (LH n x) (slices_Index_string x):=by unfold LH slices_Index_string;exact(.loop (fun _=>(.bif (.bind .rfl fun _=>(.bif .rfl .rfl)) .rfl)) fun _=> .rfl)
def dH(n:Nat)(x:List Str×Str):Option Bool:=
 zb (LH n (x.1,x.2)) fun y1=>
 some (decide (y1>=0))
theorem zf6(n:Nat)(x:List Str×Str):Le (dH n x) (slices_Contains_string x):=by unfold dH slices_Contains_string;exact(.bind (w9 n _) fun _=> .rfl)
def Xz(n:Nat)(x:Str):Option Bool:=
 zb (dH n ([[],[97,110,100],[111,114],[110,111,116],[111,110,108,121]],x)) fun y1=>
 zb (zo (bif !y1 then decide ((x.length:Int)<=64)else false) (QR n x) (default:Str)) fun y2=>
 zb (zo (bif bif !y1 then decide ((x.length:Int)<=64)else false then y2==x else false) (strings_IndexByte (x,0)) (default:Int)) fun y3=>
 some (bif bif bif !y1 then decide ((x.length:Int)<=64)else false then y2==x else false then decide (y3<0)else false)
theorem VO(n:Nat)(x:Str):Le (Xz n x) (Q3 x):=by unfold Xz Q3;exact(.bind (zf6 n _) fun _=>(.bind (.cond (Pq n _)) fun _=>(.bind .rfl fun _=> .rfl)))
def Uz(n:Nat)(x:List Int):Option Int:=
 ZK n (fun(s1:Int)=>
   bif decide (s1<(x.length:Int))then
    zb (geti x s1) fun y2=>
    bif bif decide (y2<(-1000000000000))then true else decide (y2>1000000000000)then
     some (LO.ret 8)
    else
     some (LO.again (w64 (s1+1)))
   else
    some (LO.out ()):Int->Option (LO (Int) (Unit) _)) 0 fun o3=>
 some 0
theorem RO(n:Nat)(x:List Int):Le (Uz n x) (Wj x):=by unfold Uz Wj;exact(.loop (fun _=>(.bif (.bind .rfl fun _=>(.bif .rfl .rfl)) .rfl)) fun _=> .rfl)
def Vz(n:Nat)(x:Int):Option Int:=
 zb (Uz n [x]) fun y1=>
 some y1
theorem UO(n:Nat)(x:Int):Le (Vz n x) (Q5 x):=by unfold Vz Q5;exact(.bind (RO n _) fun _=> .rfl)
def Iz(n:Nat)(x:zh):Option Bool:=
 zb (zo (!(x.kind != 1)) (ZZ (⟨x.kind,x.name,x.num,x.decl,x.list⟩:zh)) (default:Bool)) fun y1=>
 bif bif bif x.kind != 1 then true else !y1 then true else(x.list.length:Int)==0 then
  some false
 else
  ZK n (fun(s2:Int)=>
    bif decide (s2<(x.list.length:Int))then
     zF (X:=Int) (
       zb (geti x.list s2) fun y3=>
       zb (zo (!(decide ((y3.list.length:Int)>0))) (ZZ (⟨y3.kind,[],0,y3.decl,y3.list⟩:zh)) (default:Bool)) fun y4=>
       bif bif decide ((y3.list.length:Int)>0)then true else !y4 then
        some (LX.ret (LO.ret false))
       else
        bif y3.kind==4 then
         zb (zo (!(bif decide (s2>0)then true else y3.num != 0)) (Xz n y3.name) (default:Bool)) fun y5=>
         bif bif bif decide (s2>0)then true else y3.num != 0 then true else !y5 then
          some (LX.ret (LO.ret false))
         else
          some (LX.out s2)
        else
         zF (X:=Bool) (
           bif y3.kind==5 then
            some (LX.out (y3.kind==5))
           else
            some (LX.out (y3.kind==6))) fun j6=>
         bif j6 then
          zb (zo (!(bif !(y3.name==[])then true else decide (y3.num<0))) (Vz n y3.num) (default:Int)) fun y7=>
          bif bif bif !(y3.name==[])then true else decide (y3.num<0)then true else y7 != 0 then
           some (LX.ret (LO.ret false))
          else
           some (LX.out s2)
         else
          some (LX.ret (LO.ret false))) fun j8=>
     some (LO.again (w64 (j8+1)))
    else
     some (LO.out ()):Int->Option (LO (Int) (Unit) _)) 0 fun o9=>
  some true
theorem jN(n:Nat)(x:zh):Le (Iz n x) (Tj x):=by unfold Iz Tj;exact(.bind .rfl fun _=>(.bif .rfl (.loop (fun _=>(.bif (.join (.bind .rfl fun _=>(.bind .rfl fun _=>(.bif .rfl (.bif (.bind (.cond (VO n _)) fun _=>(.bif .rfl .rfl)) (.join (.bif .rfl .rfl) fun _=>(.bif (.bind (.cond (UO n _)) fun _=>(.bif .rfl .rfl)) .rfl)))))) fun _=> .rfl) .rfl)) fun _=> .rfl)))
def TE(n:Nat)(x:zh):Option Bool:=
 bif x.kind==3 then
  zb (ZZ (⟨x.kind,x.name,x.num,x.decl,x.list⟩:zh)) fun y1=>
  zb (zo (bif y1 then(x.list.length:Int)==1 else false) (geti x.list 0) (default:zh)) fun y2=>
  zb (zo (bif y1 then(x.list.length:Int)==1 else false) (Iz n (⟨y2.kind,y2.name,y2.num,y2.decl,y2.list⟩:zh)) (default:Bool)) fun y3=>
  zb (zo (bif bif y1 then(x.list.length:Int)==1 else false then y3 else false) (geti x.list 0) (default:zh)) fun y4=>
  zb (zo (bif bif y1 then(x.list.length:Int)==1 else false then y3 else false) (vo (⟨y4.kind,y4.name,y4.num,y4.decl,y4.list⟩:zh)) (default:Bool)) fun y5=>
  some (bif bif bif y1 then(x.list.length:Int)==1 else false then y3 else false then y5 else false)
 else
  zb (Iz n (⟨x.kind,x.name,x.num,x.decl,x.list⟩:zh)) fun y6=>
  some y6
theorem gX(n:Nat)(x:zh):Le (TE n x) (Jl x):=by unfold TE Jl;exact(.bif (.bind .rfl fun _=>(.bind .rfl fun _=>(.bind (.cond (jN n _)) fun _=>(.bind .rfl fun _=>(.bind .rfl fun _=> .rfl))))) (.bind (jN n _) fun _=> .rfl))
def EH(n:Nat)(x:zh):Option Bool:=
 zb (TE n (⟨x.kind,x.name,x.num,x.decl,x.list⟩:zh)) fun y1=>
 some (!y1)
theorem S9(n:Nat)(x:zh):Le (EH n x) (qw x):=by unfold EH qw;exact(.bind (gX n _) fun _=> .rfl)
def YH(n:Nat)(x:List zh):Option Int:=
 ZK n (fun(s1:Int)=>
   bif decide (s1<(x.length:Int))then
    zb (geti x s1) fun y2=>
    zb (EH n (⟨y2.kind,y2.name,y2.num,y2.decl,y2.list⟩:zh)) fun y3=>
    bif y3 then
     some (LO.ret s1)
    else
     some (LO.again (w64 (s1+1)))
   else
    some (LO.out ()):Int->Option (LO (Int) (Unit) _)) 0 fun o4=>
 some (-1)
theorem zgx(n:Nat)(x:List zh):Le (YH n x) (Z4 x):=by unfold YH Z4;exact(.loop (fun _=>(.bif (.bind .rfl fun _=>(.bind (S9 n _) fun _=>(.bif .rfl .rfl))) .rfl)) fun _=> .rfl)
def QG(n:Nat)(x:List zh):Option Bool:=
 zb (YH n x) fun y1=>
 some (decide (y1>=0))
theorem ze7(n:Nat)(x:List zh):Le (QG n x) (Zj x):=by unfold QG Zj;exact(.bind (zgx n _) fun _=> .rfl)
def SA(n:Nat)(x:zh):Option Int:=
 zb (zo (bif bif x.kind==2 then decide ((x.list.length:Int)>0)else false then decide ((x.list.length:Int)<=64)else false) (QG n x.list) (default:Bool)) fun y1=>
 zb (ZZ (⟨x.kind,x.name,x.num,x.decl,x.list⟩:zh)) fun y2=>
 bif bif !y2 then true else bif !(bif x.kind==1 then(x.list.length:Int)==0 else false)then !(bif bif bif x.kind==2 then decide ((x.list.length:Int)>0)else false then decide ((x.list.length:Int)<=64)else false then !y1 else false)else false then
  some 8
 else
  some 0
theorem AQ(n:Nat)(x:zh):Le (SA n x) (Z8 x):=by unfold SA Z8;exact(.bind (.cond (ze7 n _)) fun _=>(.bind .rfl fun _=>(.bif .rfl .rfl)))
def Uu(n:Nat)(x:zh):Option Int:=
 zb (SA n (⟨x.kind,x.name,x.num,x.decl,x.list⟩:zh)) fun y1=>
 bif y1 != 0 then
  zb (qZ n (⟨x.kind,x.name,x.num,x.decl,x.list⟩:zh)) fun y2=>
  some y2
 else
  some 0
theorem aF(n:Nat)(x:zh):Le (Uu n x) (mh x):=by unfold Uu mh;exact(.bind (AQ n _) fun _=>(.bif (.bind (JH n _) fun _=> .rfl) .rfl))
def aG(n:Nat)(Z0:(zh×Int)×Int×List Bool->Option (Bool×Int))(x:(zh×Int)×Int×List Bool):Option (Bool×Int):=
 bif x.1.1.kind==4 then
  some (bif x.1.1.name==[97,108,108]then true else x.1.1.name==[115,99,114,101,101,110],x.2.1)
 else
  bif x.1.1.kind==5 then
   some (decide (x.1.2>=x.1.1.num),x.2.1)
  else
   bif x.1.1.kind==6 then
    some (decide (x.1.2<=x.1.1.num),x.2.1)
   else
    bif x.1.1.kind==7 then
     zb (ll (x.2.1,x.2.2)) fun y1=>
     some (y1.1,y1.2)
    else
     bif x.1.1.kind==8 then
      some (false,x.2.1)
     else
      ZK n (fun(s2:(Bool×Bool×Int)×Int)=>
        bif decide (s2.1.2.2<(x.1.1.list.length:Int))then
         zb (geti x.1.1.list s2.1.2.2) fun y3=>
         zb (Z0 (((⟨y3.kind,y3.name,y3.num,y3.decl,y3.list⟩:zh),x.1.2),s2.2,x.2.2)) fun y4=>
         some (LO.again ((bif s2.1.1 then y4.1 else false,bif s2.1.2.1 then true else y4.1,w64 (s2.1.2.2+1)),y4.2))
        else
         some (LO.out ((s2.1.1,s2.1.2.1),s2.2)):(Bool×Bool×Int)×Int->Option (LO ((Bool×Bool×Int)×Int) ((Bool×Bool)×Int) _)) ((true,false,0),x.2.1) fun o5=>
      bif x.1.1.kind==1 then
       some (o5.1.1,o5.2)
      else
       bif x.1.1.kind==2 then
        some (o5.1.2,o5.2)
       else
        some (!o5.1.2,o5.2)
def bM(n:Nat):(zh×Int)×Int×List Bool->Option (Bool×Int):=Ef (aG n) n
theorem J2(n:Nat)(Z0 cond_holds':(zh×Int)×Int×List Bool->Option (Bool×Int))(h_cond_holds: ∀z,Le (Z0 z) (cond_holds' z))(x:(zh×Int)×Int×List Bool):Le (aG n Z0 x) (sj cond_holds' x):=by unfold aG sj;exact(.bif .rfl (.bif .rfl (.bif .rfl (.bif (.bind .rfl fun _=> .rfl) (.bif .rfl (.loop (fun _=>(.bif (.bind .rfl fun _=>(.bind (h_cond_holds _) fun _=> .rfl)) .rfl)) fun _=>(.bif .rfl (.bif .rfl .rfl))))))))
theorem aY(n:Nat)(x:(zh×Int)×Int×List Bool):Le (bM n x) (Z0 x):=Le.rec (fun S S' h x=>J2 n S S' h x) n x
def eF(n:Nat)(x:zh×VEnv×List Bool):Option (Bool×Int):=
 zb (Uu n (⟨x.1.kind,x.1.name,x.1.num,x.1.decl,x.1.list⟩:zh)) fun y1=>
 bif y1 != 0 then
  some (false,y1)
 else
  zb (zo (!(bif decide (x.2.1.width<0)then true else decide (x.2.1.width>1000000000))) (Jz n (⟨x.1.kind,x.1.name,x.1.num,x.1.decl,x.1.list⟩:zh)) (default:List zB)) fun y2=>
  bif bif bif decide (x.2.1.width<0)then true else decide (x.2.1.width>1000000000)then true else(x.2.2.length:Int) != (y2.length:Int)then
   some (false,2)
  else
   zb (bM n (((⟨x.1.kind,x.1.name,x.1.num,x.1.decl,x.1.list⟩:zh),w64 (1000*x.2.1.width)),0,x.2.2)) fun y3=>
   some (y3.1,0)
theorem dY(n:Nat)(x:zh×VEnv×List Bool):Le (eF n x) (Qk x):=by unfold eF Qk;exact(.bind (aF n _) fun _=>(.bif .rfl (.bind (.cond (YF n _)) fun _=>(.bif .rfl (.bind (aY n _) fun _=> .rfl)))))
def KG(n:Nat)(x:Str×Int):Option (List UInt8):=
 ZK n (fun(s1:Int×List UInt8)=>
   bif decide (s1.1<(x.1.length:Int))then
    zF (X:=Int×List UInt8) (
      zb (geti x.1 s1.1) fun y2=>
      zb (lh (y2.toNat:Int)) fun y3=>
      zb (zo (!(decide (s1.1>=x.2))&&y3) (qh (y2.toNat:Int)) (default:Bool)) fun y4=>
      bif bif bif y3 then bif decide (s1.1>=x.2)then true else !y4 else false then bif x.2==0 then true else !(x.1==[45])else false then
       zb (ZT (y2.toNat:Int)) fun y5=>
       need (zQ s1.2.length 1 1)<|
       some (LX.out (s1.1,s1.2++[y5]))
      else
       zb (Zv ((y2.toNat:Int),s1.2)) fun y6=>
       some (LX.out (s1.1,y6))) fun j7=>
    some (LO.again (w64 (j7.1+1),j7.2))
   else
    some (LO.out s1.2):Int×List UInt8->Option (LO (Int×List UInt8) (List UInt8) _)) (0,[]) fun o8=>
 some o8
theorem I1(n:Nat)(x:Str×Int):Le (KG n x) (Nu x):=by unfold KG Nu;exact(.loop (fun _=>(.bif (.join (.bind .rfl fun _=>(.bind .rfl fun _=>(.bind .rfl fun _=>(.bif (.bind .rfl fun _=>(.need .rfl)) (.bind .rfl fun _=> .rfl))))) fun _=> .rfl) .rfl)) fun _=> .rfl)
def Az(n:Nat)(x:Str):Option (Str×Int):=
 zb (zo (!(x==[])) (strings_IndexByte (x,0)) (default:Int)) fun y1=>
 bif bif x==[]then true else decide (y1>=0)then
  some ([],8)
 else
  zb (qy x) fun y2=>
  zb (KG n (x,y2)) fun y3=>
  bif bif decide ((x.length:Int)>4000)then true else decide ((y3.length:Int)>4000)then
   some ([],28)
  else
   some (y3,0)
theorem VM(n:Nat)(x:Str):Le (Az n x) (Ml x):=by unfold Az Ml;exact(.bind .rfl fun _=>(.bif .rfl (.bind .rfl fun _=>(.bind (I1 n _) fun _=>(.bif .rfl .rfl)))))
def LG(n:Nat)(x:Int):Option (Str×Int):=
 zb (Uz n [x]) fun y1=>
 bif y1 != 0 then
  some ([],y1)
 else
  zF (X:=Int) (
    bif decide (x<0)then
     some (LX.out (w64 (0 - x)))
    else
     some (LX.out x)) fun j2=>
  ZK n (fun(s3:(Int×Int)×List UInt8×Int)=>
    bif decide (s3.1.2<3)then
     zF (X:=(Int×Int)×List UInt8×Int) (
       zF (X:=Int×List UInt8×Int) (
         bif bif Int.tmod s3.1.1 10 != 0 then true else decide (s3.2.2<20)then
          zb (qC (wu8 (w64 (48+Int.tmod s3.1.1 10)),s3.2.2,s3.2.1)) fun y4=>
          some (LX.out (s3.1.1,y4.2,y4.1))
         else
          some (LX.out (s3.1.1,s3.2.1,s3.2.2))) fun j5=>
       bif bif s3.1.2==2 then decide (j5.2.2<20)else false then
        zb (qC (46,j5.2.2,j5.2.1)) fun y6=>
        some (LX.out ((w64 (Int.tdiv j5.1 10),s3.1.2),y6.2,y6.1))
       else
        some (LX.out ((w64 (Int.tdiv j5.1 10),s3.1.2),j5.2.1,j5.2.2))) fun j7=>
     some (LO.again ((j7.1.1,w64 (j7.1.2+1)),j7.2.1,j7.2.2))
    else
     some (LO.out (s3.2.1,s3.2.2)):(Int×Int)×List UInt8×Int->Option (LO ((Int×Int)×List UInt8×Int) (List UInt8×Int) _)) ((Int.tmod j2 1000,0),List.replicate 20 (0:UInt8),20) fun o8=>
  ZK n (fun(s9:Int×List UInt8×Int)=>
    zb (qC (wu8 (w64 (48+Int.tmod s9.1 10)),s9.2.2,s9.2.1)) fun y10=>
    bif decide (s9.1<10)then
     some (LO.out (y10.2,y10.1))
    else
     some (LO.again (w64 (Int.tdiv s9.1 10),y10.2,y10.1)):Int×List UInt8×Int->Option (LO (Int×List UInt8×Int) (List UInt8×Int) _)) (w64 (Int.tdiv j2 1000),o8.1,o8.2) fun o11=>
  zF (X:=List UInt8×Int) (
    bif decide (x<0)then
     zb (qC (45,o11.2,o11.1)) fun y12=>
     some (LX.out (y12.2,y12.1))
    else
     some (LX.out (o11.1,o11.2))) fun j13=>
  need (decide (0<=j13.2)&&decide (j13.2<=20)&&Nat.beq j13.1.length 20)<|
  need (decide (j13.2.toNat+(20 - j13.2.toNat)<=j13.1.length))<|
  some (List.take (20 - j13.2.toNat) (List.drop j13.2.toNat j13.1),0)
theorem U1(n:Nat)(x:Int):Le (LG n x) (Fu x):=by unfold LG Fu;exact(.bind (RO n _) fun _=>(.bif .rfl (.join (.bif .rfl .rfl) fun _=>(.loop (fun _=>(.bif (.join (.join (.bif (.bind .rfl fun _=> .rfl) .rfl) fun _=>(.bif (.bind .rfl fun _=> .rfl) .rfl)) fun _=> .rfl) .rfl)) fun _=>(.loop (fun _=>(.bind .rfl fun _=>(.bif .rfl .rfl))) fun _=>(.join (.bif (.bind .rfl fun _=> .rfl) .rfl) fun _=>(.need (.need .rfl))))))))
def wy(n:Nat)(zX:zh->Option Str)(x:List zh×Str):Option Str:=
 ZK n (fun(s1:Int×List Str)=>
   bif decide (s1.1<(x.1.length:Int))then
    zb (geti x.1 s1.1) fun y2=>
    zb (zX (⟨y2.kind,y2.name,y2.num,y2.decl,y2.list⟩:zh)) fun y3=>
    need (zQ s1.2.length 1 16)<|
    some (LO.again (w64 (s1.1+1),s1.2++[y3]))
   else
    some (LO.out s1.2):Int×List Str->Option (LO (Int×List Str) (List Str) _)) (0,[]) fun o4=>
 zb (wh (o4,x.2)) fun y5=>
 some y5
theorem WM(n:Nat)(zX cond_media':zh->Option Str)(h_cond_media: ∀z,Le (zX z) (cond_media' z))(x:List zh×Str):Le (wy n zX x) (Vo cond_media' x):=by unfold wy Vo;exact(.loop (fun _=>(.bif (.bind .rfl fun _=>(.bind (h_cond_media _) fun _=>(.need .rfl))) .rfl)) fun _=>(.bind .rfl fun _=> .rfl))
def YG(n:Nat)(zX:zh->Option Str)(x:zh):Option Str:=
 bif x.kind==4 then
  zb (Az n x.name) fun y1=>
  some y1.1
 else
  bif x.kind==3 then
   zb (geti x.list 0) fun y2=>
   zb (zX (⟨y2.kind,y2.name,y2.num,y2.decl,y2.list⟩:zh)) fun y3=>
   need (Qa ([110,111,116,32]:Str).length y3.length)<|
   some (([110,111,116,32]:Str)++y3)
  else
   bif x.kind==2 then
    zb (wy n zX (x.list,[44,32])) fun y4=>
    some y4
   else
    bif x.kind==1 then
     zb (wy n zX (x.list,[32,97,110,100,32])) fun y5=>
     some y5
    else
     zb (LG n x.num) fun y6=>
     bif x.kind==5 then
      need (Qa ([40,109,105,110,45,119,105,100,116,104,58,32]:Str).length y6.1.length)<|
      need (Qa (([40,109,105,110,45,119,105,100,116,104,58,32]:Str)++y6.1).length ([112,120,41]:Str).length)<|
      some (([40,109,105,110,45,119,105,100,116,104,58,32]:Str)++y6.1++([112,120,41]:Str))
     else
      need (Qa ([40,109,97,120,45,119,105,100,116,104,58,32]:Str).length y6.1.length)<|
      need (Qa (([40,109,97,120,45,119,105,100,116,104,58,32]:Str)++y6.1).length ([112,120,41]:Str).length)<|
      some (([40,109,97,120,45,119,105,100,116,104,58,32]:Str)++y6.1++([112,120,41]:Str))
def aM(n:Nat):zh->Option Str:=Ef (YG n) n
theorem Y1(n:Nat)(zX cond_media':zh->Option Str)(h_cond_media: ∀z,Le (zX z) (cond_media' z))(x:zh):Le (YG n zX x) (Tu cond_media' x):=by unfold YG Tu;exact(.bif (.bind (VM n _) fun _=> .rfl) (.bif (.bind .rfl fun _=>(.bind (h_cond_media _) fun _=>(.need .rfl))) (.bif (.bind (WM n _ _ h_cond_media _) fun _=> .rfl) (.bif (.bind (WM n _ _ h_cond_media _) fun _=> .rfl) (.bind (U1 n _) fun _=>(.bif (.need (.need .rfl)) (.need (.need .rfl))))))))
theorem YY(n:Nat)(x:zh):Le (aM n x) (zX x):=Le.rec (fun S S' h x=>Y1 n S S' h x) n x
def QP(n:Nat)(x:(Str×Int)×List UInt8):Option (List UInt8):=
 ZK n (fun(s1:Int×List UInt8)=>
   bif decide (s1.1<(x.1.1.length:Int))then
    zF (X:=Int×List UInt8) (
      zb (geti x.1.1 s1.1) fun y2=>
      zb (lh (y2.toNat:Int)) fun y3=>
      zb (zo (!(decide (s1.1>=x.1.2))&&y3) (qh (y2.toNat:Int)) (default:Bool)) fun y4=>
      bif bif bif y3 then bif decide (s1.1>=x.1.2)then true else !y4 else false then bif x.1.2==0 then true else !(x.1.1==[45])else false then
       zb (ZT (y2.toNat:Int)) fun y5=>
       need (zQ s1.2.length 1 1)<|
       some (LX.out (s1.1,s1.2++[y5]))
      else
       zb (Zv ((y2.toNat:Int),s1.2)) fun y6=>
       some (LX.out (s1.1,y6))) fun j7=>
    some (LO.again (w64 (j7.1+1),j7.2))
   else
    some (LO.out s1.2):Int×List UInt8->Option (LO (Int×List UInt8) (List UInt8) _)) (0,x.2) fun o8=>
 some o8
theorem Rq(n:Nat)(x:(Str×Int)×List UInt8):Le (QP n x) (Q6 x):=by unfold QP Q6;exact(.loop (fun _=>(.bif (.join (.bind .rfl fun _=>(.bind .rfl fun _=>(.bind .rfl fun _=>(.bif (.bind .rfl fun _=>(.need .rfl)) (.bind .rfl fun _=> .rfl))))) fun _=> .rfl) .rfl)) fun _=> .rfl)
def JG(n:Nat)(x:zf×List UInt8):Option (List UInt8):=
 bif x.1.kind==1 then
  zb (qy x.1.text) fun y1=>
  zb (QP n ((x.1.text,y1),x.2)) fun y2=>
  some y2
 else
  bif x.1.kind==2 then
   zb (qy x.1.text) fun y3=>
   zb (QP n ((x.1.text,y3),x.2)) fun y4=>
   need (zQ y4.length 1 1)<|
   some (y4++[(40:UInt8)])
  else
   bif x.1.kind==3 then
    need (zQ x.2.length 1 1)<|
    zb (qy x.1.text) fun y5=>
    zb (QP n ((x.1.text,y5),x.2++[(64:UInt8)])) fun y6=>
    some y6
   else
    bif x.1.kind==4 then
     zF (X:=Int×List UInt8) (
       bif x.1.flag then
        zb (qy x.1.text) fun y7=>
        some (LX.out (y7,x.2))
       else
        some (LX.out (0,x.2))) fun j8=>
     need (zQ j8.2.length 1 1)<|
     zb (QP n ((x.1.text,j8.1),j8.2++[(35:UInt8)])) fun y9=>
     some y9
    else
     bif x.1.kind==5 then
      need (zQ x.2.length 1 1)<|
      need (decide (x.1.text.length<=maxLen))<|
      ZK n (fun(s10:Int×List UInt8)=>
        bif decide (s10.1<(x.1.text.length:Int))then
         zF (X:=Int×List UInt8) (
           need (decide (0<=s10.1)&&decide (s10.1<(x.1.text.length:Int)))<|
           zb x.1.text[s10.1.toNat]? fun y11=>
           zb (strings_IndexByte ([10,12,13,34,92],(y11.toNat:Int))) fun y12=>
           bif decide (y12>=0)then
            zb (Zv ((y11.toNat:Int),s10.2)) fun y13=>
            some (LX.out (s10.1,y13))
           else
            zb (ZT (y11.toNat:Int)) fun y14=>
            need (zQ s10.2.length 1 1)<|
            some (LX.out (s10.1,s10.2++[y14]))) fun j15=>
         some (LO.again (w64 (j15.1+1),j15.2))
        else
         some (LO.out s10.2):Int×List UInt8->Option (LO (Int×List UInt8) (List UInt8) _)) (0,x.2++[(34:UInt8)]) fun o16=>
      need (zQ o16.length 1 1)<|
      some (o16++[(34:UInt8)])
     else
      bif x.1.kind==7 then
       need (zQ x.2.length ([117,114,108,40]:Str).length 1)<|
       need (decide (x.1.text.length<=maxLen))<|
       ZK n (fun(s17:Int×List UInt8)=>
         bif decide (s17.1<(x.1.text.length:Int))then
          zF (X:=Int×List UInt8) (
            need (decide (0<=s17.1)&&decide (s17.1<(x.1.text.length:Int)))<|
            zb x.1.text[s17.1.toNat]? fun y18=>
            zb (zo (!(decide ((y18.toNat:Int)<=32))) (strings_IndexByte ([34,39,40,41,92,127],(y18.toNat:Int))) (default:Int)) fun y19=>
            bif bif decide ((y18.toNat:Int)<=32)then true else decide (y19>=0)then
             zb (Zv ((y18.toNat:Int),s17.2)) fun y20=>
             some (LX.out (s17.1,y20))
            else
             zb (ZT (y18.toNat:Int)) fun y21=>
             need (zQ s17.2.length 1 1)<|
             some (LX.out (s17.1,s17.2++[y21]))) fun j22=>
          some (LO.again (w64 (j22.1+1),j22.2))
         else
          some (LO.out s17.2):Int×List UInt8->Option (LO (Int×List UInt8) (List UInt8) _)) (0,x.2++([117,114,108,40]:Str)) fun o23=>
       need (zQ o23.length 1 1)<|
       some (o23++[(41:UInt8)])
      else
       bif x.1.kind==9 then
        need (zQ x.2.length x.1.text.length 1)<|
        some (x.2++x.1.text)
       else
        bif x.1.kind==10 then
         zb (QQ ((x.1.num, !x.1.flag),x.2)) fun y24=>
         some y24
        else
         bif x.1.kind==11 then
          zb (QQ ((x.1.num,false),x.2)) fun y25=>
          need (zQ y25.length 1 1)<|
          some (y25++[(37:UInt8)])
         else
          bif x.1.kind==12 then
           zb (QQ ((x.1.num, !x.1.flag),x.2)) fun y26=>
           zb (geti x.1.unit 0) fun y27=>
           need (decide (1<=(x.1.unit.length:Int))|| !(ibOr IntKind.u8 (y27.toNat:Int) 32==101))<|
           zb (zo (ibOr IntKind.u8 (y27.toNat:Int) 32==101) (aj (List.drop 1 x.1.unit)) (default:Bool)) fun y28=>
           need (decide (1<=(x.1.unit.length:Int))|| !(bif ibOr IntKind.u8 (y27.toNat:Int) 32==101 then y28 else false))<|
           zb (zo (bif ibOr IntKind.u8 (y27.toNat:Int) 32==101 then y28 else false) (strings_HasPrefix (List.drop 1 x.1.unit,[45,45])) (default:Bool)) fun y29=>
           bif bif bif ibOr IntKind.u8 (y27.toNat:Int) 32==101 then y28 else false then !y29 else false then
            zb (geti x.1.unit 0) fun y30=>
            zb (Zv ((y30.toNat:Int),y26)) fun y31=>
            need (decide (1<=(x.1.unit.length:Int)))<|
            zb (QP n ((List.drop 1 x.1.unit,0),y31)) fun y32=>
            some y32
           else
            zb (qy x.1.unit) fun y33=>
            zb (QP n ((x.1.unit,y33),y26)) fun y34=>
            some y34
          else
           zb (gy ()) fun y35=>
           zb (geti [y35.e0,y35.e1,y35.e2,y35.e3,y35.e4,y35.e5,y35.e6,y35.e7,y35.e8,y35.e9,y35.e10,y35.e11] (wu8 (x.1.kind - 13))) fun y36=>
           need (zQ x.2.length y36.length 1)<|
           some (x.2++y36)
theorem Y0(n:Nat)(x:zf×List UInt8):Le (JG n x) (Lu x):=by unfold JG Lu;exact(.bif (.bind .rfl fun _=>(.bind (Rq n _) fun _=> .rfl)) (.bif (.bind .rfl fun _=>(.bind (Rq n _) fun _=>(.need .rfl))) (.bif (.need (.bind .rfl fun _=>(.bind (Rq n _) fun _=> .rfl))) (.bif (.join (.bif (.bind .rfl fun _=> .rfl) .rfl) fun _=>(.need (.bind (Rq n _) fun _=> .rfl))) (.bif (.need (.need (.loop (fun _=>(.bif (.join (.need (.bind .rfl fun _=>(.bind .rfl fun _=>(.bif (.bind .rfl fun _=> .rfl) (.bind .rfl fun _=>(.need .rfl)))))) fun _=> .rfl) .rfl)) fun _=>(.need .rfl)))) (.bif (.need (.need (.loop (fun _=>(.bif (.join (.need (.bind .rfl fun _=>(.bind .rfl fun _=>(.bif (.bind .rfl fun _=> .rfl) (.bind .rfl fun _=>(.need .rfl)))))) fun _=> .rfl) .rfl)) fun _=>(.need .rfl)))) (.bif (.need .rfl) (.bif (.bind .rfl fun _=> .rfl) (.bif (.bind .rfl fun _=>(.need .rfl)) (.bif (.bind .rfl fun _=>(.bind .rfl fun _=>(.need (.bind .rfl fun _=>(.need (.bind .rfl fun _=>(.bif (.bind .rfl fun _=>(.bind .rfl fun _=>(.need (.bind (Rq n _) fun _=> .rfl)))) (.bind .rfl fun _=>(.bind (Rq n _) fun _=> .rfl))))))))) (.bind .rfl fun _=>(.bind .rfl fun _=>(.need .rfl)))))))))))))
def qR(n:Nat)(x:za):Option za:=
 ZK n (fun(s1:za)=>
   need (decide (0<=s1.at_)&&decide (s1.at_<=(s1.s.length:Int)))<|
   zb (strings_HasPrefix (List.drop s1.at_.toNat s1.s,[47,42])) fun y2=>
   bif y2 then
    need (decide (0<=w64 (s1.at_+2))&&decide (w64 (s1.at_+2)<=(s1.s.length:Int)))<|
    zb (Dj (List.drop (w64 (s1.at_+2)).toNat s1.s,[42,47])) fun y3=>
    bif decide (y3<0)then
     some (LO.ret (⟨s1.s,(s1.s.length:Int)⟩:za))
    else
     some (LO.again (⟨s1.s,w64 (s1.at_+w64 (y3+4))⟩:za))
   else
    some (LO.out s1):za->Option (LO (za) (za) _)) x fun o4=>
 some o4
theorem eQ(n:Nat)(x:za):Le (qR n x) (ZQ x):=by unfold qR ZQ;exact(.loop (fun _=>(.need (.bind .rfl fun _=>(.bif (.need (.bind .rfl fun _=>(.bif .rfl .rfl))) .rfl)))) fun _=> .rfl)
def Z5(n:Nat)(x:za):Option za:=
 ZK n (fun(s1:za)=>
   zb (zg (0,s1)) fun y2=>
   zb (ZM y2) fun y3=>
   bif y3 then
    some (LO.again (⟨s1.s,w64 (s1.at_+1)⟩:za))
   else
    some (LO.out s1):za->Option (LO (za) (za) _)) x fun o4=>
 some o4
theorem QB(n:Nat)(x:za):Le (Z5 n x) (Zg x):=by unfold Z5 Zg;exact(.loop (fun _=>(.bind .rfl fun _=>(.bind .rfl fun _=>(.bif .rfl .rfl)))) fun _=> .rfl)
def VH(n:Nat)(x:za):Option (za×List UInt8):=
 zb (zg (0,(⟨x.s,w64 (x.at_+1)⟩:za))) fun y1=>
 bif y1==(-1)then
  zb (Qm 65533) fun y2=>
  some ((⟨x.s,w64 (x.at_+1)⟩:za),y2)
 else
  zb (dh y1) fun y3=>
  bif decide (y3<0)then
   zb (ZT (wu8 y1)) fun y4=>
   need (zQ 0 1 1)<|
   some ((⟨x.s,w64 (w64 (x.at_+1)+1)⟩:za),[y4])
  else
   ZK n (fun(s5:(Int×Int)×za)=>
     bif decide (s5.1.2<6)then
      zb (zg (0,s5.2)) fun y6=>
      zb (dh y6) fun y7=>
      bif decide (y7<0)then
       some (LO.out (s5.1.1,s5.2))
      else
       some (LO.again ((ibOr IntKind.i64 (Vv IntKind.i64 s5.1.1 4) y7,w64 (s5.1.2+1)),(⟨s5.2.s,w64 (s5.2.at_+1)⟩:za)))
     else
      some (LO.out (s5.1.1,s5.2)):(Int×Int)×za->Option (LO ((Int×Int)×za) (Int×za) _)) ((0,0),(⟨x.s,w64 (x.at_+1)⟩:za)) fun o8=>
   zF (X:=Int×za) (
     zb (zg (0,o8.2)) fun y9=>
     zb (ZM y9) fun y10=>
     bif y10 then
      some (LX.out (o8.1,(⟨o8.2.s,w64 (o8.2.at_+1)⟩:za)))
     else
      some (LX.out (o8.1,o8.2))) fun j11=>
   zF (X:=Int) (
     bif j11.1==0 then
      some (LX.out 65533)
     else
      some (LX.out j11.1)) fun j12=>
   zb (Qm (w32 j12)) fun y13=>
   some (j11.2,y13)
theorem zfw(n:Nat)(x:za):Le (VH n x) (qf x):=by unfold VH qf;exact(.bind .rfl fun _=>(.bif (.bind .rfl fun _=> .rfl) (.bind .rfl fun _=>(.bif (.bind .rfl fun _=>(.need .rfl)) (.loop (fun _=>(.bif (.bind .rfl fun _=>(.bind .rfl fun _=>(.bif .rfl .rfl))) .rfl)) fun _=>(.join (.bind .rfl fun _=>(.bind .rfl fun _=>(.bif .rfl .rfl))) fun _=>(.join (.bif .rfl .rfl) fun _=>(.bind .rfl fun _=> .rfl))))))))
def ZR(n:Nat)(x:za×List UInt8):Option (za×List UInt8):=
 zb (zg (0,(⟨x.1.s,w64 (x.1.at_+1)⟩:za))) fun y1=>
 bif y1==(-1)then
  zb (Qn (65533,x.2)) fun y2=>
  some ((⟨x.1.s,w64 (x.1.at_+1)⟩:za),y2)
 else
  zb (dh y1) fun y3=>
  bif decide (y3<0)then
   zb (ZT (wu8 y1)) fun y4=>
   need (zQ x.2.length 1 1)<|
   some ((⟨x.1.s,w64 (w64 (x.1.at_+1)+1)⟩:za),x.2++[y4])
  else
   ZK n (fun(s5:(Int×Int)×za)=>
     bif decide (s5.1.2<6)then
      zb (zg (0,s5.2)) fun y6=>
      zb (dh y6) fun y7=>
      bif decide (y7<0)then
       some (LO.out (s5.1.1,s5.2))
      else
       some (LO.again ((ibOr IntKind.i64 (Vv IntKind.i64 s5.1.1 4) y7,w64 (s5.1.2+1)),(⟨s5.2.s,w64 (s5.2.at_+1)⟩:za)))
     else
      some (LO.out (s5.1.1,s5.2)):(Int×Int)×za->Option (LO ((Int×Int)×za) (Int×za) _)) ((0,0),(⟨x.1.s,w64 (x.1.at_+1)⟩:za)) fun o8=>
   zF (X:=Int×za×List UInt8) (
     zb (zg (0,o8.2)) fun y9=>
     zb (ZM y9) fun y10=>
     bif y10 then
      some (LX.out (o8.1,(⟨o8.2.s,w64 (o8.2.at_+1)⟩:za),x.2))
     else
      some (LX.out (o8.1,o8.2,x.2))) fun j11=>
   zF (X:=Int×List UInt8) (
     bif j11.1==0 then
      some (LX.out (65533,j11.2.2))
     else
      some (LX.out (j11.1,j11.2.2))) fun j12=>
   zb (Qn (w32 j12.1,j12.2)) fun y13=>
   some (j11.2.1,y13)
theorem QE(n:Nat)(x:za×List UInt8):Le (ZR n x) (z8 x):=by unfold ZR z8;exact(.bind .rfl fun _=>(.bif (.bind .rfl fun _=> .rfl) (.bind .rfl fun _=>(.bif (.bind .rfl fun _=>(.need .rfl)) (.loop (fun _=>(.bif (.bind .rfl fun _=>(.bind .rfl fun _=>(.bif .rfl .rfl))) .rfl)) fun _=>(.join (.bind .rfl fun _=>(.bind .rfl fun _=>(.bif .rfl .rfl))) fun _=>(.join (.bif .rfl .rfl) fun _=>(.bind .rfl fun _=> .rfl))))))))
def eH(n:Nat)(x:za):Option (zf×za):=
 zb (zg (0,x)) fun y1=>
 ZK n (fun(s2:za×zf×List UInt8)=>
   zb (zg (0,s2.1)) fun y3=>
   bif y3==(-1)then
    some (LO.out (s2.1,s2.2.1,s2.2.2))
   else
    bif y3==y1 then
     some (LO.out ((⟨s2.1.s,w64 (s2.1.at_+1)⟩:za),s2.2.1,s2.2.2))
    else
     bif y3==10 then
      some (LO.ret ((⟨6,[],0,[],false⟩:zf),s2.1))
     else
      zb (zo (y3==92) (zg (1,s2.1)) (default:Int)) fun y4=>
      zb (zo (!(y4==(-1))&&y3==92) (zg (1,s2.1)) (default:Int)) fun y5=>
      bif bif y3==92 then bif y4==(-1)then true else y5==10 else false then
       some (LO.again ((⟨s2.1.s,if(s2.1.s.length:Int)<w64 (s2.1.at_+2)then(s2.1.s.length:Int)else w64 (s2.1.at_+2)⟩:za),s2.2.1,s2.2.2))
      else
       bif y3==92 then
        zb (ZR n (s2.1,s2.2.2)) fun y6=>
        some (LO.again (y6.1,s2.2.1,y6.2))
       else
        zb (ZT (wu8 y3)) fun y7=>
        need (zQ s2.2.2.length 1 1)<|
        some (LO.again ((⟨s2.1.s,w64 (s2.1.at_+1)⟩:za),s2.2.1,s2.2.2++[y7])):za×zf×List UInt8->Option (LO (za×zf×List UInt8) (za×zf×List UInt8) _)) ((⟨x.s,w64 (x.at_+1)⟩:za),(⟨0,[],0,[],false⟩:zf),[]) fun o8=>
 some ((⟨5,o8.2.2,0,[],false⟩:zf),o8.1)
theorem W9(n:Nat)(x:za):Le (eH n x) (Qb x):=by unfold eH Qb;exact(.bind .rfl fun _=>(.loop (fun _=>(.bind .rfl fun _=>(.bif .rfl (.bif .rfl (.bif .rfl (.bind .rfl fun _=>(.bind .rfl fun _=>(.bif .rfl (.bif (.bind (QE n _) fun _=> .rfl) (.bind .rfl fun _=>(.need .rfl))))))))))) fun _=> .rfl))
def ql(n:Nat)(x:za):Option (Str×za):=
 ZK n (fun(s1:za×List UInt8)=>
   zb (zg (0,s1.1)) fun y2=>
   zb (Am y2) fun y3=>
   bif y3 then
    zb (ZT (wu8 y2)) fun y4=>
    need (zQ s1.2.length 1 1)<|
    some (LO.again ((⟨s1.1.s,w64 (s1.1.at_+1)⟩:za),s1.2++[y4]))
   else
    zb (zo (y2 != (-1)) (zM (0,s1.1)) (default:Bool)) fun y5=>
    bif bif y2 != (-1)then y5 else false then
     zb (ZR n (s1.1,s1.2)) fun y6=>
     some (LO.again (y6.1,y6.2))
    else
     some (LO.ret (s1.2,s1.1)):za×List UInt8->Option (LO (za×List UInt8) (Unit) _)) (x,[]) fun o7=>
 none
theorem QS(n:Nat)(x:za):Le (ql n x) (Zk x):=by unfold ql Zk;exact(.loop (fun _=>(.bind .rfl fun _=>(.bind .rfl fun _=>(.bif (.bind .rfl fun _=>(.need .rfl)) (.bind .rfl fun _=>(.bif (.bind (QE n _) fun _=> .rfl) .rfl)))))) fun _=> .none)
def qg(n:Nat)(x:za):Option za:=
 ZK n (fun(s1:za)=>
   zb (zg (0,s1)) fun y2=>
   zb (ZX y2) fun y3=>
   bif y3 then
    some (LO.again (⟨s1.s,w64 (s1.at_+1)⟩:za))
   else
    some (LO.out s1):za->Option (LO (za) (za) _)) x fun o4=>
 some o4
theorem SH(n:Nat)(x:za):Le (qg n x) (ZE x):=by unfold qg ZE;exact(.loop (fun _=>(.bind .rfl fun _=>(.bind .rfl fun _=>(.bif .rfl .rfl)))) fun _=> .rfl)
def XH(n:Nat)(x:za):Option (Bool×za):=
 zF (X:=za) (
   zb (zg (0,x)) fun y1=>
   bif bif y1==43 then true else y1==45 then
    some (LX.out (⟨x.s,w64 (x.at_+1)⟩:za))
   else
    some (LX.out x)) fun j2=>
 zb (qg n j2) fun y3=>
 zF (X:=Bool×za) (
   zb (zg (0,y3)) fun y4=>
   zb (zo (y4==46) (zg (1,y3)) (default:Int)) fun y5=>
   zb (zo (y4==46) (ZX y5) (default:Bool)) fun y6=>
   bif bif y4==46 then y6 else false then
    zb (qg n (⟨y3.s,w64 (y3.at_+1)⟩:za)) fun y7=>
    some (LX.out (false,y7))
   else
    some (LX.out (true,y3))) fun j8=>
 zF (X:=Bool×za) (
   zb (zg (0,j8.2)) fun y9=>
   zb (zo (!(y9==101)) (zg (0,j8.2)) (default:Int)) fun y10=>
   bif bif y9==101 then true else y10==69 then
    zF (X:=(Bool×Int)×za) (
      zb (zg (1,j8.2)) fun y11=>
      bif bif y11==43 then true else y11==45 then
       some (LX.out ((j8.1,2),j8.2))
      else
       some (LX.out ((j8.1,1),j8.2))) fun j12=>
    zb (zg (j12.1.2,j12.2)) fun y13=>
    zb (ZX y13) fun y14=>
    bif y14 then
     zb (qg n (⟨j12.2.s,w64 (j12.2.at_+j12.1.2)⟩:za)) fun y15=>
     some (LX.out (false,y15))
    else
     some (LX.out (j12.1.1,j12.2))
   else
    some (LX.out (j8.1,j8.2))) fun j16=>
 some (j16.1,j16.2)
theorem zgy(n:Nat)(x:za):Le (XH n x) (qI x):=by unfold XH qI;exact(.join (.bind .rfl fun _=>(.bif .rfl .rfl)) fun _=>(.bind (SH n _) fun _=>(.join (.bind .rfl fun _=>(.bind .rfl fun _=>(.bind .rfl fun _=>(.bif (.bind (SH n _) fun _=> .rfl) .rfl)))) fun _=>(.join (.bind .rfl fun _=>(.bind .rfl fun _=>(.bif (.join (.bind .rfl fun _=>(.bif .rfl .rfl)) fun _=>(.bind .rfl fun _=>(.bind .rfl fun _=>(.bif (.bind (SH n _) fun _=> .rfl) .rfl)))) .rfl))) fun _=> .rfl))))
def uG(n:Nat)(x:Str):Option Int:=
 zb (geti x 0) fun y1=>
 zb (Rk (x,[43,45])) fun y2=>
 zF (X:=Str×Int) (
   zb (Vs (y2,[101,69])) fun y3=>
   bif decide (y3>=0)then
    need (decide (0<=w64 (y3+1))&&decide (w64 (y3+1)<=(y2.length:Int)))<|
    zb (Rk (List.drop (w64 (y3+1)).toNat y2,[43,45])) fun y4=>
    need (decide (y4.length<=maxLen))<|
    ZK n (fun(s5:Int×Int)=>
      bif decide (s5.2<(y4.length:Int))then
       need (decide (0<=s5.2)&&decide (s5.2<(y4.length:Int)))<|
       zb y4[s5.2.toNat]? fun y6=>
       some (LO.again (if 1048576<w64 (w64 (10*s5.1)+w64 (wu8 ((y6.toNat:Int) - 48)))then 1048576 else w64 (w64 (10*s5.1)+w64 (wu8 ((y6.toNat:Int) - 48))),w64 (s5.2+1)))
      else
       some (LO.out s5.1):Int×Int->Option (LO (Int×Int) (Int) _)) (0,0) fun o7=>
    zF (X:=Str×Int×Int) (
      zb (geti y2 (w64 (y3+1))) fun y8=>
      bif (y8.toNat:Int)==45 then
       some (LX.out (y2,3,w64 (0 - o7)))
      else
       some (LX.out (y2,3,o7))) fun j9=>
    need (decide (0<=y3)&&decide (y3<=(j9.1.length:Int)))<|
    some (LX.out (List.take y3.toNat j9.1,w64 (j9.2.1+j9.2.2)))
   else
    some (LX.out (y2,3))) fun j10=>
 zb (cutF (j10.1,[46])) fun y11=>
 need (Qa y11.1.length y11.2.1.length)<|
 zF (X:=Str×Int) (
   bif decide (w64 (j10.2 - (y11.2.1.length:Int))<0)then
    need (decide (0<=(if w64 (((y11.1++y11.2.1).length:Int)+w64 (j10.2 - (y11.2.1.length:Int)))>0 then w64 (((y11.1++y11.2.1).length:Int)+w64 (j10.2 - (y11.2.1.length:Int)))else 0))&&decide ((if w64 (((y11.1++y11.2.1).length:Int)+w64 (j10.2 - (y11.2.1.length:Int)))>0 then w64 (((y11.1++y11.2.1).length:Int)+w64 (j10.2 - (y11.2.1.length:Int)))else 0)<=((y11.1++y11.2.1).length:Int)))<|
    some (LX.out (List.take (if w64 (((y11.1++y11.2.1).length:Int)+w64 (j10.2 - (y11.2.1.length:Int)))>0 then w64 (((y11.1++y11.2.1).length:Int)+w64 (j10.2 - (y11.2.1.length:Int)))else 0).toNat (y11.1++y11.2.1),w64 (j10.2 - (y11.2.1.length:Int))))
   else
    some (LX.out (y11.1++y11.2.1,w64 (j10.2 - (y11.2.1.length:Int))))) fun j12=>
 need (decide (j12.1.length<=maxLen))<|
 ZK n (fun(s13:Int×Int)=>
   bif decide (s13.2<(j12.1.length:Int))then
    need (decide (0<=s13.2)&&decide (s13.2<(j12.1.length:Int)))<|
    zb j12.1[s13.2.toNat]? fun y14=>
    some (LO.again (if 1000000000000<w64 (w64 (10*s13.1)+w64 (wu8 ((y14.toNat:Int) - 48)))then 1000000000000 else w64 (w64 (10*s13.1)+w64 (wu8 ((y14.toNat:Int) - 48))),w64 (s13.2+1)))
   else
    some (LO.out s13.1):Int×Int->Option (LO (Int×Int) (Int) _)) (0,0) fun o15=>
 ZK n (fun(s16:Int×Int)=>
   bif bif bif decide (s16.1>0)then decide (s16.2>0)else false then decide (s16.2<1000000000000)else false then
    some (LO.again (w64 (s16.1 - 1),if 1000000000000<w64 (10*s16.2)then 1000000000000 else w64 (10*s16.2)))
   else
    some (LO.out s16.2):Int×Int->Option (LO (Int×Int) (Int) _)) (j12.2,o15) fun o17=>
 zF (X:=Int) (
   bif (y1.toNat:Int)==45 then
    some (LX.out (w64 (0 - o17)))
   else
    some (LX.out o17)) fun j18=>
 some j18
theorem N9(n:Nat)(x:Str):Le (uG n x) (Rv x):=by unfold uG Rv;exact(.bind .rfl fun _=>(.bind .rfl fun _=>(.join (.bind .rfl fun _=>(.bif (.need (.bind .rfl fun _=>(.need (.loop (fun _=>(.bif (.need (.bind .rfl fun _=> .rfl)) .rfl)) fun _=>(.join (.bind .rfl fun _=>(.bif .rfl .rfl)) fun _=>(.need .rfl)))))) .rfl)) fun _=>(.bind .rfl fun _=>(.need (.join (.bif (.need .rfl) .rfl) fun _=>(.need (.loop (fun _=>(.bif (.need (.bind .rfl fun _=> .rfl)) .rfl)) fun _=>(.loop (fun _=>(.bif .rfl .rfl)) fun _=>(.join (.bif .rfl .rfl) fun _=> .rfl))))))))))
def WH(n:Nat)(x:za):Option (zf×za):=
 zb (XH n x) fun y1=>
 need (decide (0<=x.at_)&&(decide (x.at_<=y1.2.at_)&&decide (y1.2.at_<=(y1.2.s.length:Int))))<|
 zb (uG n (List.drop x.at_.toNat (List.take y1.2.at_.toNat y1.2.s))) fun y2=>
 zF (X:=za×zf×zf) (
   zb (Zf (0,y1.2)) fun y3=>
   bif y3 then
    zb (ql n y1.2) fun y4=>
    some (LX.out (y4.2,(⟨0,[],0,[],false⟩:zf),(⟨12,[],y2,y4.1,y1.1⟩:zf)))
   else
    zb (zg (0,y1.2)) fun y5=>
    bif y5==37 then
     some (LX.out ((⟨y1.2.s,w64 (y1.2.at_+1)⟩:za),(⟨0,[],0,[],false⟩:zf),(⟨11,[],y2,[],false⟩:zf)))
    else
     some (LX.out (y1.2,(⟨0,[],0,[],false⟩:zf),(⟨10,[],y2,[],y1.1⟩:zf)))) fun j6=>
 some (j6.2.2,j6.1)
theorem zgz(n:Nat)(x:za):Le (WH n x) (qJ x):=by unfold WH qJ;exact(.bind (zgy n _) fun _=>(.need (.bind (N9 n _) fun _=>(.join (.bind .rfl fun _=>(.bif (.bind (QS n _) fun _=> .rfl) (.bind .rfl fun _=>(.bif .rfl .rfl)))) fun _=> .rfl))))
def Qz(n:Nat)(x:za):Option (zf×za):=
 ZK n (fun(s1:za×zf)=>
   zb (zg (0,s1.1)) fun y2=>
   bif y2==(-1)then
    some (LO.ret ((⟨8,[],0,[],false⟩:zf),s1.1))
   else
    zb (zM (0,s1.1)) fun y3=>
    bif y3 then
     zb (VH n s1.1) fun y4=>
     some (LO.again (y4.1,s1.2))
    else
     zb (geti s1.1.s (w64 (w64 (s1.1.at_+1) - 1))) fun y5=>
     bif (y5.toNat:Int)==41 then
      some (LO.ret ((⟨8,[],0,[],false⟩:zf),(⟨s1.1.s,w64 (s1.1.at_+1)⟩:za)))
     else
      some (LO.again ((⟨s1.1.s,w64 (s1.1.at_+1)⟩:za),s1.2)):za×zf->Option (LO (za×zf) (Unit) _)) (x,(⟨0,[],0,[],false⟩:zf)) fun o6=>
 none
theorem OH(n:Nat)(x:za):Le (Qz n x) (qA x):=by unfold Qz qA;exact(.loop (fun _=>(.bind .rfl fun _=>(.bif .rfl (.bind .rfl fun _=>(.bif (.bind (zfw n _) fun _=> .rfl) (.bind .rfl fun _=>(.bif .rfl .rfl))))))) fun _=> .none)
def vG(n:Nat)(x:za):Option (zf×za):=
 zb (Z5 n x) fun y1=>
 ZK n (fun(s2:za×zf×List UInt8)=>
   zb (zg (0,s2.1)) fun y3=>
   zF (X:=Int×za×zf×List UInt8) (
     zb (ZM y3) fun y4=>
     bif y4 then
      zb (Z5 n s2.1) fun y5=>
      zb (zg (0,y5)) fun y6=>
      bif bif y6 != 41 then y6 != (-1)else false then
       zb (Qz n y5) fun y7=>
       some (LX.ret (LO.ret (y7.1,y7.2)))
      else
       some (LX.out (y6,y5,s2.2.1,s2.2.2))
     else
      some (LX.out (y3,s2.1,s2.2.1,s2.2.2))) fun j8=>
   bif j8.1==(-1)then
    some (LO.ret ((⟨7,j8.2.2.2,0,[],false⟩:zf),j8.2.1))
   else
    bif j8.1==41 then
     some (LO.ret ((⟨7,j8.2.2.2,0,[],false⟩:zf),(⟨j8.2.1.s,w64 (j8.2.1.at_+1)⟩:za)))
    else
     zb (zo (!(bif bif bif bif j8.1==34 then true else j8.1==39 then true else j8.1==40 then true else decide (j8.1<=8)then true else j8.1==11)) (Qj (j8.1,14,31)) (default:Bool)) fun y9=>
     bif bif bif bif bif bif bif j8.1==34 then true else j8.1==39 then true else j8.1==40 then true else decide (j8.1<=8)then true else j8.1==11 then true else y9 then true else j8.1==127 then
      zb (Qz n j8.2.1) fun y10=>
      some (LO.ret (y10.1,y10.2))
     else
      bif j8.1 != 92 then
       zb (ZT (wu8 j8.1)) fun y11=>
       need (zQ j8.2.2.2.length 1 1)<|
       some (LO.again ((⟨j8.2.1.s,w64 (j8.2.1.at_+1)⟩:za),j8.2.2.1,j8.2.2.2++[y11]))
      else
       zb (zM (0,j8.2.1)) fun y12=>
       bif y12 then
        zb (ZR n (j8.2.1,j8.2.2.2)) fun y13=>
        some (LO.again (y13.1,j8.2.2.1,y13.2))
       else
        zb (Qz n j8.2.1) fun y14=>
        some (LO.ret (y14.1,y14.2)):za×zf×List UInt8->Option (LO (za×zf×List UInt8) (Unit) _)) (y1,(⟨0,[],0,[],false⟩:zf),[]) fun o15=>
 none
theorem O9(n:Nat)(x:za):Le (vG n x) (Sv x):=by unfold vG Sv;exact(.bind (QB n _) fun _=>(.loop (fun _=>(.bind .rfl fun _=>(.join (.bind .rfl fun _=>(.bif (.bind (QB n _) fun _=>(.bind .rfl fun _=>(.bif (.bind (OH n _) fun _=> .rfl) .rfl))) .rfl)) fun _=>(.bif .rfl (.bif .rfl (.bind .rfl fun _=>(.bif (.bind (OH n _) fun _=> .rfl) (.bif (.bind .rfl fun _=>(.need .rfl)) (.bind .rfl fun _=>(.bif (.bind (QE n _) fun _=> .rfl) (.bind (OH n _) fun _=> .rfl))))))))))) fun _=> .none))
def KH(n:Nat)(x:za):Option (zf×za):=
 zb (ql n x) fun y1=>
 zb (zg (0,y1.2)) fun y2=>
 bif y2 != 40 then
  some ((⟨1,y1.1,0,[],false⟩:zf),y1.2)
 else
  zF (X:=za×zf) (
    zb (Hm n (y1.1,[117,114,108])) fun y3=>
    bif y3 then
     zb (Z5 n (⟨y1.2.s,w64 (y1.2.at_+1)⟩:za)) fun y4=>
     zb (zg (0,y4)) fun y5=>
     bif bif y5 != 34 then y5 != 39 else false then
      zb (vG n (⟨y1.2.s,w64 (y1.2.at_+1)⟩:za)) fun y6=>
      some (LX.ret (y6.1,y6.2))
     else
      some (LX.out ((⟨y1.2.s,w64 (y1.2.at_+1)⟩:za),(⟨0,[],0,[],false⟩:zf)))
    else
     some (LX.out ((⟨y1.2.s,w64 (y1.2.at_+1)⟩:za),(⟨0,[],0,[],false⟩:zf)))) fun j7=>
  some ((⟨2,y1.1,0,[],false⟩:zf),j7.1)
theorem r9(n:Nat)(x:za):Le (KH n x) (QA x):=by unfold KH QA;exact(.bind (QS n _) fun _=>(.bind .rfl fun _=>(.bif .rfl (.join (.bind (ou n _) fun _=>(.bif (.bind (QB n _) fun _=>(.bind .rfl fun _=>(.bif (.bind (O9 n _) fun _=> .rfl) .rfl))) .rfl)) fun _=> .rfl))))
def MH(n:Nat)(x:za):Option (zf×za):=
 zb (zg (0,x)) fun y1=>
 need (decide (0<=x.at_)&&decide (x.at_<=(x.s.length:Int)))<|
 zb (ZM y1) fun y2=>
 bif y2 then
  zb (Z5 n x) fun y3=>
  some ((⟨13,[],0,[],false⟩:zf),y3)
 else
  bif bif y1==34 then true else y1==39 then
   zb (eH n x) fun y4=>
   some (y4.1,y4.2)
  else
   zb (zo (y1==35) (zg (1,x)) (default:Int)) fun y5=>
   zb (zo (y1==35) (Am y5) (default:Bool)) fun y6=>
   zb (zo (!y6&&y1==35) (zM (1,x)) (default:Bool)) fun y7=>
   bif bif y1==35 then bif y6 then true else y7 else false then
    zb (Zf (1,x)) fun y8=>
    zb (ql n (⟨x.s,w64 (x.at_+1)⟩:za)) fun y9=>
    some ((⟨4,y9.1,0,[],y8⟩:zf),y9.2)
   else
    zb (TA x) fun y10=>
    bif y10 then
     zb (WH n x) fun y11=>
     some (y11.1,y11.2)
    else
     zb (strings_HasPrefix (List.drop x.at_.toNat x.s,[45,45,62])) fun y12=>
     bif y12 then
      some ((⟨15,[],0,[],false⟩:zf),(⟨x.s,w64 (x.at_+3)⟩:za))
     else
      zb (strings_HasPrefix (List.drop x.at_.toNat x.s,[60,33,45,45])) fun y13=>
      bif y13 then
       some ((⟨14,[],0,[],false⟩:zf),(⟨x.s,w64 (x.at_+4)⟩:za))
      else
       zb (zo (y1==64) (Zf (1,x)) (default:Bool)) fun y14=>
       bif bif y1==64 then y14 else false then
        zb (ql n (⟨x.s,w64 (x.at_+1)⟩:za)) fun y15=>
        some ((⟨3,y15.1,0,[],false⟩:zf),y15.2)
       else
        zb (Zf (0,x)) fun y16=>
        bif y16 then
         zb (KH n x) fun y17=>
         some (y17.1,y17.2)
        else
         zb (strings_IndexByte ([58,59,44,91,93,40,41,123,125],wu8 y1)) fun y18=>
         bif decide (y18>=0)then
          some ((⟨wu8 (16+wu8 y18),[],0,[],false⟩:zf),(⟨x.s,w64 (x.at_+1)⟩:za))
         else
          need (decide (1<=((List.drop x.at_.toNat x.s).length:Int)))<|
          some ((⟨9,List.take 1 (List.drop x.at_.toNat x.s),0,[],false⟩:zf),(⟨x.s,w64 (x.at_+1)⟩:za))
theorem E9(n:Nat)(x:za):Le (MH n x) (QZ x):=by unfold MH QZ;exact(.bind .rfl fun _=>(.need (.bind .rfl fun _=>(.bif (.bind (QB n _) fun _=> .rfl) (.bif (.bind (W9 n _) fun _=> .rfl) (.bind .rfl fun _=>(.bind .rfl fun _=>(.bind .rfl fun _=>(.bif (.bind .rfl fun _=>(.bind (QS n _) fun _=> .rfl)) (.bind .rfl fun _=>(.bif (.bind (zgz n _) fun _=> .rfl) (.bind .rfl fun _=>(.bif .rfl (.bind .rfl fun _=>(.bif .rfl (.bind .rfl fun _=>(.bif (.bind (QS n _) fun _=> .rfl) (.bind .rfl fun _=>(.bif (.bind (r9 n _) fun _=> .rfl) (.bind .rfl fun _=>(.bif .rfl (.need .rfl))))))))))))))))))))))
def pF(n:Nat)(x:Str):Option (Int×List zf):=
 zb (Nn x) fun y1=>
 bif y1.2 != 0 then
  some (y1.2,[])
 else
  zb (qR n (⟨y1.1,0⟩:za)) fun y2=>
  ZK n (fun(s3:Int×List zf×za)=>
    bif decide (s3.2.2.at_<(y1.1.length:Int))then
     bif decide (w64 (s3.1+1)>1500)then
      some (LO.ret (4,s3.2.1))
     else
      zb (MH n s3.2.2) fun y4=>
      zb (AA ((y4.1,s3.2.2.at_,y4.2.at_),s3.2.1)) fun y5=>
      zb (qR n y4.2) fun y6=>
      some (LO.again (w64 (s3.1+1),y5,y6))
    else
     some (LO.out (s3.2.1,s3.2.2)):Int×List zf×za->Option (LO (Int×List zf×za) (List zf×za) _)) (0,[],y2) fun o7=>
  some (0,o7.1)
theorem I5(n:Nat)(x:Str):Le (pF n x) (au x):=by unfold pF au;exact(.bind .rfl fun _=>(.bif .rfl (.bind (eQ n _) fun _=>(.loop (fun _=>(.bif (.bif .rfl (.bind (E9 n _) fun _=>(.bind .rfl fun _=>(.bind (eQ n _) fun _=> .rfl)))) .rfl)) fun _=> .rfl))))
def oz(n:Nat)(x:Str):Option (List zf×Int):=
 zb (pF n x) fun y1=>
 bif y1.1 != 0 then
  some ([],y1.1)
 else
  some (y1.2,0)
theorem PP(n:Nat)(x:Str):Le (oz n x) (Cm x):=by unfold oz Cm;exact(.bind (I5 n _) fun _=>(.bif .rfl .rfl))
def NH(n:Nat)(x:List zf×List zf):Option Bool:=
 bif (x.1.length:Int) != (x.2.length:Int)then
  some false
 else
  ZK n (fun(s1:Int)=>
    bif decide (s1<(x.1.length:Int))then
     zb (geti x.1 s1) fun y2=>
     zb (geti x.2 s1) fun y3=>
     bif !(y2.kind==y3.kind&&(y2.text==y3.text&&(y2.num==y3.num&&(y2.unit==y3.unit&&(y2.flag==y3.flag&&true)))))then
      some (LO.ret false)
     else
      some (LO.again (w64 (s1+1)))
    else
     some (LO.out ()):Int->Option (LO (Int) (Unit) _)) 0 fun o4=>
  some true
theorem F9(n:Nat)(x:List zf×List zf):Le (NH n x) (QY x):=by unfold NH QY;exact(.bif .rfl (.loop (fun _=>(.bif (.bind .rfl fun _=>(.bind .rfl fun _=>(.bif .rfl .rfl))) .rfl)) fun _=> .rfl))
def mF(n:Nat)(x:List zf):Option (Str×Int):=
 zb (Hz n x) fun y1=>
 bif y1 != 0 then
  some ([],y1)
 else
  ZK n (fun(s2:Int×List UInt8×List zP)=>
    bif decide (s2.1<(x.length:Int))then
     need (decide (0<=s2.1)&&decide (s2.1<=(x.length:Int)))<|
     zb (Gz n (List.drop s2.1.toNat x)) fun y3=>
     need (decide (0<=s2.1)&&(decide (s2.1<=w64 (s2.1+y3))&&decide (w64 (s2.1+y3)<=(x.length:Int))))<|
     ZK n (fun(s4:Int×List UInt8)=>
       bif decide (s4.1<((List.drop s2.1.toNat (List.take (w64 (s2.1+y3)).toNat x)).length:Int))then
        zb (geti (List.drop s2.1.toNat (List.take (w64 (s2.1+y3)).toNat x)) s4.1) fun y5=>
        zb (JG n (y5,s4.2)) fun y6=>
        some (LO.again (w64 (s4.1+1),y6))
       else
        some (LO.out s4.2):Int×List UInt8->Option (LO (Int×List UInt8) (List UInt8) _)) (0,[]) fun o7=>
     zF (X:=Int×List UInt8×List zP×List UInt8) (
       zb (geti x s2.1) fun y8=>
       bif bif y8.kind==9 then y3==2 else false then
        some (LX.out (s2.1,s2.2.1,s2.2.2,[(92:UInt8),(10:UInt8)]))
       else
        some (LX.out (s2.1,s2.2.1,s2.2.2,o7))) fun j9=>
     zF (X:=Int×List UInt8×List zP×zP) (
       bif decide (w64 ((j9.2.2.1.length:Int) - 4)>=0)then
        need (decide (0<=w64 ((j9.2.2.1.length:Int) - 4))&&decide (w64 ((j9.2.2.1.length:Int) - 4)<(j9.2.2.1.length:Int)))<|
        zb (j9.2.2.1[(w64 ((j9.2.2.1.length:Int) - 4)).toNat]?) fun y10=>
        some (LX.out (j9.1,j9.2.1,j9.2.2.1,y10))
       else
        some (LX.out (j9.1,j9.2.1,j9.2.2.1,(⟨0,0⟩:zP)))) fun j11=>
     need (decide (0<=j11.2.2.2.at_)&&decide (j11.2.2.2.at_<=(j11.2.1.length:Int)))<|
     need (decide (j11.2.2.2.at_.toNat+(j11.2.1.length - j11.2.2.2.at_.toNat)<=j11.2.1.length))<|
     need (Qa (List.take (j11.2.1.length - j11.2.2.2.at_.toNat) (List.drop j11.2.2.2.at_.toNat j11.2.1)).length j9.2.2.2.length)<|
     zb (oz n (List.take (j11.2.1.length - j11.2.2.2.at_.toNat) (List.drop j11.2.2.2.at_.toNat j11.2.1)++j9.2.2.2)) fun y12=>
     zF (X:=Int×List zP×List UInt8) (
       need (decide (0<=j11.2.2.2.token)&&(decide (j11.2.2.2.token<=w64 (j11.1+y3))&&decide (w64 (j11.1+y3)<=(x.length:Int)))|| !(!(y12.2 != 0)))<|
       zb (zo (!(y12.2 != 0)) (NH n (y12.1,List.drop j11.2.2.2.token.toNat (List.take (w64 (j11.1+y3)).toNat x))) (default:Bool)) fun y13=>
       bif bif y12.2 != 0 then true else !y13 then
        need (zQ j11.2.1.length ([47,42,42,47]:Str).length 1)<|
        some (LX.out (j11.1,j11.2.2.1,j11.2.1++([47,42,42,47]:Str)))
       else
        some (LX.out (j11.1,j11.2.2.1,j11.2.1))) fun j14=>
     need (zQ j14.2.1.length 1 16)<|
     need (zQ j14.2.2.length j9.2.2.2.length 1)<|
     bif decide (((j14.2.2++j9.2.2.2).length:Int)>4000)then
      some (LO.ret ([],28))
     else
      some (LO.again (w64 (j14.1+y3),j14.2.2++j9.2.2.2,j14.2.1++[(⟨j14.1,(j14.2.2.length:Int)⟩:zP)]))
    else
     some (LO.out s2.2.1):Int×List UInt8×List zP->Option (LO (Int×List UInt8×List zP) (List UInt8) _)) (0,[],[]) fun o15=>
  some (o15,0)
theorem WY(n:Nat)(x:List zf):Le (mF n x) (Ot x):=by unfold mF Ot;exact(.bind (Tz n _) fun _=>(.bif .rfl (.loop (fun _=>(.bif (.need (.bind (OO n _) fun _=>(.need (.loop (fun _=>(.bif (.bind .rfl fun _=>(.bind (Y0 n _) fun _=> .rfl)) .rfl)) fun _=>(.join (.bind .rfl fun _=>(.bif .rfl .rfl)) fun _=>(.join (.bif (.need (.bind .rfl fun _=> .rfl)) .rfl) fun _=>(.need (.need (.need (.bind (PP n _) fun _=>(.join (.need (.bind (.cond (F9 n _)) fun _=>(.bif (.need .rfl) .rfl))) fun _=>(.need (.need (.bif .rfl .rfl)))))))))))))) .rfl)) fun _=> .rfl)))
def mE(n:Nat)(x:List ze):Option (Str×Int):=
 zb (QU n x) fun y1=>
 bif y1 != 0 then
  some ([],y1)
 else
  zb (Sz n x) fun y2=>
  zb (mF n y2) fun y3=>
  some (y3.1,y3.2)
theorem aX(n:Nat)(x:List ze):Le (mE n x) (Ps x):=by unfold mE Ps;exact(.bind (Gm n _) fun _=>(.bif .rfl (.bind (PO n _) fun _=>(.bind (WY n _) fun _=> .rfl))))
def SE(n:Nat)(x:zB):Option (Str×Int):=
 zb (Su n x) fun y1=>
 bif y1 != 0 then
  some ([],y1)
 else
  zb (Az n x.name) fun y2=>
  bif y2.2 != 0 then
   some ([],y2.2)
  else
   zb (mE n x.value) fun y3=>
   bif y3.2 != 0 then
    some ([],y3.2)
   else
    need (Qa y2.1.length ([58,32]:Str).length)<|
    need (Qa (y2.1++([58,32]:Str)).length y3.1.length)<|
    zF (X:=Str) (
      bif x.important then
       need (Qa (y2.1++([58,32]:Str)++y3.1).length ([32,33,105,109,112,111,114,116,97,110,116]:Str).length)<|
       some (LX.out (y2.1++([58,32]:Str)++y3.1++([32,33,105,109,112,111,114,116,97,110,116]:Str)))
      else
       some (LX.out (y2.1++([58,32]:Str)++y3.1))) fun j4=>
    bif decide ((j4.length:Int)>4000)then
     some ([],28)
    else
     some (j4,0)
theorem dX(n:Nat)(x:zB):Le (SE n x) (Ht x):=by unfold SE Ht;exact(.bind (XF n _) fun _=>(.bif .rfl (.bind (VM n _) fun _=>(.bif .rfl (.bind (aX n _) fun _=>(.bif .rfl (.need (.need (.join (.bif (.need .rfl) .rfl) fun _=>(.bif .rfl .rfl))))))))))
def RA(n:Nat)(zu:zh×Bool->Option (Str×Bool))(x:zh×Bool):Option (Str×Bool):=
 zb (zu ((⟨x.1.kind,x.1.name,x.1.num,x.1.decl,x.1.list⟩:zh),x.2)) fun y1=>
 zb (Xi (⟨x.1.kind,x.1.name,x.1.num,x.1.decl,x.1.list⟩:zh)) fun y2=>
 bif y2 then
  some (y1.1,y1.2)
 else
  need (Qa ([40]:Str).length y1.1.length)<|
  need (Qa (([40]:Str)++y1.1).length ([41]:Str).length)<|
  some (([40]:Str)++y1.1++([41]:Str),y1.2)
theorem yP(n:Nat)(zu cond_supports':zh×Bool->Option (Str×Bool))(h_cond_supports: ∀z,Le (zu z) (cond_supports' z))(x:zh×Bool):Le (RA n zu x) (Qp cond_supports' x):=by unfold RA Qp;exact(.bind (h_cond_supports _) fun _=>(.bind .rfl fun _=>(.bif .rfl (.need (.need .rfl)))))
def Yz(n:Nat)(zu:zh×Bool->Option (Str×Bool))(x:(List zh×Str)×Bool):Option (Str×Bool):=
 ZK n (fun(s1:Int×Bool×List Str)=>
   bif decide (s1.1<(x.1.1.length:Int))then
    zb (geti x.1.1 s1.1) fun y2=>
    zb (RA n zu ((⟨y2.kind,y2.name,y2.num,y2.decl,y2.list⟩:zh),s1.2.1)) fun y3=>
    need (zQ s1.2.2.length 1 16)<|
    some (LO.again (w64 (s1.1+1),y3.2,s1.2.2++[y3.1]))
   else
    some (LO.out (s1.2.1,s1.2.2)):Int×Bool×List Str->Option (LO (Int×Bool×List Str) (Bool×List Str) _)) (0,x.2,[]) fun o4=>
 zb (wh (o4.2,x.1.2)) fun y5=>
 some (y5,o4.1)
theorem WO(n:Nat)(zu cond_supports':zh×Bool->Option (Str×Bool))(h_cond_supports: ∀z,Le (zu z) (cond_supports' z))(x:(List zh×Str)×Bool):Le (Yz n zu x) (Lp cond_supports' x):=by unfold Yz Lp;exact(.loop (fun _=>(.bif (.bind .rfl fun _=>(.bind (yP n _ _ h_cond_supports _) fun _=>(.need .rfl))) .rfl)) fun _=>(.bind .rfl fun _=> .rfl))
def kG(n:Nat)(zu:zh×Bool->Option (Str×Bool))(x:zh×Bool):Option (Str×Bool):=
 bif x.1.kind==7 then
  zb (SE n x.1.decl) fun y1=>
  need (Qa ([40]:Str).length y1.1.length)<|
  need (Qa (([40]:Str)++y1.1).length ([41]:Str).length)<|
  some (([40]:Str)++y1.1++([41]:Str),bif x.2 then true else y1.2 != 0)
 else
  bif x.1.kind==8 then
   some ([40,117,110,107,110,111,119,110,41],x.2)
  else
   bif x.1.kind==3 then
    zb (geti x.1.list 0) fun y2=>
    zb (RA n zu ((⟨y2.kind,y2.name,y2.num,y2.decl,y2.list⟩:zh),x.2)) fun y3=>
    need (Qa ([110,111,116,32]:Str).length y3.1.length)<|
    some (([110,111,116,32]:Str)++y3.1,y3.2)
   else
    bif x.1.kind==2 then
     zb (Yz n zu ((x.1.list,[32,111,114,32]),x.2)) fun y4=>
     some (y4.1,y4.2)
    else
     zb (Yz n zu ((x.1.list,[32,97,110,100,32]),x.2)) fun y5=>
     some (y5.1,y5.2)
def rP(n:Nat):zh×Bool->Option (Str×Bool):=Ef (kG n) n
theorem F8(n:Nat)(zu cond_supports':zh×Bool->Option (Str×Bool))(h_cond_supports: ∀z,Le (zu z) (cond_supports' z))(x:zh×Bool):Le (kG n zu x) (Ev cond_supports' x):=by unfold kG Ev;exact(.bif (.bind (dX n _) fun _=>(.need (.need .rfl))) (.bif .rfl (.bif (.bind .rfl fun _=>(.bind (yP n _ _ h_cond_supports _) fun _=>(.need .rfl))) (.bif (.bind (WO n _ _ h_cond_supports _) fun _=> .rfl) (.bind (WO n _ _ h_cond_supports _) fun _=> .rfl)))))
theorem u6(n:Nat)(x:zh×Bool):Le (rP n x) (zu x):=Le.rec (fun S S' h x=>F8 n S S' h x) n x
def xy(n:Nat)(x:zh):Option (Str×Int):=
 zb (Uu n (⟨x.kind,x.name,x.num,x.decl,x.list⟩:zh)) fun y1=>
 bif y1 != 0 then
  some ([],y1)
 else
  zF (X:=Str×Bool) (
    zb (SA n (⟨x.kind,x.name,x.num,x.decl,x.list⟩:zh)) fun y2=>
    bif y2==0 then
     zb (aM n (⟨x.kind,x.name,x.num,x.decl,x.list⟩:zh)) fun y3=>
     some (LX.out (y3,false))
    else
     zb (rP n ((⟨x.kind,x.name,x.num,x.decl,x.list⟩:zh),false)) fun y4=>
     some (LX.out (y4.1,y4.2))) fun j5=>
  bif bif j5.2 then true else decide ((j5.1.length:Int)>4000)then
   some ([],28)
  else
   some (j5.1,0)
theorem XM(n:Nat)(x:zh):Le (xy n x) (Kl x):=by unfold xy Kl;exact(.bind (aF n _) fun _=>(.bif .rfl (.join (.bind (AQ n _) fun _=>(.bif (.bind (YY n _) fun _=> .rfl) (.bind (u6 n _) fun _=> .rfl))) fun _=>(.bif .rfl .rfl))))
def yz(n:Nat)(x:Str):Option (List ze):=
 zb (oz n x) fun y1=>
 zb (parseF y1.1) fun y2=>
 bif bif y1.2 != 0 then true else y2.2 != 0 then
  some []
 else
  some y2.1
theorem RP(n:Nat)(x:Str):Le (yz n x) (il x):=by unfold yz il;exact(.bind (PP n _) fun _=>(.bind .rfl fun _=>(.bif .rfl .rfl)))
def vE(n:Nat)(x:List ze×Int):Option (List (List ze)×Int):=
 zb (QU n x.1) fun y1=>
 bif y1 != 0 then
  some ([],y1)
 else
  bif bif decide (x.2<1)then true else decide (x.2>24)then
   some ([],2)
  else
   ZK n (fun(s2:(Int×Int)×List (List ze))=>
     bif decide (s2.1.2<(x.1.length:Int))then
      zF (X:=(Int×Int)×List (List ze)) (
        zb (geti x.1 s2.1.2) fun y3=>
        bif y3.token.kind==x.2 then
         need (decide (0<=s2.1.1)&&(decide (s2.1.1<=s2.1.2)&&(decide (s2.1.2<=s2.1.2)&&decide (s2.1.2<=(x.1.length:Int))))&&decide (s2.1.2=s2.1.2))<|
         zb (ry n (List.drop s2.1.1.toNat (List.take s2.1.2.toNat x.1))) fun y4=>
         need (zQ s2.2.length 1 24)<|
         some (LX.out ((w64 (s2.1.2+1),s2.1.2),s2.2++[y4]))
        else
         some (LX.out ((s2.1.1,s2.1.2),s2.2))) fun j5=>
      some (LO.again ((j5.1.1,w64 (j5.1.2+1)),j5.2))
     else
      some (LO.out (s2.1.1,s2.2)):(Int×Int)×List (List ze)->Option (LO ((Int×Int)×List (List ze)) (Int×List (List ze)) _)) ((0,0),[]) fun o6=>
   need (decide (0<=o6.1)&&decide (o6.1<=(x.1.length:Int)))<|
   zb (ry n (List.drop o6.1.toNat x.1)) fun y7=>
   need (zQ o6.2.length 1 24)<|
   some (o6.2++[y7],0)
theorem UY(n:Nat)(x:List ze×Int):Le (vE n x) (ut x):=by unfold vE ut;exact(.bind (Gm n _) fun _=>(.bif .rfl (.bif .rfl (.loop (fun _=>(.bif (.join (.bind .rfl fun _=>(.bif (.need (.bind (xE n _) fun _=>(.need .rfl))) .rfl)) fun _=> .rfl) .rfl)) fun _=>(.need (.bind (xE n _) fun _=>(.need .rfl)))))))
def zD(n:Nat)(x:zk):Option (Bool×zk):=
 ZK n (fun(s1:zk)=>
   zb (zI s1) fun y2=>
   bif y2==13 then
    zb (zJ s1) fun y3=>
    some (LO.again y3.2)
   else
    some (LO.out s1):zk->Option (LO (zk) (zk) _)) x fun o4=>
 some (decide ((o4.v.length:Int)<(x.v.length:Int)),o4)
theorem zG(n:Nat)(x:zk):Le (zD n x) (zy x):=by unfold zD zy;exact(.loop (fun _=>(.bind .rfl fun _=>(.bif (.bind .rfl fun _=> .rfl) .rfl))) fun _=> .rfl)
def qa(n:Nat)(x:List Str×zk):Option (Str×zk):=
 ZK n (fun(s1:Int×zk)=>
   bif decide (s1.1<(x.1.length:Int))then
    zb (geti x.1 s1.1) fun y2=>
    zb (zI s1.2) fun y3=>
    zb (zo (y3==1) (geti s1.2.v 0) (default:ze)) fun y4=>
    zb (zo (y3==1) (Hm n (y4.token.text,y2)) (default:Bool)) fun y5=>
    bif bif y3==1 then y5 else false then
     zb (zJ s1.2) fun y6=>
     some (LO.ret (y2,y6.2))
    else
     some (LO.again (w64 (s1.1+1),s1.2))
   else
    some (LO.out s1.2):Int×zk->Option (LO (Int×zk) (zk) _)) (0,x.2) fun o7=>
 some ([],o7)
theorem Qr(n:Nat)(x:List Str×zk):Le (qa n x) (Zn x):=by unfold qa Zn;exact(.loop (fun _=>(.bif (.bind .rfl fun _=>(.bind .rfl fun _=>(.bind .rfl fun _=>(.bind (.cond (ou n _)) fun _=>(.bif (.bind .rfl fun _=> .rfl) .rfl))))) .rfl)) fun _=> .rfl)
def QM(n:Nat)(x:zk):Option ((zh×Bool)×zk):=
 zb (zI x) fun y1=>
 bif y1 != 21 then
  some (((⟨0,[],0,(⟨[],[],false⟩:zB),[]⟩:zh),false),x)
 else
  zb (zJ x) fun y2=>
  zb (zD n (⟨y2.1.list⟩:zk)) fun y3=>
  zF (X:=(Int×Str×Int×Str×Bool)×zk×(Int×Str×Int×Str×Bool)) (
    zb (qa n ([[109,105,110,45,119,105,100,116,104],[109,97,120,45,119,105,100,116,104]],y3.2)) fun y4=>
    bif y4.1==[]then
     some (LX.ret (((⟨5,[],0,(⟨[],[],false⟩:zB),[]⟩:zh),false),y2.2))
    else
     bif y4.1==[109,97,120,45,119,105,100,116,104]then
      some (LX.out ((0,[],0,[],false),y4.2,(6,[],0,[],false)))
     else
      some (LX.out ((0,[],0,[],false),y4.2,(5,[],0,[],false)))) fun j5=>
  zb (zD n j5.2.1) fun y6=>
  zb (zI y6.2) fun y7=>
  bif y7 != 16 then
   some (((⟨j5.2.2.1,j5.2.2.2.1,j5.2.2.2.2.1,(⟨j5.2.2.2.2.2.1,[],j5.2.2.2.2.2.2⟩:zB),[]⟩:zh),false),y2.2)
  else
   zb (zJ y6.2) fun y8=>
   zb (zD n y8.2) fun y9=>
   zb (zI y9.2) fun y10=>
   zb (zo (y10 != 12) (zI y9.2) (default:Int)) fun y11=>
   bif bif y10 != 12 then y11 != 10 else false then
    some (((⟨j5.2.2.1,j5.2.2.2.1,j5.2.2.2.2.1,(⟨j5.2.2.2.2.2.1,[],j5.2.2.2.2.2.2⟩:zB),[]⟩:zh),false),y2.2)
   else
    zb (zJ y9.2) fun y12=>
    zb (zD n y12.2) fun y13=>
    zb (zo (y12.1.token.kind==12) (Hm n (y12.1.token.unit,[112,120])) (default:Bool)) fun y14=>
    zb (zo (bif bif bif y12.1.token.kind==12 then y14 else false then true else bif y12.1.token.kind==10 then y12.1.token.num==0 else false then decide (y12.1.token.num>=0)else false) (Vz n y12.1.token.num) (default:Int)) fun y15=>
    some (((⟨j5.2.2.1,j5.2.2.2.1,y12.1.token.num,(⟨j5.2.2.2.2.2.1,[],j5.2.2.2.2.2.2⟩:zB),[]⟩:zh),bif bif bif bif bif y12.1.token.kind==12 then y14 else false then true else bif y12.1.token.kind==10 then y12.1.token.num==0 else false then decide (y12.1.token.num>=0)else false then y15==0 else false then(y13.2.v.length:Int)==0 else false),y2.2)
theorem oQ(n:Nat)(x:zk):Le (QM n x) (qx x):=by unfold QM qx;exact(.bind .rfl fun _=>(.bif .rfl (.bind .rfl fun _=>(.bind (zG n _) fun _=>(.join (.bind (Qr n _) fun _=>(.bif .rfl (.bif .rfl .rfl))) fun _=>(.bind (zG n _) fun _=>(.bind .rfl fun _=>(.bif .rfl (.bind .rfl fun _=>(.bind (zG n _) fun _=>(.bind .rfl fun _=>(.bind .rfl fun _=>(.bif .rfl (.bind .rfl fun _=>(.bind (zG n _) fun _=>(.bind (.cond (ou n _)) fun _=>(.bind (.cond (UO n _)) fun _=> .rfl)))))))))))))))))
def BH(n:Nat)(x:zk):Option ((zh×Bool)×zk):=
 zb (zD n x) fun y1=>
 zb (qa n ([[110,111,116],[111,110,108,121]],y1.2)) fun y2=>
 zb (zD n y2.2) fun y3=>
 zF (X:=zk×(Int×Str×Int×Str×Bool)×(Int×Str×Int×Str×Bool)×List zh) (
   zb (zI y3.2) fun y4=>
   bif y4==1 then
    zb (zJ y3.2) fun y5=>
    zb (QR n y5.1.token.text) fun y6=>
    zb (Xz n y6) fun y7=>
    bif !y7 then
     some (LX.ret (((⟨1,[],0,(⟨[],[],false⟩:zB),[]⟩:zh),false),y5.2))
    else
     need (zQ 0 1 104)<|
     some (LX.out (y5.2,(0,[],0,[],false),(1,[],0,[],false),[(⟨4,y6,0,(⟨[],[],false⟩:zB),[]⟩:zh)]))
   else
    zb (QM n y3.2) fun y8=>
    bif bif !y8.1.2 then true else !(y2.1==[])then
     some (LX.ret (((⟨1,[],0,(⟨[],[],false⟩:zB),[]⟩:zh),false),y8.2))
    else
     need (zQ 0 1 104)<|
     some (LX.out (y8.2,(0,[],0,[],false),(1,[],0,[],false),[(⟨y8.1.1.kind,y8.1.1.name,y8.1.1.num,y8.1.1.decl,y8.1.1.list⟩:zh)]))) fun j9=>
 zb (zD n j9.1) fun y10=>
 ZK n (fun(s11:zk×(Int×Str×Int×Str×Bool)×(Int×Str×Int×Str×Bool)×List zh)=>
   bif decide ((s11.1.v.length:Int)>0)then
    zb (qa n ([[97,110,100]],s11.1)) fun y12=>
    bif y12.1==[]then
     some (LO.ret (((⟨s11.2.2.1.1,s11.2.2.1.2.1,s11.2.2.1.2.2.1,(⟨s11.2.2.1.2.2.2.1,[],s11.2.2.1.2.2.2.2⟩:zB),s11.2.2.2⟩:zh),false),y12.2))
    else
     zb (zD n y12.2) fun y13=>
     zb (QM n y13.2) fun y14=>
     bif !y14.1.2 then
      some (LO.ret (((⟨s11.2.2.1.1,s11.2.2.1.2.1,s11.2.2.1.2.2.1,(⟨s11.2.2.1.2.2.2.1,[],s11.2.2.1.2.2.2.2⟩:zB),s11.2.2.2⟩:zh),false),y14.2))
     else
      need (zQ s11.2.2.2.length 1 104)<|
      zb (zD n y14.2) fun y15=>
      some (LO.again (y15.2,(s11.2.1.1,s11.2.1.2.1,s11.2.1.2.2.1,s11.2.1.2.2.2.1,s11.2.1.2.2.2.2),(s11.2.2.1.1,s11.2.2.1.2.1,s11.2.2.1.2.2.1,s11.2.2.1.2.2.2.1,s11.2.2.1.2.2.2.2),s11.2.2.2++[(⟨y14.1.1.kind,y14.1.1.name,y14.1.1.num,y14.1.1.decl,y14.1.1.list⟩:zh)]))
   else
    some (LO.out (s11.1,(s11.2.1.1,s11.2.1.2.1,s11.2.1.2.2.1,s11.2.1.2.2.2.1,s11.2.1.2.2.2.2),(s11.2.2.1.1,s11.2.2.1.2.1,s11.2.2.1.2.2.1,s11.2.2.1.2.2.2.1,s11.2.2.1.2.2.2.2),s11.2.2.2)):zk×(Int×Str×Int×Str×Bool)×(Int×Str×Int×Str×Bool)×List zh->Option (LO (zk×(Int×Str×Int×Str×Bool)×(Int×Str×Int×Str×Bool)×List zh) (zk×(Int×Str×Int×Str×Bool)×(Int×Str×Int×Str×Bool)×List zh) _)) (y10.2,(j9.2.1.1,j9.2.1.2.1,j9.2.1.2.2.1,j9.2.1.2.2.2.1,j9.2.1.2.2.2.2),(j9.2.2.1.1,j9.2.2.1.2.1,j9.2.2.1.2.2.1,j9.2.2.1.2.2.2.1,j9.2.2.1.2.2.2.2),j9.2.2.2) fun o16=>
 zF (X:=(Int×Str×Int×Str×Bool)×(Int×Str×Int×Str×Bool×List zh)) (
   bif y2.1==[110,111,116]then
    some (LX.out ((o16.2.1.1,o16.2.1.2.1,o16.2.1.2.2.1,o16.2.1.2.2.2.1,o16.2.1.2.2.2.2),(3,[],0,[],false,[(⟨o16.2.2.1.1,o16.2.2.1.2.1,o16.2.2.1.2.2.1,(⟨o16.2.2.1.2.2.2.1,[],o16.2.2.1.2.2.2.2⟩:zB),o16.2.2.2⟩:zh)])))
   else
    some (LX.out ((o16.2.1.1,o16.2.1.2.1,o16.2.1.2.2.1,o16.2.1.2.2.2.1,o16.2.1.2.2.2.2),(o16.2.2.1.1,o16.2.2.1.2.1,o16.2.2.1.2.2.1,o16.2.2.1.2.2.2.1,o16.2.2.1.2.2.2.2,o16.2.2.2)))) fun j17=>
 some (((⟨j17.2.1,j17.2.2.1,j17.2.2.2.1,(⟨j17.2.2.2.2.1,[],j17.2.2.2.2.2.1⟩:zB),j17.2.2.2.2.2.2⟩:zh),true),o16.1)
theorem R9(n:Nat)(x:zk):Le (BH n x) (Nv x):=by unfold BH Nv;exact(.bind (zG n _) fun _=>(.bind (Qr n _) fun _=>(.bind (zG n _) fun _=>(.join (.bind .rfl fun _=>(.bif (.bind .rfl fun _=>(.bind (Pq n _) fun _=>(.bind (VO n _) fun _=>(.bif .rfl (.need .rfl))))) (.bind (oQ n _) fun _=>(.bif .rfl (.need .rfl))))) fun _=>(.bind (zG n _) fun _=>(.loop (fun _=>(.bif (.bind (Qr n _) fun _=>(.bif .rfl (.bind (zG n _) fun _=>(.bind (oQ n _) fun _=>(.bif .rfl (.need (.bind (zG n _) fun _=> .rfl))))))) .rfl)) fun _=>(.join (.bif .rfl .rfl) fun _=> .rfl)))))))
def bF(n:Nat)(x:List ze):Option (zh×Int):=
 zb (vE n (x,18)) fun y1=>
 bif y1.2 != 0 then
  some ((⟨0,[],0,(⟨[],[],false⟩:zB),[]⟩:zh),y1.2)
 else
  zF (X:=Int×Str×Int×Str×Bool) (
    bif (y1.1.length:Int)==1 then
     zb (zD n (⟨x⟩:zk)) fun y2=>
     bif (y2.2.v.length:Int)==0 then
      some (LX.ret ((⟨1,[],0,(⟨[],[],false⟩:zB),[]⟩:zh),0))
     else
      some (LX.out (0,[],0,[],false))
    else
     some (LX.out (0,[],0,[],false))) fun j3=>
  bif decide ((y1.1.length:Int)>64)then
   some ((⟨0,[],0,(⟨[],[],false⟩:zB),[]⟩:zh),4)
  else
   ZK n (fun(s4:Int×(Int×Str×Int×Str×Bool)×List zh)=>
     bif decide (s4.1<(y1.1.length:Int))then
      zb (geti y1.1 s4.1) fun y5=>
      zb (BH n (⟨y5⟩:zk)) fun y6=>
      zF (X:=(Int×Str×Int×Str×Bool)×List zh×zh) (
        bif !y6.1.2 then
         some (LX.out ((s4.2.1.1,s4.2.1.2.1,s4.2.1.2.2.1,s4.2.1.2.2.2.1,s4.2.1.2.2.2.2),s4.2.2,(⟨3,[],0,(⟨[],[],false⟩:zB),[(⟨1,[],0,(⟨[],[],false⟩:zB),[(⟨4,[97,108,108],0,(⟨[],[],false⟩:zB),[]⟩:zh)]⟩:zh)]⟩:zh)))
        else
         some (LX.out ((s4.2.1.1,s4.2.1.2.1,s4.2.1.2.2.1,s4.2.1.2.2.2.1,s4.2.1.2.2.2.2),s4.2.2,(⟨y6.1.1.kind,y6.1.1.name,y6.1.1.num,y6.1.1.decl,y6.1.1.list⟩:zh)))) fun j7=>
      need (zQ j7.2.1.length 1 104)<|
      some (LO.again (w64 (s4.1+1),(j7.1.1,j7.1.2.1,j7.1.2.2.1,j7.1.2.2.2.1,j7.1.2.2.2.2),j7.2.1++[(⟨j7.2.2.kind,j7.2.2.name,j7.2.2.num,j7.2.2.decl,j7.2.2.list⟩:zh)]))
     else
      some (LO.out ((s4.2.1.1,s4.2.1.2.1,s4.2.1.2.2.1,s4.2.1.2.2.2.1,s4.2.1.2.2.2.2),s4.2.2)):Int×(Int×Str×Int×Str×Bool)×List zh->Option (LO (Int×(Int×Str×Int×Str×Bool)×List zh) ((Int×Str×Int×Str×Bool)×List zh) _)) (0,(2,[],0,[],false),[]) fun o8=>
   some ((⟨o8.1.1,o8.1.2.1,o8.1.2.2.1,(⟨o8.1.2.2.2.1,[],o8.1.2.2.2.2⟩:zB),o8.2⟩:zh),0)
theorem bY(n:Nat)(x:List ze):Le (bF n x) (Rt x):=by unfold bF Rt;exact(.bind (UY n _) fun _=>(.bif .rfl (.join (.bif (.bind (zG n _) fun _=>(.bif .rfl .rfl)) .rfl) fun _=>(.bif .rfl (.loop (fun _=>(.bif (.bind .rfl fun _=>(.bind (R9 n _) fun _=>(.join (.bif .rfl .rfl) fun _=>(.need .rfl)))) .rfl)) fun _=> .rfl)))))
def IG(n:Nat)(x:Str×Str×Int×Int):Option Bool:=
 zb (yz n x.1) fun y1=>
 zb (bF n y1) fun y2=>
 zb (xy n (⟨y2.1.kind,y2.1.name,y2.1.num,y2.1.decl,y2.1.list⟩:zh)) fun y3=>
 bif bif bif y2.2 != 0 then true else y3.2 != 0 then true else !(y3.1==x.2.1)then
  some false
 else
  ZK n (fun(s4:Int)=>
    bif decide (s4<30)then
     zb (eF n ((⟨y2.1.kind,y2.1.name,y2.1.num,y2.1.decl,y2.1.list⟩:zh),(⟨s4⟩:VEnv),[])) fun y5=>
     bif bif y5.2 != 0 then true else !(y5.1==(bif decide (s4>=x.2.2.1)then decide (s4<=x.2.2.2)else false))then
      some (LO.ret false)
     else
      some (LO.again (w64 (s4+1)))
    else
     some (LO.out ()):Int->Option (LO (Int) (Unit) _)) 0 fun o6=>
  some true
theorem U0(n:Nat)(x:Str×Str×Int×Int):Le (IG n x) (Ku x):=by unfold IG Ku;exact(.bind (RP n _) fun _=>(.bind (bY n _) fun _=>(.bind (XM n _) fun _=>(.bif .rfl (.loop (fun _=>(.bif (.bind (dY n _) fun _=>(.bif .rfl .rfl)) .rfl)) fun _=> .rfl)))))
def Hu(n:Nat)(x:List ze):Option (List ze):=
 ZK n (fun(s1:List ze)=>
   zb (zo (decide ((s1.length:Int)>0)) (geti s1 0) (default:ze)) fun y2=>
   zb (zo (decide ((s1.length:Int)>0)) (Zz ((⟨y2.token,y2.list⟩:ze),13)) (default:Bool)) fun y3=>
   bif bif decide ((s1.length:Int)>0)then y3 else false then
    need (decide (1<=(s1.length:Int)))<|
    some (LO.again (List.drop 1 s1))
   else
    some (LO.out s1):List ze->Option (LO (List ze) (List ze) _)) x fun o4=>
 some o4
theorem yE(n:Nat)(x:List ze):Le (Hu n x) (Hl x):=by unfold Hu Hl;exact(.loop (fun _=>(.bind .rfl fun _=>(.bind .rfl fun _=>(.bif (.need .rfl) .rfl)))) fun _=> .rfl)
def Ru(n:Nat)(x:List ze):Option (List ze):=
 ZK n (fun(s1:List ze)=>
   zb (zo (decide ((s1.length:Int)>0)) (geti s1 (w64 ((s1.length:Int) - 1))) (default:ze)) fun y2=>
   zb (zo (decide ((s1.length:Int)>0)) (Zz ((⟨y2.token,y2.list⟩:ze),13)) (default:Bool)) fun y3=>
   bif bif decide ((s1.length:Int)>0)then y3 else false then
    need (decide (0<=w64 ((s1.length:Int) - 1))&&decide (w64 ((s1.length:Int) - 1)<=(s1.length:Int)))<|
    some (LO.again (List.take (w64 ((s1.length:Int) - 1)).toNat s1))
   else
    some (LO.out s1):List ze->Option (LO (List ze) (List ze) _)) x fun o4=>
 some o4
theorem WF(n:Nat)(x:List ze):Le (Ru n x) (Ul x):=by unfold Ru Ul;exact(.loop (fun _=>(.bind .rfl fun _=>(.bind .rfl fun _=>(.bif (.need .rfl) .rfl)))) fun _=> .rfl)
def IE(n:Nat)(x:List ze):Option (zB×Bool):=
 zb (Hu n x) fun y1=>
 zb (Ru n y1) fun y2=>
 zb (zo (!((y2.length:Int)==0)) (geti y2 0) (default:ze)) fun y3=>
 zb (zo (!((y2.length:Int)==0)) (Zz ((⟨y3.token,y3.list⟩:ze),1)) (default:Bool)) fun y4=>
 bif bif (y2.length:Int)==0 then true else !y4 then
  some ((⟨[],[],false⟩:zB),false)
 else
  zb (geti y2 0) fun y5=>
  zF (X:=List ze×(Str×Bool)×(Str×Bool)) (
    zb (strings_HasPrefix (y5.token.text,[45,45])) fun y6=>
    bif !y6 then
     zb (QR n y5.token.text) fun y7=>
     some (LX.out (y2,([],false),(y7,false)))
    else
     some (LX.out (y2,([],false),(y5.token.text,false)))) fun j8=>
  need (decide (1<=(j8.1.length:Int)))<|
  zb (Hu n (List.drop 1 j8.1)) fun y9=>
  zb (zo (!((y9.length:Int)==0)) (geti y9 0) (default:ze)) fun y10=>
  zb (zo (!((y9.length:Int)==0)) (Zz ((⟨y10.token,y10.list⟩:ze),16)) (default:Bool)) fun y11=>
  bif bif (y9.length:Int)==0 then true else !y11 then
   some ((⟨[],[],false⟩:zB),false)
  else
   need (decide (1<=(y9.length:Int)))<|
   zb (Hu n (List.drop 1 y9)) fun y12=>
   zF (X:=List ze×(Str×Bool)×(Str×Bool)) (
     zb (zo (decide (w64 ((y12.length:Int) - 1)>0)) (geti y12 (w64 ((y12.length:Int) - 1))) (default:ze)) fun y13=>
     zb (zo (decide (w64 ((y12.length:Int) - 1)>0)) (Zz ((⟨y13.token,y13.list⟩:ze),1)) (default:Bool)) fun y14=>
     zb (zo (bif decide (w64 ((y12.length:Int) - 1)>0)then y14 else false) (geti y12 (w64 ((y12.length:Int) - 1))) (default:ze)) fun y15=>
     zb (zo (bif decide (w64 ((y12.length:Int) - 1)>0)then y14 else false) (Hm n (y15.token.text,[105,109,112,111,114,116,97,110,116])) (default:Bool)) fun y16=>
     bif bif bif decide (w64 ((y12.length:Int) - 1)>0)then y14 else false then y16 else false then
      need (decide (0<=w64 ((y12.length:Int) - 1))&&decide (w64 ((y12.length:Int) - 1)<=(y12.length:Int)))<|
      zb (Ru n (List.take (w64 ((y12.length:Int) - 1)).toNat y12)) fun y17=>
      zb (zo (decide ((y17.length:Int)>0)) (geti y17 (w64 ((y17.length:Int) - 1))) (default:ze)) fun y18=>
      zb (zo (decide ((y17.length:Int)>0)) (Il (⟨y18.token,y18.list⟩:ze)) (default:Bool)) fun y19=>
      bif bif decide ((y17.length:Int)>0)then y19 else false then
       need (decide (0<=w64 ((y17.length:Int) - 1))&&decide (w64 ((y17.length:Int) - 1)<=(y17.length:Int)))<|
       zb (Ru n (List.take (w64 ((y17.length:Int) - 1)).toNat y17)) fun y20=>
       some (LX.out (y20,(j8.2.1.1,j8.2.1.2),(j8.2.2.1,true)))
      else
       some (LX.out (y12,(j8.2.1.1,j8.2.1.2),(j8.2.2.1,j8.2.2.2)))
     else
      some (LX.out (y12,(j8.2.1.1,j8.2.1.2),(j8.2.2.1,j8.2.2.2)))) fun j21=>
   zb (uy n j21.1) fun y22=>
   zb (zo (!(y22.2 != 0)) (Su n (⟨j21.2.2.1,y22.1,j21.2.2.2⟩:zB)) (default:Int)) fun y23=>
   bif bif y22.2 != 0 then true else y23 != 0 then
    some ((⟨[],[],false⟩:zB),false)
   else
    some ((⟨j21.2.2.1,y22.1,j21.2.2.2⟩:zB),true)
theorem XW(n:Nat)(x:List ze):Le (IE n x) (Ms x):=by unfold IE Ms;exact(.bind (yE n _) fun _=>(.bind (WF n _) fun _=>(.bind .rfl fun _=>(.bind .rfl fun _=>(.bif .rfl (.bind .rfl fun _=>(.join (.bind .rfl fun _=>(.bif (.bind (Pq n _) fun _=> .rfl) .rfl)) fun _=>(.need (.bind (yE n _) fun _=>(.bind .rfl fun _=>(.bind .rfl fun _=>(.bif .rfl (.need (.bind (yE n _) fun _=>(.join (.bind .rfl fun _=>(.bind .rfl fun _=>(.bind .rfl fun _=>(.bind (.cond (ou n _)) fun _=>(.bif (.need (.bind (WF n _) fun _=>(.bind .rfl fun _=>(.bind .rfl fun _=>(.bif (.need (.bind (WF n _) fun _=> .rfl)) .rfl))))) .rfl))))) fun _=>(.bind (UM n _) fun _=>(.bind (.cond (XF n _)) fun _=>(.bif .rfl .rfl))))))))))))))))))
def JE(n:Nat)(x:List ze):Option (zB×Bool×Int):=
 zb (QU n x) fun y1=>
 bif y1 != 0 then
  some ((⟨[],[],false⟩:zB),false,y1)
 else
  zb (IE n x) fun y2=>
  some (y2.1,y2.2,0)
theorem YW(n:Nat)(x:List ze):Le (JE n x) (Ns x):=by unfold JE Ns;exact(.bind (Gm n _) fun _=>(.bif .rfl (.bind (XW n _) fun _=> .rfl)))
def QN(n:Nat)(zw:zk->Option ((zh×Bool)×zk))(x:zk):Option ((zh×Bool)×zk):=
 zb (zI x) fun y1=>
 bif y1==2 then
  zb (zJ x) fun y2=>
  some (((⟨8,[],0,(⟨[],[],false⟩:zB),[]⟩:zh),true),y2.2)
 else
  bif y1==21 then
   zb (zJ x) fun y3=>
   zb (JE n y3.1.list) fun y4=>
   bif bif y4.2.2==0 then y4.2.1 else false then
    some (((⟨7,[],0,y4.1,[]⟩:zh),true),y3.2)
   else
    zb (zw (⟨y3.1.list⟩:zk)) fun y5=>
    bif y5.1.2 then
     some (((⟨y5.1.1.kind,y5.1.1.name,y5.1.1.num,y5.1.1.decl,y5.1.1.list⟩:zh),true),y3.2)
    else
     some (((⟨8,[],0,(⟨[],[],false⟩:zB),[]⟩:zh),true),y3.2)
  else
   some (((⟨8,[],0,(⟨[],[],false⟩:zB),[]⟩:zh),false),x)
theorem yG(n:Nat)(zw cond_reader_told':zk->Option ((zh×Bool)×zk))(h_cond_reader_told: ∀z,Le (zw z) (cond_reader_told' z))(x:zk):Le (QN n zw x) (qU cond_reader_told' x):=by unfold QN qU;exact(.bind .rfl fun _=>(.bif (.bind .rfl fun _=> .rfl) (.bif (.bind .rfl fun _=>(.bind (YW n _) fun _=>(.bif .rfl (.bind (h_cond_reader_told _) fun _=>(.bif .rfl .rfl))))) .rfl)))
def PH(n:Nat)(zw:zk->Option ((zh×Bool)×zk))(x:zk):Option ((zh×Bool)×zk):=
 zb (zD n x) fun y1=>
 zb (qa n ([[110,111,116]],y1.2)) fun y2=>
 bif !(y2.1==[])then
  zb (zD n y2.2) fun y3=>
  zb (QN n zw y3.2) fun y4=>
  zb (zD n y4.2) fun y5=>
  some (((⟨3,[],0,(⟨[],[],false⟩:zB),[(⟨y4.1.1.kind,y4.1.1.name,y4.1.1.num,y4.1.1.decl,y4.1.1.list⟩:zh)]⟩:zh),bif bif y4.1.2 then y3.1 else false then(y5.2.v.length:Int)==0 else false),y5.2)
 else
  zb (QN n zw y2.2) fun y6=>
  bif !y6.1.2 then
   some (((⟨y6.1.1.kind,y6.1.1.name,y6.1.1.num,y6.1.1.decl,y6.1.1.list⟩:zh),false),y6.2)
  else
   zb (zD n y6.2) fun y7=>
   bif (y7.2.v.length:Int)==0 then
    some (((⟨y6.1.1.kind,y6.1.1.name,y6.1.1.num,y6.1.1.decl,y6.1.1.list⟩:zh),true),y7.2)
   else
    ZK n (fun(s8:Bool×zk×(Int×Str×Int×Str×Bool)×(Int×Str×Int×Str×Bool)×List zh)=>
      bif decide ((s8.2.1.v.length:Int)>0)then
       zb (qa n ([[97,110,100],[111,114]],s8.2.1)) fun y9=>
       bif bif bif (bif y9.1==[97,110,100]then 1 else bif y9.1==[111,114]then 2 else(0:Int))==0 then true else !s8.1 then true else bif s8.2.2.2.1.1 != 0 then s8.2.2.2.1.1 != (bif y9.1==[97,110,100]then 1 else bif y9.1==[111,114]then 2 else(0:Int))else false then
        some (LO.ret (((⟨s8.2.2.2.1.1,s8.2.2.2.1.2.1,s8.2.2.2.1.2.2.1,(⟨s8.2.2.2.1.2.2.2.1,[],s8.2.2.2.1.2.2.2.2⟩:zB),s8.2.2.2.2⟩:zh),false),y9.2))
       else
        zb (zD n y9.2) fun y10=>
        zb (QN n zw y10.2) fun y11=>
        bif bif !y10.1 then true else !y11.1.2 then
         some (LO.ret (((⟨bif y9.1==[97,110,100]then 1 else bif y9.1==[111,114]then 2 else(0:Int),s8.2.2.2.1.2.1,s8.2.2.2.1.2.2.1,(⟨s8.2.2.2.1.2.2.2.1,[],s8.2.2.2.1.2.2.2.2⟩:zB),s8.2.2.2.2⟩:zh),false),y11.2))
        else
         need (zQ s8.2.2.2.2.length 1 104)<|
         zb (zD n y11.2) fun y12=>
         some (LO.again (y12.1,y12.2,(s8.2.2.1.1,s8.2.2.1.2.1,s8.2.2.1.2.2.1,s8.2.2.1.2.2.2.1,s8.2.2.1.2.2.2.2),(bif y9.1==[97,110,100]then 1 else bif y9.1==[111,114]then 2 else(0:Int),s8.2.2.2.1.2.1,s8.2.2.2.1.2.2.1,s8.2.2.2.1.2.2.2.1,s8.2.2.2.1.2.2.2.2),s8.2.2.2.2++[(⟨y11.1.1.kind,y11.1.1.name,y11.1.1.num,y11.1.1.decl,y11.1.1.list⟩:zh)]))
      else
       some (LO.out (s8.2.1,(s8.2.2.1.1,s8.2.2.1.2.1,s8.2.2.1.2.2.1,s8.2.2.1.2.2.2.1,s8.2.2.1.2.2.2.2),(s8.2.2.2.1.1,s8.2.2.2.1.2.1,s8.2.2.2.1.2.2.1,s8.2.2.2.1.2.2.2.1,s8.2.2.2.1.2.2.2.2),s8.2.2.2.2)):Bool×zk×(Int×Str×Int×Str×Bool)×(Int×Str×Int×Str×Bool)×List zh->Option (LO (Bool×zk×(Int×Str×Int×Str×Bool)×(Int×Str×Int×Str×Bool)×List zh) (zk×(Int×Str×Int×Str×Bool)×(Int×Str×Int×Str×Bool)×List zh) _)) (y7.1,y7.2,(0,[],0,[],false),(0,[],0,[],false),[(⟨y6.1.1.kind,y6.1.1.name,y6.1.1.num,y6.1.1.decl,y6.1.1.list⟩:zh)]) fun o13=>
    some (((⟨o13.2.2.1.1,o13.2.2.1.2.1,o13.2.2.1.2.2.1,(⟨o13.2.2.1.2.2.2.1,[],o13.2.2.1.2.2.2.2⟩:zB),o13.2.2.2⟩:zh),true),o13.1)
def BQ(n:Nat):zk->Option ((zh×Bool)×zk):=Ef (PH n) n
theorem T9(n:Nat)(zw cond_reader_told':zk->Option ((zh×Bool)×zk))(h_cond_reader_told: ∀z,Le (zw z) (cond_reader_told' z))(x:zk):Le (PH n zw x) (QO cond_reader_told' x):=by unfold PH QO;exact(.bind (zG n _) fun _=>(.bind (Qr n _) fun _=>(.bif (.bind (zG n _) fun _=>(.bind (yG n _ _ h_cond_reader_told _) fun _=>(.bind (zG n _) fun _=> .rfl))) (.bind (yG n _ _ h_cond_reader_told _) fun _=>(.bif .rfl (.bind (zG n _) fun _=>(.bif .rfl (.loop (fun _=>(.bif (.bind (Qr n _) fun _=>(.bif .rfl (.bind (zG n _) fun _=>(.bind (yG n _ _ h_cond_reader_told _) fun _=>(.bif .rfl (.need (.bind (zG n _) fun _=> .rfl))))))) .rfl)) fun _=> .rfl))))))))
theorem C9(n:Nat)(x:zk):Le (BQ n x) (zw x):=Le.rec (fun S S' h x=>T9 n S S' h x) n x
def gG(n:Nat)(x:List ze):Option (zh×Int):=
 zb (QU n x) fun y1=>
 bif y1 != 0 then
  some ((⟨0,[],0,(⟨[],[],false⟩:zB),[]⟩:zh),y1)
 else
  zb (BQ n (⟨x⟩:zk)) fun y2=>
  zb (zo (!(!y2.1.2)) (qZ n (⟨y2.1.1.kind,y2.1.1.name,y2.1.1.num,y2.1.1.decl,y2.1.1.list⟩:zh)) (default:Int)) fun y3=>
  bif bif !y2.1.2 then true else y3 != 0 then
   some ((⟨0,[],0,(⟨[],[],false⟩:zB),[]⟩:zh),12)
  else
   some ((⟨y2.1.1.kind,y2.1.1.name,y2.1.1.num,y2.1.1.decl,y2.1.1.list⟩:zh),0)
theorem A7(n:Nat)(x:List ze):Le (gG n x) (tu x):=by unfold gG tu;exact(.bind (Gm n _) fun _=>(.bif .rfl (.bind (C9 n _) fun _=>(.bind (.cond (JH n _)) fun _=>(.bif .rfl .rfl)))))
def sG(n:Nat)(Zq:(zh×Int)×Int×List Bool->Option (Bool×Int))(x:(zh×Int)×Int×List Bool):Option (Bool×Int):=
 bif x.1.1.kind==4 then
  some (bif x.1.1.name==[97,108,108]then true else x.1.1.name==[115,99,114,101,101,110],x.2.1)
 else
  bif x.1.1.kind==5 then
   some (decide (x.1.2>=x.1.1.num),x.2.1)
  else
   bif x.1.1.kind==6 then
    some (decide (x.1.2<=x.1.1.num),x.2.1)
   else
    bif x.1.1.kind==7 then
     zb (Kq (x.2.1,x.2.2)) fun y1=>
     some (y1.1,y1.2)
    else
     bif x.1.1.kind==8 then
      some (false,x.2.1)
     else
      ZK n (fun(s2:(Bool×Bool×Int)×Int)=>
        bif decide (s2.1.2.2<(x.1.1.list.length:Int))then
         zb (geti x.1.1.list s2.1.2.2) fun y3=>
         zb (Zq (((⟨y3.kind,y3.name,y3.num,y3.decl,y3.list⟩:zh),x.1.2),s2.2,x.2.2)) fun y4=>
         some (LO.again ((bif s2.1.1 then y4.1 else false,bif s2.1.2.1 then true else y4.1,w64 (s2.1.2.2+1)),y4.2))
        else
         some (LO.out ((s2.1.1,s2.1.2.1),s2.2)):(Bool×Bool×Int)×Int->Option (LO ((Bool×Bool×Int)×Int) ((Bool×Bool)×Int) _)) ((true,false,0),x.2.1) fun o5=>
      bif x.1.1.kind==1 then
       some (o5.1.1,o5.2)
      else
       bif x.1.1.kind==2 then
        some (o5.1.2,o5.2)
       else
        some (!o5.1.2,o5.2)
def YO(n:Nat):(zh×Int)×Int×List Bool->Option (Bool×Int):=Ef (sG n) n
theorem F7(n:Nat)(Zq cond_holds_2':(zh×Int)×Int×List Bool->Option (Bool×Int))(h_cond_holds_2: ∀z,Le (Zq z) (cond_holds_2' z))(x:(zh×Int)×Int×List Bool):Le (sG n Zq x) (Q0 cond_holds_2' x):=by unfold sG Q0;exact(.bif .rfl (.bif .rfl (.bif .rfl (.bif (.bind .rfl fun _=> .rfl) (.bif .rfl (.loop (fun _=>(.bif (.bind .rfl fun _=>(.bind (h_cond_holds_2 _) fun _=> .rfl)) .rfl)) fun _=>(.bif .rfl (.bif .rfl .rfl))))))))
theorem M5(n:Nat)(x:(zh×Int)×Int×List Bool):Le (YO n x) (Zq x):=Le.rec (fun S S' h x=>F7 n S S' h x) n x
def gz(n:Nat)(x:(zh×VEnv)×List Bool):Option (Bool×Int):=
 zb (Uu n (⟨x.1.1.kind,x.1.1.name,x.1.1.num,x.1.1.decl,x.1.1.list⟩:zh)) fun y1=>
 bif y1 != 0 then
  some (false,y1)
 else
  zb (zo (!(bif decide (x.1.2.width<0)then true else decide (x.1.2.width>1000000000))) (Jz n (⟨x.1.1.kind,x.1.1.name,x.1.1.num,x.1.1.decl,x.1.1.list⟩:zh)) (default:List zB)) fun y2=>
  bif bif bif decide (x.1.2.width<0)then true else decide (x.1.2.width>1000000000)then true else(x.2.length:Int) != (y2.length:Int)then
   some (false,2)
  else
   zb (YO n (((⟨x.1.1.kind,x.1.1.name,x.1.1.num,x.1.1.decl,x.1.1.list⟩:zh),w64 (1000*x.1.2.width)),0,x.2)) fun y3=>
   some (y3.1,0)
theorem VP(n:Nat)(x:(zh×VEnv)×List Bool):Le (gz n x) (qF x):=by unfold gz qF;exact(.bind (aF n _) fun _=>(.bif .rfl (.bind (.cond (YF n _)) fun _=>(.bif .rfl (.bind (M5 n _) fun _=> .rfl)))))
def oG(n:Nat)(x:Str×Str×Bool×Bool):Option Bool:=
 zb (yz n x.1) fun y1=>
 zb (gG n y1) fun y2=>
 zb (xy n (⟨y2.1.kind,y2.1.name,y2.1.num,y2.1.decl,y2.1.list⟩:zh)) fun y3=>
 zb (fF n (⟨y2.1.kind,y2.1.name,y2.1.num,y2.1.decl,y2.1.list⟩:zh)) fun y4=>
 bif bif bif bif y2.2 != 0 then true else y3.2 != 0 then true else y4.2 != 0 then true else !(y3.1==x.2.1)then
  some false
 else
  need (decide (0<=(y4.1.length:Int))&&decide ((y4.1.length:Int)<=(y4.1.length:Int))&&decide ((y4.1.length:Int)*1<=140737488355328)&&decide ((y4.1.length:Int)<=9223372036854775807))<|
  zb (gz n (((⟨y2.1.kind,y2.1.name,y2.1.num,y2.1.decl,y2.1.list⟩:zh),(⟨0⟩:VEnv)),List.replicate (Int.toNat (y4.1.length:Int)) false)) fun y5=>
  ZK n (fun(s6:Int×List Bool)=>
    bif decide (s6.1<(s6.2.length:Int))then
     need (decide (0<=s6.1)&&decide (s6.1<(s6.2.length:Int)))<|
     zb s6.2[s6.1.toNat]? fun y7=>
     some (LO.again (w64 (s6.1+1),List.set s6.2 s6.1.toNat true))
    else
     some (LO.out s6.2):Int×List Bool->Option (LO (Int×List Bool) (List Bool) _)) (0,List.replicate (Int.toNat (y4.1.length:Int)) false) fun o8=>
  zb (gz n (((⟨y2.1.kind,y2.1.name,y2.1.num,y2.1.decl,y2.1.list⟩:zh),(⟨0⟩:VEnv)),o8)) fun y9=>
  some (bif bif bif y5.2==0 then y9.2==0 else false then y5.1==x.2.2.2 else false then y9.1==x.2.2.1 else false)
theorem D8(n:Nat)(x:Str×Str×Bool×Bool):Le (oG n x) (pu x):=by unfold oG pu;exact(.bind (RP n _) fun _=>(.bind (A7 n _) fun _=>(.bind (XM n _) fun _=>(.bind (eY n _) fun _=>(.bif .rfl (.need (.bind (VP n _) fun _=>(.loop (fun _=>(.bif (.need (.bind .rfl fun _=> .rfl)) .rfl)) fun _=>(.bind (VP n _) fun _=> .rfl)))))))))
def kN(n:Nat)(x:Unit):Option Bool:=
 zb (IG n ([83,99,114,101,101,110,32,65,78,68,32,40,109,105,110,45,119,105,100,116,104,58,49,48,46,53,112,120,41,44,32,40,102,111,111,41],[115,99,114,101,101,110,32,97,110,100,32,40,109,105,110,45,119,105,100,116,104,58,32,49,48,46,53,112,120,41,44,32,110,111,116,32,97,108,108],11,99)) fun y1=>
 zb (zo y1 (oG n ([110,111,116,32,40,40,97,58,98,41,32,111,114,32,40,99,41,41],[110,111,116,32,40,40,97,58,32,98,41,32,111,114,32,40,117,110,107,110,111,119,110,41,41],false,true)) (default:Bool)) fun y2=>
 some (bif y1 then y2 else false)
theorem X0(n:Nat)(x:Unit):Le (kN n x) (di x):=by unfold kN di;exact(.bind (U0 n _) fun _=>(.bind (.cond (D8 n _)) fun _=> .rfl))
end
end Go.Lv.VT
