/- Texts that compute. -/
import Derived.Test.YtkecjfeffabgiaaGreatDoorTx
import Derived.Test.YtkecjfeffabgiaaGreatDoorLf
set_option linter.unusedSimpArgs false
set_option linter.unusedVariables false
namespace Go.Lv.VT
noncomputable section
set_option maxRecDepth 100000
def yu(n:Nat)(Z6:List zg×Int->Option zD)(x:List zg×Int):Option zD:=
 ZP n (fun(s1:Int×zD)=>
   bif decide (s1.1<(x.1.length:Int))then
    zR (X:=Int×zD) (
      zb (geti x.1 s1.1) fun y2=>
      zb (Qo y2.token.kind) fun y3=>
      zR (X:=zD) (
        bif bif bif x.2 != 0 then y2.token.kind==x.2 else false then true else bif y3==0 then decide ((y2.list.length:Int)>0)else false then
         some (LX.out (⟨s1.2.depth,w64 (s1.2.tokens+1),true⟩:zD))
        else
         some (LX.out (⟨s1.2.depth,w64 (s1.2.tokens+1),s1.2.bad⟩:zD))) fun j4=>
      bif y3==0 then
       some (LX.out (s1.1,j4))
      else
       zb (Z6 (y2.list,y3)) fun y5=>
       some (LX.out (s1.1,(⟨if w64 (y5.depth+1)>j4.depth then w64 (y5.depth+1)else j4.depth,w64 (w64 (j4.tokens+y5.tokens)+1),bif j4.bad then true else y5.bad⟩:zD)))) fun j6=>
    some (LO.again (w64 (j6.1+1),j6.2))
   else
    some (LO.out s1.2):Int×zD->Option (LO (Int×zD) (zD) _)) (0,(⟨0,0,false⟩:zD)) fun o7=>
 some o7
def cu(n:Nat):List zg×Int->Option zD:=Gd (yu n) n
theorem kK(n:Nat)(Z6 nest_look':List zg×Int->Option zD)(h_nest_look: ∀z,Le (Z6 z) (nest_look' z))(x:List zg×Int):Le (yu n Z6 x) (jk nest_look' x):=by unfold yu jk;exact(.loop (fun _=>(.bif (.join (.bind .rfl fun _=>(.bind .rfl fun _=>(.join (.bif .rfl .rfl) fun _=>(.bif .rfl (.bind (h_nest_look _) fun _=> .rfl))))) fun _=> .rfl) .rfl)) fun _=> .rfl)
theorem NB(n:Nat)(x:List zg×Int):Le (cu n x) (Z6 x):=Le.rec (fun S S' h x=>kK n S S' h x) n x
def Qh(n:Nat)(x:List zg):Option Int:=
 zb (cu n (x,0)) fun y1=>
 bif decide (y1.depth>16)then
  some 20
 else
  bif decide (y1.tokens>1500)then
   some 4
  else
   bif y1.bad then
    some 8
   else
    some 0
theorem QJ(n:Nat)(x:List zg):Le (Qh n x) (ZA x):=by unfold Qh ZA;exact(.bind (NB n _) fun _=>(.bif .rfl (.bif .rfl (.bif .rfl .rfl))))
def ou(n:Nat)(x:List zg):Option (Int×Int):=
 zb (Qh n x) fun y1=>
 bif y1 != 0 then
  some (0,y1)
 else
  zb (cu n (x,0)) fun y2=>
  some (y2.depth,0)
theorem cK(n:Nat)(x:List zg):Le (ou n x) (Mk x):=by unfold ou Mk;exact(.bind (QJ n _) fun _=>(.bif .rfl (.bind (NB n _) fun _=> .rfl)))
def Nw(n:Nat)(Zw:List zg×List zk->Option (List zk))(x:List zg×List zk):Option (List zk):=
 ZP n (fun(s1:Int×List zk)=>
   bif decide (s1.1<(x.1.length:Int))then
    zR (X:=Int×List zk) (
      zb (geti x.1 s1.1) fun y2=>
      need (zO s1.2.length 1 56)<|
      zb (Qo y2.token.kind) fun y3=>
      bif y3 != 0 then
       zb (Zw (y2.list,s1.2++[y2.token])) fun y4=>
       need (zO y4.length 1 56)<|
       some (LX.out (s1.1,y4++[(⟨y3,[],0,[],false⟩:zk)]))
      else
       some (LX.out (s1.1,s1.2++[y2.token]))) fun j5=>
    some (LO.again (w64 (j5.1+1),j5.2))
   else
    some (LO.out s1.2):Int×List zk->Option (LO (Int×List zk) (List zk) _)) (0,x.2) fun o6=>
 some o6
def uB(n:Nat):List zg×List zk->Option (List zk):=Gd (Nw n) n
theorem JL(n:Nat)(Zw nest_flat_3':List zg×List zk->Option (List zk))(h_nest_flat_3: ∀z,Le (Zw z) (nest_flat_3' z))(x:List zg×List zk):Le (Nw n Zw x) (uk nest_flat_3' x):=by unfold Nw uk;exact(.loop (fun _=>(.bif (.join (.bind .rfl fun _=>(.need (.bind .rfl fun _=>(.bif (.bind (h_nest_flat_3 _) fun _=>(.need .rfl)) .rfl)))) fun _=> .rfl) .rfl)) fun _=> .rfl)
theorem YL(n:Nat)(x:List zg×List zk):Le (uB n x) (Zw x):=Le.rec (fun S S' h x=>JL n S S' h x) n x
def mo(n:Nat)(x:List zg):Option (List zk):=
 ZP n (fun(s1:Int×List zk)=>
   bif decide (s1.1<(x.length:Int))then
    zR (X:=Int×List zk) (
      zb (geti x s1.1) fun y2=>
      need (zO s1.2.length 1 56)<|
      zb (Qo y2.token.kind) fun y3=>
      bif y3 != 0 then
       zb (uB n (y2.list,s1.2++[y2.token])) fun y4=>
       need (zO y4.length 1 56)<|
       some (LX.out (s1.1,y4++[(⟨y3,[],0,[],false⟩:zk)]))
      else
       some (LX.out (s1.1,s1.2++[y2.token]))) fun j5=>
    some (LO.again (w64 (j5.1+1),j5.2))
   else
    some (LO.out s1.2):Int×List zk->Option (LO (Int×List zk) (List zk) _)) (0,[]) fun o6=>
 some o6
theorem nC(n:Nat)(x:List zg):Le (mo n x) (Q9 x):=by unfold mo Q9;exact(.loop (fun _=>(.bif (.join (.bind .rfl fun _=>(.need (.bind .rfl fun _=>(.bif (.bind (YL n _) fun _=>(.need .rfl)) .rfl)))) fun _=> .rfl) .rfl)) fun _=> .rfl)
def fu(n:Nat)(x:List zg):Option (List zk×Int):=
 zb (Qh n x) fun y1=>
 bif y1 != 0 then
  some ([],y1)
 else
  zb (mo n x) fun y2=>
  some (y2,0)
theorem XK(n:Nat)(x:List zg):Le (fu n x) (Tj x):=by unfold fu Tj;exact(.bind (QJ n _) fun _=>(.bif .rfl (.bind (nC n _) fun _=> .rfl)))
def Qe(n:Nat)(x:Str):Option Str:=
 need (decide (x.length<=maxLen))<|
 ZP n (fun(s1:Int×List UInt8)=>
   bif decide (s1.1<(x.length:Int))then
    zR (X:=Int×List UInt8) (
      need (decide (0<=s1.1)&&decide (s1.1<(s1.2.length:Int)))<|
      zb s1.2[s1.1.toNat]? fun y2=>
      bif bif decide (65<=(y2.toNat:Int))then decide ((y2.toNat:Int)<=90)else false then
       need (decide (0<=s1.1)&&decide (s1.1<(s1.2.length:Int)))<|
       zb s1.2[s1.1.toNat]? fun y3=>
       need (decide (0<=s1.1)&&decide (s1.1<(s1.2.length:Int)))<|
       zb s1.2[s1.1.toNat]? fun y4=>
       zb (qA (ibOr IntKind.u8 (y3.toNat:Int) 32)) fun y5=>
       some (LX.out (s1.1,List.set s1.2 s1.1.toNat y5))
      else
       some (LX.out (s1.1,s1.2))) fun j6=>
    some (LO.again (w64 (j6.1+1),j6.2))
   else
    some (LO.out s1.2):Int×List UInt8->Option (LO (Int×List UInt8) (List UInt8) _)) (0,x) fun o7=>
 some o7
theorem QS(n:Nat)(x:Str):Le (Qe n x) (ZJ x):=by unfold Qe ZJ;exact(.need (.loop (fun _=>(.bif (.join (.need (.bind .rfl fun _=>(.bif (.need (.bind .rfl fun _=>(.need (.bind .rfl fun _=>(.bind .rfl fun _=> .rfl))))) .rfl))) fun _=> .rfl) .rfl)) fun _=> .rfl))
def wu(n:Nat)(x:Str):Option Bool:=
 zb (zt (!(bif x==[]then true else decide ((x.length:Int)>64))) (strings_IndexByte (x,0)) (default:Int)) fun y1=>
 bif bif bif x==[]then true else decide ((x.length:Int)>64)then true else decide (y1>=0)then
  some false
 else
  zb (strings_HasPrefix (x,[45,45])) fun y2=>
  bif y2 then
   some (!(x==[45,45]))
  else
   zb (Qe n x) fun y3=>
   some (x==y3)
theorem fK(n:Nat)(x:Str):Le (wu n x) (Ik x):=by unfold wu Ik;exact(.bind .rfl fun _=>(.bif .rfl (.bind .rfl fun _=>(.bif .rfl (.bind (QS n _) fun _=> .rfl)))))
def QH(n:Nat)(x:Str×Str):Option Bool:=
 zb (Qe n x.1) fun y1=>
 zb (Qe n x.2) fun y2=>
 some (y1==y2)
theorem Rl(n:Nat)(x:Str×Str):Le (QH n x) (ZW x):=by unfold QH ZW;exact(.bind (QS n _) fun _=>(.bind (QS n _) fun _=> .rfl))
def Mo(n:Nat)(x:List zk):Option Int:=
 zb (geti x 0) fun y1=>
 bif bif y1.kind==9 then y1.text==[92]else false then
  zb (QF ((1,13),x)) fun y2=>
  bif !y2 then
   some 0
  else
   some 2
 else
  zb (zt (y1.kind==2) (QH n (y1.text,[117,114,108])) (default:Bool)) fun y3=>
  bif bif y1.kind==2 then y3 else false then
   zR (X:=Int) (
     zb (QF ((1,13),x)) fun y4=>
     bif y4 then
      some (LX.out 2)
     else
      some (LX.out 1)) fun j5=>
   zb (QF ((j5,5),x)) fun y6=>
   bif !y6 then
    some 0
   else
    some (w64 (j5+1))
  else
   some 1
theorem vB(n:Nat)(x:List zk):Le (Mo n x) (og x):=by unfold Mo og;exact(.bind .rfl fun _=>(.bif (.bind .rfl fun _=>(.bif .rfl .rfl)) (.bind (.cond (Rl n _)) fun _=>(.bif (.join (.bind .rfl fun _=>(.bif .rfl .rfl)) fun _=>(.bind .rfl fun _=>(.bif .rfl .rfl))) .rfl))))
def Oo(n:Nat)(x:List zk):Option Int:=
 bif decide ((x.length:Int)>1500)then
  some 4
 else
  ZP n (fun(s1:Int)=>
    bif decide (s1<(x.length:Int))then
     zb (geti x s1) fun y2=>
     zb (bn y2) fun y3=>
     need (decide (0<=s1)&&decide (s1<=(x.length:Int))|| !(!(!y3)))<|
     zb (zt (!(!y3)) (Mo n (List.drop s1.toNat x)) (default:Int)) fun y4=>
     bif bif !y3 then true else y4==0 then
      some (LO.ret 8)
     else
      some (LO.again (w64 (s1+1)))
    else
     some (LO.out ()):Int->Option (LO (Int) (Unit) _)) 0 fun o5=>
  some 0
theorem wB(n:Nat)(x:List zk):Le (Oo n x) (pg x):=by unfold Oo pg;exact(.bif .rfl (.loop (fun _=>(.bif (.bind .rfl fun _=>(.bind .rfl fun _=>(.need (.bind (.cond (vB n _)) fun _=>(.bif .rfl .rfl))))) .rfl)) fun _=> .rfl))
def Xw(n:Nat)(zo:List zg->Option Bool)(x:zg):Option Bool:=
 zb (ZG ((⟨x.token,x.list⟩:zg),20)) fun y1=>
 zb (zt (!y1) (ZG ((⟨x.token,x.list⟩:zg),22)) (default:Bool)) fun y2=>
 zb (zt (!(bif y1 then true else y2)) (ZG ((⟨x.token,x.list⟩:zg),24)) (default:Bool)) fun y3=>
 zb (zt (!(bif bif y1 then true else y2 then true else y3)) (zo x.list) (default:Bool)) fun y4=>
 some (bif bif bif y1 then true else y2 then true else y3 then true else y4)
theorem LM(n:Nat)(zo decl_closers':List zg->Option Bool)(h_decl_closers: ∀z,Le (zo z) (decl_closers' z))(x:zg):Le (Xw n zo x) (Ul decl_closers' x):=by unfold Xw Ul;exact(.bind .rfl fun _=>(.bind .rfl fun _=>(.bind .rfl fun _=>(.bind (.cond (h_decl_closers _)) fun _=> .rfl))))
def QB(n:Nat)(zo:List zg->Option Bool)(x:List zg):Option Int:=
 ZP n (fun(s1:Int)=>
   bif decide (s1<(x.length:Int))then
    zb (geti x s1) fun y2=>
    zb (Xw n zo (⟨y2.token,y2.list⟩:zg)) fun y3=>
    bif y3 then
     some (LO.ret s1)
    else
     some (LO.again (w64 (s1+1)))
   else
    some (LO.out ()):Int->Option (LO (Int) (Unit) _)) 0 fun o4=>
 some (-1)
theorem UN(n:Nat)(zo decl_closers':List zg->Option Bool)(h_decl_closers: ∀z,Le (zo z) (decl_closers' z))(x:List zg):Le (QB n zo x) (ZR decl_closers' x):=by unfold QB ZR;exact(.loop (fun _=>(.bif (.bind .rfl fun _=>(.bind (LM n _ _ h_decl_closers _) fun _=>(.bif .rfl .rfl))) .rfl)) fun _=> .rfl)
def qJ(n:Nat)(zo:List zg->Option Bool)(x:List zg):Option Bool:=
 zb (QB n zo x) fun y1=>
 some (decide (y1>=0))
theorem iN(n:Nat)(zo decl_closers':List zg->Option Bool)(h_decl_closers: ∀z,Le (zo z) (decl_closers' z))(x:List zg):Le (qJ n zo x) (Zq decl_closers' x):=by unfold qJ Zq;exact(.bind (UN n _ _ h_decl_closers _) fun _=> .rfl)
def Ww(n:Nat)(zo:List zg->Option Bool)(x:List zg):Option Bool:=
 zb (qJ n zo x) fun y1=>
 some y1
def vC(n:Nat):List zg->Option Bool:=Gd (Ww n) n
theorem xL(n:Nat)(zo decl_closers':List zg->Option Bool)(h_decl_closers: ∀z,Le (zo z) (decl_closers' z))(x:List zg):Le (Ww n zo x) (Sl decl_closers' x):=by unfold Ww Sl;exact(.bind (iN n _ _ h_decl_closers _) fun _=> .rfl)
theorem GL(n:Nat)(x:List zg):Le (vC n x) (zo x):=Le.rec (fun S S' h x=>xL n S S' h x) n x
def qR(n:Nat)(x:List zg):Option Int:=
 ZP n (fun(s1:Int)=>
   bif decide (s1<(x.length:Int))then
    zb (geti x s1) fun y2=>
    zb (Po (⟨y2.token,y2.list⟩:zg)) fun y3=>
    bif y3 then
     some (LO.ret s1)
    else
     some (LO.again (w64 (s1+1)))
   else
    some (LO.out ()):Int->Option (LO (Int) (Unit) _)) 0 fun o4=>
 some (-1)
theorem jN(n:Nat)(x:List zg):Le (qR n x) (ZC x):=by unfold qR ZC;exact(.loop (fun _=>(.bif (.bind .rfl fun _=>(.bind .rfl fun _=>(.bif .rfl .rfl))) .rfl)) fun _=> .rfl)
def qi(n:Nat)(x:List zg):Option Bool:=
 zb (qR n x) fun y1=>
 some (decide (y1>=0))
theorem uN(n:Nat)(x:List zg):Le (qi n x) (Zi x):=by unfold qi Zi;exact(.bind (jN n _) fun _=> .rfl)
def Dl(n:Nat)(x:zF):Option Int:=
 zb (fu n x.value) fun y1=>
 zb (wu n x.name) fun y2=>
 zb (zt (!(bif !y2 then true else y1.2 != 0)) (Oo n y1.1) (default:Int)) fun y3=>
 zb (zt (!(bif bif !y2 then true else y1.2 != 0 then true else y3 != 0)) (vC n x.value) (default:Bool)) fun y4=>
 bif bif bif bif !y2 then true else y1.2 != 0 then true else y3 != 0 then true else y4 then
  some 8
 else
  zb (qi n x.value) fun y5=>
  bif y5 then
   some 8
  else
   zb (zt ((x.value.length:Int)==0) (strings_HasPrefix (x.name,[45,45])) (default:Bool)) fun y6=>
   zb (zt (decide ((x.value.length:Int)>0)&& !(bif (x.value.length:Int)==0 then !y6 else false)) (geti x.value 0) (default:zg)) fun y7=>
   zb (zt (decide ((x.value.length:Int)>0)&& !(bif (x.value.length:Int)==0 then !y6 else false)) (ZG ((⟨y7.token,y7.list⟩:zg),13)) (default:Bool)) fun y8=>
   zb (zt (!y8&&(decide ((x.value.length:Int)>0)&& !(bif (x.value.length:Int)==0 then !y6 else false))) (geti x.value (w64 ((x.value.length:Int) - 1))) (default:zg)) fun y9=>
   zb (zt (!y8&&(decide ((x.value.length:Int)>0)&& !(bif (x.value.length:Int)==0 then !y6 else false))) (ZG ((⟨y9.token,y9.list⟩:zg),13)) (default:Bool)) fun y10=>
   bif bif bif (x.value.length:Int)==0 then !y6 else false then true else bif decide ((x.value.length:Int)>0)then bif y8 then true else y10 else false then
    some 8
   else
    some 0
theorem Bv(n:Nat)(x:zF):Le (Dl n x) (Vf x):=by unfold Dl Vf;exact(.bind (XK n _) fun _=>(.bind (fK n _) fun _=>(.bind (.cond (wB n _)) fun _=>(.bind (.cond (GL n _)) fun _=>(.bif .rfl (.bind (uN n _) fun _=>(.bif .rfl (.bind .rfl fun _=>(.bind .rfl fun _=>(.bind .rfl fun _=>(.bind .rfl fun _=>(.bind .rfl fun _=>(.bif .rfl .rfl)))))))))))))
def Mv(n:Nat)(qD:zh×Int->Option ((Int×Bool)×Int))(x:zh×Int):Option ((Int×Bool)×Int):=
 bif decide (w64 (x.2+1)>1500)then
  some ((0,false),w64 (x.2+1))
 else
  bif x.1.kind==7 then
   zb (ou n x.1.decl.value) fun y1=>
   zb (zt (bif bif bif (x.1.list.length:Int)==0 then x.1.name==[]else false then x.1.num==0 else false then y1.2==0 else false) (Dl n x.1.decl) (default:Int)) fun y2=>
   some ((w64 (y1.1+1),bif bif bif bif (x.1.list.length:Int)==0 then x.1.name==[]else false then x.1.num==0 else false then y1.2==0 else false then y2==0 else false),w64 (x.2+1))
  else
   bif x.1.kind==8 then
    zb (zt ((x.1.list.length:Int)==0) (Z4 (⟨x.1.kind,x.1.name,x.1.num,x.1.decl,x.1.list⟩:zh)) (default:Bool)) fun y3=>
    some ((1,bif (x.1.list.length:Int)==0 then y3 else false),w64 (x.2+1))
   else
    zR (X:=Bool) (
      bif x.1.kind==3 then
       some (LX.out (x.1.kind==3))
      else
       bif x.1.kind==1 then
        some (LX.out (x.1.kind==1))
       else
        some (LX.out (x.1.kind==2))) fun j4=>
    bif j4 then
     zb (Z4 (⟨x.1.kind,x.1.name,x.1.num,x.1.decl,x.1.list⟩:zh)) fun y5=>
     bif bif bif !y5 then true else bif x.1.kind==3 then(x.1.list.length:Int) != 1 else false then true else bif x.1.kind != 3 then decide ((x.1.list.length:Int)<2)else false then
      some ((0,false),w64 (x.2+1))
     else
      ZP n (fun(s6:(Int×Int)×Int)=>
        bif decide (s6.1.2<(x.1.list.length:Int))then
         zb (geti x.1.list s6.1.2) fun y7=>
         zb (qD ((⟨y7.kind,y7.name,y7.num,y7.decl,y7.list⟩:zh),s6.2)) fun y8=>
         bif !y8.1.2 then
          some (LO.ret ((0,false),y8.2))
         else
          zR (X:=Int×Int) (
            zb (kg (⟨y7.kind,y7.name,y7.num,y7.decl,y7.list⟩:zh)) fun y9=>
            bif !y9 then
             some (LX.out (s6.1.1,w64 (y8.1.1+1)))
            else
             some (LX.out (s6.1.1,y8.1.1))) fun j10=>
          some (LO.again ((if j10.2>j10.1 then j10.2 else j10.1,w64 (s6.1.2+1)),y8.2))
        else
         some (LO.out (s6.1.1,s6.2)):(Int×Int)×Int->Option (LO ((Int×Int)×Int) (Int×Int) _)) ((0,0),w64 (x.2+1)) fun o11=>
      some ((o11.1,true),o11.2)
    else
     some ((0,false),w64 (x.2+1))
def cB(n:Nat):zh×Int->Option ((Int×Bool)×Int):=Gd (Mv n) n
theorem lK(n:Nat)(qD cond_look':zh×Int->Option ((Int×Bool)×Int))(h_cond_look: ∀z,Le (qD z) (cond_look' z))(x:zh×Int):Le (Mv n qD x) (Xk cond_look' x):=by unfold Mv Xk;exact(.bif .rfl (.bif (.bind (cK n _) fun _=>(.bind (.cond (Bv n _)) fun _=> .rfl)) (.bif (.bind .rfl fun _=> .rfl) (.join (.bif .rfl (.bif .rfl .rfl)) fun _=>(.bif (.bind .rfl fun _=>(.bif .rfl (.loop (fun _=>(.bif (.bind .rfl fun _=>(.bind (h_cond_look _) fun _=>(.bif .rfl (.join (.bind .rfl fun _=>(.bif .rfl .rfl)) fun _=> .rfl)))) .rfl)) fun _=> .rfl))) .rfl)))))
theorem MK(n:Nat)(x:zh×Int):Le (cB n x) (qD x):=Le.rec (fun S S' h x=>lK n S S' h x) n x
def Zm(n:Nat)(x:zh):Option Int:=
 zb (cB n ((⟨x.kind,x.name,x.num,x.decl,x.list⟩:zh),0)) fun y1=>
 bif bif !y1.1.2 then true else decide (y1.1.1>16)then
  some 8
 else
  some 0
theorem Z5(n:Nat)(x:zh):Le (Zm n x) (zW x):=by unfold Zm zW;exact(.bind (MK n _) fun _=>(.bif .rfl .rfl))
def FE(n:Nat)(x:List zg):Option (List zg):=need (zO 0 x.length 80) (some x)
theorem gM(n:Nat)(x):Le (FE n x) (QY x):=by
 cases x with
 |nil=> intro y hy;show both (some []) (some [])=some y;unfold both;rw[Ma rfl];exact hy
 |cons a r=>exact .rfl
def kv(n:Nat)(ZQ:List zg->Option (List zg))(x:List zg):Option (List zg):=
 zb (FE n x) fun y1=>
 ZP n (fun(s2:Int×List zg)=>
   bif decide (s2.1<(y1.length:Int))then
    need (decide (0<=s2.1)&&decide (s2.1<(s2.2.length:Int)))<|
    zb s2.2[s2.1.toNat]? fun y3=>
    zb (ZQ y3.list) fun y4=>
    need (decide (0<=s2.1)&&decide (s2.1<(s2.2.length:Int)))<|
    zb s2.2[s2.1.toNat]? fun y5=>
    some (LO.again (w64 (s2.1+1),List.set s2.2 s2.1.toNat (⟨y5.token,y4⟩:zg)))
   else
    some (LO.out s2.2):Int×List zg->Option (LO (Int×List zg) (List zg) _)) (0,y1) fun o6=>
 some o6
def Jo(n:Nat):List zg->Option (List zg):=Gd (kv n) n
theorem jK(n:Nat)(ZQ nest_twin':List zg->Option (List zg))(h_nest_twin: ∀z,Le (ZQ z) (nest_twin' z))(x:List zg):Le (kv n ZQ x) (ik nest_twin' x):=by unfold kv ik;exact(.bind (gM n _) fun _=>(.loop (fun _=>(.bif (.need (.bind .rfl fun _=>(.bind (h_nest_twin _) fun _=>(.need (.bind .rfl fun _=> .rfl))))) .rfl)) fun _=> .rfl))
theorem pu(n:Nat)(x:List zg):Le (Jo n x) (ZQ x):=Le.rec (fun S S' h x=>jK n S S' h x) n x
def Co(n:Nat)(x:List zg):Option (List zg×Int):=
 zb (Qh n x) fun y1=>
 bif y1 != 0 then
  some ([],y1)
 else
  ZP n (fun(s2:Int)=>
    zb (zt (decide (s2<(x.length:Int))) (Oi (s2,x)) (default:Bool)) fun y3=>
    bif bif decide (s2<(x.length:Int))then y3 else false then
     some (LO.again (w64 (s2+1)))
    else
     some (LO.out s2):Int->Option (LO (Int) (Int) _)) 0 fun o4=>
  ZP n (fun(s5:Int)=>
    zb (zt (decide (o4<s5)) (Oi (w64 (s5 - 1),x)) (default:Bool)) fun y6=>
    bif bif decide (o4<s5)then y6 else false then
     some (LO.again (w64 (s5 - 1)))
    else
     some (LO.out s5):Int->Option (LO (Int) (Int) _)) (x.length:Int) fun o7=>
  need (decide (0<=o4)&&(decide (o4<=o7)&&(decide (o7<=o7)&&decide (o7<=(x.length:Int))))&&decide (o7=o7))<|
  zb (Jo n (List.drop o4.toNat (List.take o7.toNat x))) fun y8=>
  some (y8,0)
theorem FC(n:Nat)(x:List zg):Le (Co n x) (ag x):=by unfold Co ag;exact(.bind (QJ n _) fun _=>(.bif .rfl (.loop (fun _=>(.bind .rfl fun _=>(.bif .rfl .rfl))) fun _=>(.loop (fun _=>(.bind .rfl fun _=>(.bif .rfl .rfl))) fun _=>(.need (.bind (pu n _) fun _=> .rfl))))))
def Dw(n:Nat)(Zk:zh->Option (List zF))(x:zh):Option (List zF):=
 bif x.kind==7 then
  zb (Co n x.decl.value) fun y1=>
  some [(⟨x.decl.name,y1.1,x.decl.important⟩:zF)]
 else
  ZP n (fun(s2:Int×List zF)=>
    bif decide (s2.1<(x.list.length:Int))then
     zb (geti x.list s2.1) fun y3=>
     zb (Zk (⟨y3.kind,y3.name,y3.num,y3.decl,y3.list⟩:zh)) fun y4=>
     need (zO s2.2.length y4.length 48)<|
     some (LO.again (w64 (s2.1+1),s2.2++y4))
    else
     some (LO.out s2.2):Int×List zF->Option (LO (Int×List zF) (List zF) _)) (0,[]) fun o5=>
  some o5
def Uo(n:Nat):zh->Option (List zF):=Gd (Dw n) n
theorem kL(n:Nat)(Zk cond_decls':zh->Option (List zF))(h_cond_decls: ∀z,Le (Zk z) (cond_decls' z))(x:zh):Le (Dw n Zk x) (Hl cond_decls' x):=by unfold Dw Hl;exact(.bif (.bind (FC n _) fun _=> .rfl) (.loop (fun _=>(.bif (.bind .rfl fun _=>(.bind (h_cond_decls _) fun _=>(.need .rfl))) .rfl)) fun _=> .rfl))
theorem Cv(n:Nat)(x:zh):Le (Uo n x) (Zk x):=Le.rec (fun S S' h x=>kL n S S' h x) n x
def Wo(n:Nat)(x:zh):Option (List zF×Int):=
 zb (Zm n (⟨x.kind,x.name,x.num,x.decl,x.list⟩:zh)) fun y1=>
 bif y1 != 0 then
  some ([],y1)
 else
  zb (Uo n (⟨x.kind,x.name,x.num,x.decl,x.list⟩:zh)) fun y2=>
  some (y2,0)
theorem yB(n:Nat)(x:zh):Le (Wo n x) (mg x):=by unfold Wo mg;exact(.bind (Z5 n _) fun _=>(.bif .rfl (.bind (Cv n _) fun _=> .rfl)))
def jw(n:Nat)(x:List Str×Str):Option Int:=
 ZP n (fun(s1:Int)=>
   bif decide (s1<(x.1.length:Int))then
    zb (geti x.1 s1) fun y2=>
    bif x.2==y2 then
     some (LO.ret s1)
    else
     some (LO.again (w64 (s1+1)))
   else
    some (LO.out ()):Int->Option (LO (Int) (Unit) _)) 0 fun o3=>
 some (-1)
theorem FN(n:Nat)(x:List Str×Str):Le (jw n x) (slices_Index_string x):=by unfold jw slices_Index_string;exact(.loop (fun _=>(.bif (.bind .rfl fun _=>(.bif .rfl .rfl)) .rfl)) fun _=> .rfl)
def QA(n:Nat)(x:List Str×Str):Option Bool:=
 zb (jw n (x.1,x.2)) fun y1=>
 some (decide (y1>=0))
theorem VN(n:Nat)(x:List Str×Str):Le (QA n x) (slices_Contains_string x):=by unfold QA slices_Contains_string;exact(.bind (FN n _) fun _=> .rfl)
def wo(n:Nat)(x:Str):Option Bool:=
 zb (QA n ([[],[97,110,100],[111,114],[110,111,116],[111,110,108,121]],x)) fun y1=>
 zb (zt (bif !y1 then decide ((x.length:Int)<=64)else false) (Qe n x) (default:Str)) fun y2=>
 zb (zt (bif bif !y1 then decide ((x.length:Int)<=64)else false then y2==x else false) (strings_IndexByte (x,0)) (default:Int)) fun y3=>
 some (bif bif bif !y1 then decide ((x.length:Int)<=64)else false then y2==x else false then decide (y3<0)else false)
theorem tC(n:Nat)(x:Str):Le (wo n x) (Bh x):=by unfold wo Bh;exact(.bind (VN n _) fun _=>(.bind (.cond (QS n _)) fun _=>(.bind .rfl fun _=> .rfl)))
def uo(n:Nat)(x:List Int):Option Int:=
 ZP n (fun(s1:Int)=>
   bif decide (s1<(x.length:Int))then
    zb (geti x s1) fun y2=>
    bif bif decide (y2<(-1000000000000))then true else decide (y2>1000000000000)then
     some (LO.ret 8)
    else
     some (LO.again (w64 (s1+1)))
   else
    some (LO.out ()):Int->Option (LO (Int) (Unit) _)) 0 fun o3=>
 some 0
theorem oC(n:Nat)(x:List Int):Le (uo n x) (yg x):=by unfold uo yg;exact(.loop (fun _=>(.bif (.bind .rfl fun _=>(.bif .rfl .rfl)) .rfl)) fun _=> .rfl)
def vo(n:Nat)(x:Int):Option Int:=
 zb (uo n [x]) fun y1=>
 some y1
theorem rC(n:Nat)(x:Int):Le (vo n x) (Ah x):=by unfold vo Ah;exact(.bind (oC n _) fun _=> .rfl)
def Ro(n:Nat)(x:zh):Option Bool:=
 zb (zt (!(x.kind != 1)) (Z4 (⟨x.kind,x.name,x.num,x.decl,x.list⟩:zh)) (default:Bool)) fun y1=>
 bif bif bif x.kind != 1 then true else !y1 then true else(x.list.length:Int)==0 then
  some false
 else
  ZP n (fun(s2:Int)=>
    bif decide (s2<(x.list.length:Int))then
     zR (X:=Int) (
       zb (geti x.list s2) fun y3=>
       zb (zt (!(decide ((y3.list.length:Int)>0))) (Z4 (⟨y3.kind,[],0,y3.decl,y3.list⟩:zh)) (default:Bool)) fun y4=>
       bif bif decide ((y3.list.length:Int)>0)then true else !y4 then
        some (LX.ret (LO.ret false))
       else
        bif y3.kind==4 then
         zb (zt (!(bif decide (s2>0)then true else y3.num != 0)) (wo n y3.name) (default:Bool)) fun y5=>
         bif bif bif decide (s2>0)then true else y3.num != 0 then true else !y5 then
          some (LX.ret (LO.ret false))
         else
          some (LX.out s2)
        else
         zR (X:=Bool) (
           bif y3.kind==5 then
            some (LX.out (y3.kind==5))
           else
            some (LX.out (y3.kind==6))) fun j6=>
         bif j6 then
          zb (zt (!(bif !(y3.name==[])then true else decide (y3.num<0))) (vo n y3.num) (default:Int)) fun y7=>
          bif bif bif !(y3.name==[])then true else decide (y3.num<0)then true else y7 != 0 then
           some (LX.ret (LO.ret false))
          else
           some (LX.out s2)
         else
          some (LX.ret (LO.ret false))) fun j8=>
     some (LO.again (w64 (j8+1)))
    else
     some (LO.out ()):Int->Option (LO (Int) (Unit) _)) 0 fun o9=>
  some true
theorem xB(n:Nat)(x:zh):Le (Ro n x) (Ii x):=by unfold Ro Ii;exact(.bind .rfl fun _=>(.bif .rfl (.loop (fun _=>(.bif (.join (.bind .rfl fun _=>(.bind .rfl fun _=>(.bif .rfl (.bif (.bind (.cond (tC n _)) fun _=>(.bif .rfl .rfl)) (.join (.bif .rfl .rfl) fun _=>(.bif (.bind (.cond (rC n _)) fun _=>(.bif .rfl .rfl)) .rfl)))))) fun _=> .rfl) .rfl)) fun _=> .rfl)))
def Su(n:Nat)(x:zh):Option Bool:=
 bif x.kind==3 then
  zb (Z4 (⟨x.kind,x.name,x.num,x.decl,x.list⟩:zh)) fun y1=>
  zb (zt (bif y1 then(x.list.length:Int)==1 else false) (geti x.list 0) (default:zh)) fun y2=>
  zb (zt (bif y1 then(x.list.length:Int)==1 else false) (Ro n (⟨y2.kind,y2.name,y2.num,y2.decl,y2.list⟩:zh)) (default:Bool)) fun y3=>
  zb (zt (bif bif y1 then(x.list.length:Int)==1 else false then y3 else false) (geti x.list 0) (default:zh)) fun y4=>
  zb (zt (bif bif y1 then(x.list.length:Int)==1 else false then y3 else false) (Ao (⟨y4.kind,y4.name,y4.num,y4.decl,y4.list⟩:zh)) (default:Bool)) fun y5=>
  some (bif bif bif y1 then(x.list.length:Int)==1 else false then y3 else false then y5 else false)
 else
  zb (Ro n (⟨x.kind,x.name,x.num,x.decl,x.list⟩:zh)) fun y6=>
  some y6
theorem NK(n:Nat)(x:zh):Le (Su n x) (yj x):=by unfold Su yj;exact(.bif (.bind .rfl fun _=>(.bind .rfl fun _=>(.bind (.cond (xB n _)) fun _=>(.bind .rfl fun _=>(.bind .rfl fun _=> .rfl))))) (.bind (xB n _) fun _=> .rfl))
def uw(n:Nat)(x:zh):Option Bool:=
 zb (Su n (⟨x.kind,x.name,x.num,x.decl,x.list⟩:zh)) fun y1=>
 some (!y1)
theorem rM(n:Nat)(x:zh):Le (uw n x) (Qw x):=by unfold uw Qw;exact(.bind (NK n _) fun _=> .rfl)
def QM(n:Nat)(x:List zh):Option Int:=
 ZP n (fun(s1:Int)=>
   bif decide (s1<(x.length:Int))then
    zb (geti x s1) fun y2=>
    zb (uw n (⟨y2.kind,y2.name,y2.num,y2.decl,y2.list⟩:zh)) fun y3=>
    bif y3 then
     some (LO.ret s1)
    else
     some (LO.again (w64 (s1+1)))
   else
    some (LO.out ()):Int->Option (LO (Int) (Unit) _)) 0 fun o4=>
 some (-1)
theorem NN(n:Nat)(x:List zh):Le (QM n x) (Z7 x):=by unfold QM Z7;exact(.loop (fun _=>(.bif (.bind .rfl fun _=>(.bind (rM n _) fun _=>(.bif .rfl .rfl))) .rfl)) fun _=> .rfl)
def qQ(n:Nat)(x:List zh):Option Bool:=
 zb (QM n x) fun y1=>
 some (decide (y1>=0))
theorem kN(n:Nat)(x:List zh):Le (qQ n x) (ZB x):=by unfold qQ ZB;exact(.bind (NN n _) fun _=> .rfl)
def Vp(n:Nat)(x:zh):Option Int:=
 zb (zt (bif bif x.kind==2 then decide ((x.list.length:Int)>0)else false then decide ((x.list.length:Int)<=64)else false) (qQ n x.list) (default:Bool)) fun y1=>
 zb (Z4 (⟨x.kind,x.name,x.num,x.decl,x.list⟩:zh)) fun y2=>
 bif bif !y2 then true else bif !(bif x.kind==1 then(x.list.length:Int)==0 else false)then !(bif bif bif x.kind==2 then decide ((x.list.length:Int)>0)else false then decide ((x.list.length:Int)<=64)else false then !y1 else false)else false then
  some 8
 else
  some 0
theorem sD(n:Nat)(x:zh):Le (Vp n x) (qC x):=by unfold Vp qC;exact(.bind (.cond (kN n _)) fun _=>(.bind .rfl fun _=>(.bif .rfl .rfl)))
def Il(n:Nat)(x:zh):Option Int:=
 zb (Vp n (⟨x.kind,x.name,x.num,x.decl,x.list⟩:zh)) fun y1=>
 bif y1 != 0 then
  zb (Zm n (⟨x.kind,x.name,x.num,x.decl,x.list⟩:zh)) fun y2=>
  some y2
 else
  some 0
theorem Dv(n:Nat)(x:zh):Le (Il n x) (Xf x):=by unfold Il Xf;exact(.bind (sD n _) fun _=>(.bif (.bind (Z5 n _) fun _=> .rfl) .rfl))
def Cw(n:Nat)(ZT:(zh×Int)×Int×List Bool->Option (Bool×Int))(x:(zh×Int)×Int×List Bool):Option (Bool×Int):=
 bif x.1.1.kind==4 then
  some (bif x.1.1.name==[97,108,108]then true else x.1.1.name==[115,99,114,101,101,110],x.2.1)
 else
  bif x.1.1.kind==5 then
   some (decide (x.1.2>=x.1.1.num),x.2.1)
  else
   bif x.1.1.kind==6 then
    some (decide (x.1.2<=x.1.1.num),x.2.1)
   else
    bif x.1.1.kind==7 then
     zb (Vo (x.2.1,x.2.2)) fun y1=>
     some (y1.1,y1.2)
    else
     bif x.1.1.kind==8 then
      some (false,x.2.1)
     else
      ZP n (fun(s2:(Bool×Bool×Int)×Int)=>
        bif decide (s2.1.2.2<(x.1.1.list.length:Int))then
         zb (geti x.1.1.list s2.1.2.2) fun y3=>
         zb (ZT (((⟨y3.kind,y3.name,y3.num,y3.decl,y3.list⟩:zh),x.1.2),s2.2,x.2.2)) fun y4=>
         some (LO.again ((bif s2.1.1 then y4.1 else false,bif s2.1.2.1 then true else y4.1,w64 (s2.1.2.2+1)),y4.2))
        else
         some (LO.out ((s2.1.1,s2.1.2.1),s2.2)):(Bool×Bool×Int)×Int->Option (LO ((Bool×Bool×Int)×Int) ((Bool×Bool)×Int) _)) ((true,false,0),x.2.1) fun o5=>
      bif x.1.1.kind==1 then
       some (o5.1.1,o5.2)
      else
       bif x.1.1.kind==2 then
        some (o5.1.2,o5.2)
       else
        some (!o5.1.2,o5.2)
def LC(n:Nat):(zh×Int)×Int×List Bool->Option (Bool×Int):=Gd (Cw n) n
theorem jL(n:Nat)(ZT cond_holds':(zh×Int)×Int×List Bool->Option (Bool×Int))(h_cond_holds: ∀z,Le (ZT z) (cond_holds' z))(x:(zh×Int)×Int×List Bool):Le (Cw n ZT x) (Gl cond_holds' x):=by unfold Cw Gl;exact(.bif .rfl (.bif .rfl (.bif .rfl (.bif (.bind .rfl fun _=> .rfl) (.bif .rfl (.loop (fun _=>(.bif (.bind .rfl fun _=>(.bind (h_cond_holds _) fun _=> .rfl)) .rfl)) fun _=>(.bif .rfl (.bif .rfl .rfl))))))))
theorem iK(n:Nat)(x:(zh×Int)×Int×List Bool):Le (LC n x) (ZT x):=Le.rec (fun S S' h x=>jL n S S' h x) n x
def qX(n:Nat)(x:zh×VEnv×List Bool):Option (Bool×Int):=
 zb (Il n (⟨x.1.kind,x.1.name,x.1.num,x.1.decl,x.1.list⟩:zh)) fun y1=>
 bif y1 != 0 then
  some (false,y1)
 else
  zb (zt (!(bif decide (x.2.1.width<0)then true else decide (x.2.1.width>1000000000))) (Uo n (⟨x.1.kind,x.1.name,x.1.num,x.1.decl,x.1.list⟩:zh)) (default:List zF)) fun y2=>
  bif bif bif decide (x.2.1.width<0)then true else decide (x.2.1.width>1000000000)then true else(x.2.2.length:Int) != (y2.length:Int)then
   some (false,2)
  else
   zb (LC n (((⟨x.1.kind,x.1.name,x.1.num,x.1.decl,x.1.list⟩:zh),w64 (1000*x.2.1.width)),0,x.2.2)) fun y3=>
   some (y3.1,0)
theorem QI(n:Nat)(x:zh×VEnv×List Bool):Le (qX n x) (qU x):=by unfold qX qU;exact(.bind (Dv n _) fun _=>(.bif .rfl (.bind (.cond (Cv n _)) fun _=>(.bif .rfl (.bind (iK n _) fun _=> .rfl)))))
def Gv(n:Nat)(x:Str×Int):Option (List UInt8):=
 ZP n (fun(s1:Int×List UInt8)=>
   bif decide (s1.1<(x.1.length:Int))then
    zR (X:=Int×List UInt8) (
      zb (geti x.1 s1.1) fun y2=>
      zb (Uf (y2.toNat:Int)) fun y3=>
      zb (zt (!(decide (s1.1>=x.2))&&y3) (qx (y2.toNat:Int)) (default:Bool)) fun y4=>
      bif bif bif y3 then bif decide (s1.1>=x.2)then true else !y4 else false then bif x.2==0 then true else !(x.1==[45])else false then
       zb (qA (y2.toNat:Int)) fun y5=>
       need (zO s1.2.length 1 1)<|
       some (LX.out (s1.1,s1.2++[y5]))
      else
       zb (Zf ((y2.toNat:Int),s1.2)) fun y6=>
       some (LX.out (s1.1,y6))) fun j7=>
    some (LO.again (w64 (j7.1+1),j7.2))
   else
    some (LO.out s1.2):Int×List UInt8->Option (LO (Int×List UInt8) (List UInt8) _)) (0,[]) fun o8=>
 some o8
theorem dL(n:Nat)(x:Str×Int):Le (Gv n x) (Rk x):=by unfold Gv Rk;exact(.loop (fun _=>(.bif (.join (.bind .rfl fun _=>(.bind .rfl fun _=>(.bind .rfl fun _=>(.bif (.bind .rfl fun _=>(.need .rfl)) (.bind .rfl fun _=> .rfl))))) fun _=> .rfl) .rfl)) fun _=> .rfl)
def Eo(n:Nat)(x:Str):Option (Str×Int):=
 zb (zt (!(x==[])) (strings_IndexByte (x,0)) (default:Int)) fun y1=>
 bif bif x==[]then true else decide (y1>=0)then
  some ([],8)
 else
  zb (ZV x) fun y2=>
  zb (Gv n (x,y2)) fun y3=>
  bif bif decide ((x.length:Int)>4000)then true else decide ((y3.length:Int)>4000)then
   some ([],28)
  else
   some (y3,0)
theorem IC(n:Nat)(x:Str):Le (Eo n x) (ig x):=by unfold Eo ig;exact(.bind .rfl fun _=>(.bif .rfl (.bind .rfl fun _=>(.bind (dL n _) fun _=>(.bif .rfl .rfl)))))
def Jv(n:Nat)(x:Int):Option (Str×Int):=
 zb (uo n [x]) fun y1=>
 bif y1 != 0 then
  some ([],y1)
 else
  zR (X:=Int) (
    bif decide (x<0)then
     some (LX.out (w64 (0 - x)))
    else
     some (LX.out x)) fun j2=>
  ZP n (fun(s3:(Int×Int)×List UInt8×Int)=>
    bif decide (s3.1.2<3)then
     zR (X:=(Int×Int)×List UInt8×Int) (
       zR (X:=Int×List UInt8×Int) (
         bif bif Int.tmod s3.1.1 10 != 0 then true else decide (s3.2.2<20)then
          zb (ZZ (wu8 (w64 (48+Int.tmod s3.1.1 10)),s3.2.2,s3.2.1)) fun y4=>
          some (LX.out (s3.1.1,y4.2,y4.1))
         else
          some (LX.out (s3.1.1,s3.2.1,s3.2.2))) fun j5=>
       bif bif s3.1.2==2 then decide (j5.2.2<20)else false then
        zb (ZZ (46,j5.2.2,j5.2.1)) fun y6=>
        some (LX.out ((w64 (Int.tdiv j5.1 10),s3.1.2),y6.2,y6.1))
       else
        some (LX.out ((w64 (Int.tdiv j5.1 10),s3.1.2),j5.2.1,j5.2.2))) fun j7=>
     some (LO.again ((j7.1.1,w64 (j7.1.2+1)),j7.2.1,j7.2.2))
    else
     some (LO.out (s3.2.1,s3.2.2)):(Int×Int)×List UInt8×Int->Option (LO ((Int×Int)×List UInt8×Int) (List UInt8×Int) _)) ((Int.tmod j2 1000,0),List.replicate 20 (0:UInt8),20) fun o8=>
  ZP n (fun(s9:Int×List UInt8×Int)=>
    zb (ZZ (wu8 (w64 (48+Int.tmod s9.1 10)),s9.2.2,s9.2.1)) fun y10=>
    bif decide (s9.1<10)then
     some (LO.out (y10.2,y10.1))
    else
     some (LO.again (w64 (Int.tdiv s9.1 10),y10.2,y10.1)):Int×List UInt8×Int->Option (LO (Int×List UInt8×Int) (List UInt8×Int) _)) (w64 (Int.tdiv j2 1000),o8.1,o8.2) fun o11=>
  zR (X:=List UInt8×Int) (
    bif decide (x<0)then
     zb (ZZ (45,o11.2,o11.1)) fun y12=>
     some (LX.out (y12.2,y12.1))
    else
     some (LX.out (o11.1,o11.2))) fun j13=>
  need (decide (0<=j13.2)&&decide (j13.2<=20)&&Nat.beq j13.1.length 20)<|
  need (decide (j13.2.toNat+(20 - j13.2.toNat)<=j13.1.length))<|
  some (List.take (20 - j13.2.toNat) (List.drop j13.2.toNat j13.1),0)
theorem gL(n:Nat)(x:Int):Le (Jv n x) (Tk x):=by unfold Jv Tk;exact(.bind (oC n _) fun _=>(.bif .rfl (.join (.bif .rfl .rfl) fun _=>(.loop (fun _=>(.bif (.join (.join (.bif (.bind .rfl fun _=> .rfl) .rfl) fun _=>(.bif (.bind .rfl fun _=> .rfl) .rfl)) fun _=> .rfl) .rfl)) fun _=>(.loop (fun _=>(.bind .rfl fun _=>(.bif .rfl .rfl))) fun _=>(.join (.bif (.bind .rfl fun _=> .rfl) .rfl) fun _=>(.need (.need .rfl))))))))
def Ho(n:Nat)(zQ:zh->Option Str)(x:List zh×Str):Option Str:=
 ZP n (fun(s1:Int×List Str)=>
   bif decide (s1.1<(x.1.length:Int))then
    zb (geti x.1 s1.1) fun y2=>
    zb (zQ (⟨y2.kind,y2.name,y2.num,y2.decl,y2.list⟩:zh)) fun y3=>
    need (zO s1.2.length 1 16)<|
    some (LO.again (w64 (s1.1+1),s1.2++[y3]))
   else
    some (LO.out s1.2):Int×List Str->Option (LO (Int×List Str) (List Str) _)) (0,[]) fun o4=>
 zb (ve (o4,x.2)) fun y5=>
 some y5
theorem JC(n:Nat)(zQ cond_media':zh->Option Str)(h_cond_media: ∀z,Le (zQ z) (cond_media' z))(x:List zh×Str):Le (Ho n zQ x) (Bi cond_media' x):=by unfold Ho Bi;exact(.loop (fun _=>(.bif (.bind .rfl fun _=>(.bind (h_cond_media _) fun _=>(.need .rfl))) .rfl)) fun _=>(.bind .rfl fun _=> .rfl))
def Kw(n:Nat)(zQ:zh->Option Str)(x:zh):Option Str:=
 bif x.kind==4 then
  zb (Eo n x.name) fun y1=>
  some y1.1
 else
  bif x.kind==3 then
   zb (geti x.list 0) fun y2=>
   zb (zQ (⟨y2.kind,y2.name,y2.num,y2.decl,y2.list⟩:zh)) fun y3=>
   need (QZ ([110,111,116,32]:Str).length y3.length)<|
   some (([110,111,116,32]:Str)++y3)
  else
   bif x.kind==2 then
    zb (Ho n zQ (x.list,[44,32])) fun y4=>
    some y4
   else
    bif x.kind==1 then
     zb (Ho n zQ (x.list,[32,97,110,100,32])) fun y5=>
     some y5
    else
     zb (Jv n x.num) fun y6=>
     bif x.kind==5 then
      need (QZ ([40,109,105,110,45,119,105,100,116,104,58,32]:Str).length y6.1.length)<|
      need (QZ (([40,109,105,110,45,119,105,100,116,104,58,32]:Str)++y6.1).length ([112,120,41]:Str).length)<|
      some (([40,109,105,110,45,119,105,100,116,104,58,32]:Str)++y6.1++([112,120,41]:Str))
     else
      need (QZ ([40,109,97,120,45,119,105,100,116,104,58,32]:Str).length y6.1.length)<|
      need (QZ (([40,109,97,120,45,119,105,100,116,104,58,32]:Str)++y6.1).length ([112,120,41]:Str).length)<|
      some (([40,109,97,120,45,119,105,100,116,104,58,32]:Str)++y6.1++([112,120,41]:Str))
def KC(n:Nat):zh->Option Str:=Gd (Kw n) n
theorem iL(n:Nat)(zQ cond_media':zh->Option Str)(h_cond_media: ∀z,Le (zQ z) (cond_media' z))(x:zh):Le (Kw n zQ x) (El cond_media' x):=by unfold Kw El;exact(.bif (.bind (IC n _) fun _=> .rfl) (.bif (.bind .rfl fun _=>(.bind (h_cond_media _) fun _=>(.need .rfl))) (.bif (.bind (JC n _ _ h_cond_media _) fun _=> .rfl) (.bif (.bind (JC n _ _ h_cond_media _) fun _=> .rfl) (.bind (gL n _) fun _=>(.bif (.need (.need .rfl)) (.need (.need .rfl))))))))
theorem gK(n:Nat)(x:zh):Le (KC n x) (zQ x):=Le.rec (fun S S' h x=>iL n S S' h x) n x
def Qc(n:Nat)(x:(Str×Int)×List UInt8):Option (List UInt8):=
 ZP n (fun(s1:Int×List UInt8)=>
   bif decide (s1.1<(x.1.1.length:Int))then
    zR (X:=Int×List UInt8) (
      zb (geti x.1.1 s1.1) fun y2=>
      zb (Uf (y2.toNat:Int)) fun y3=>
      zb (zt (!(decide (s1.1>=x.1.2))&&y3) (qx (y2.toNat:Int)) (default:Bool)) fun y4=>
      bif bif bif y3 then bif decide (s1.1>=x.1.2)then true else !y4 else false then bif x.1.2==0 then true else !(x.1.1==[45])else false then
       zb (qA (y2.toNat:Int)) fun y5=>
       need (zO s1.2.length 1 1)<|
       some (LX.out (s1.1,s1.2++[y5]))
      else
       zb (Zf ((y2.toNat:Int),s1.2)) fun y6=>
       some (LX.out (s1.1,y6))) fun j7=>
    some (LO.again (w64 (j7.1+1),j7.2))
   else
    some (LO.out s1.2):Int×List UInt8->Option (LO (Int×List UInt8) (List UInt8) _)) (0,x.2) fun o8=>
 some o8
theorem QR(n:Nat)(x:(Str×Int)×List UInt8):Le (Qc n x) (Qn x):=by unfold Qc Qn;exact(.loop (fun _=>(.bif (.join (.bind .rfl fun _=>(.bind .rfl fun _=>(.bind .rfl fun _=>(.bif (.bind .rfl fun _=>(.need .rfl)) (.bind .rfl fun _=> .rfl))))) fun _=> .rfl) .rfl)) fun _=> .rfl)
def Fv(n:Nat)(x:zk×List UInt8):Option (List UInt8):=
 bif x.1.kind==1 then
  zb (ZV x.1.text) fun y1=>
  zb (Qc n ((x.1.text,y1),x.2)) fun y2=>
  some y2
 else
  bif x.1.kind==2 then
   zb (ZV x.1.text) fun y3=>
   zb (Qc n ((x.1.text,y3),x.2)) fun y4=>
   need (zO y4.length 1 1)<|
   some (y4++[(40:UInt8)])
  else
   bif x.1.kind==3 then
    need (zO x.2.length 1 1)<|
    zb (ZV x.1.text) fun y5=>
    zb (Qc n ((x.1.text,y5),x.2++[(64:UInt8)])) fun y6=>
    some y6
   else
    bif x.1.kind==4 then
     zR (X:=Int×List UInt8) (
       bif x.1.flag then
        zb (ZV x.1.text) fun y7=>
        some (LX.out (y7,x.2))
       else
        some (LX.out (0,x.2))) fun j8=>
     need (zO j8.2.length 1 1)<|
     zb (Qc n ((x.1.text,j8.1),j8.2++[(35:UInt8)])) fun y9=>
     some y9
    else
     bif x.1.kind==5 then
      need (zO x.2.length 1 1)<|
      need (decide (x.1.text.length<=maxLen))<|
      ZP n (fun(s10:Int×List UInt8)=>
        bif decide (s10.1<(x.1.text.length:Int))then
         zR (X:=Int×List UInt8) (
           need (decide (0<=s10.1)&&decide (s10.1<(x.1.text.length:Int)))<|
           zb x.1.text[s10.1.toNat]? fun y11=>
           zb (strings_IndexByte ([10,12,13,34,92],(y11.toNat:Int))) fun y12=>
           bif decide (y12>=0)then
            zb (Zf ((y11.toNat:Int),s10.2)) fun y13=>
            some (LX.out (s10.1,y13))
           else
            zb (qA (y11.toNat:Int)) fun y14=>
            need (zO s10.2.length 1 1)<|
            some (LX.out (s10.1,s10.2++[y14]))) fun j15=>
         some (LO.again (w64 (j15.1+1),j15.2))
        else
         some (LO.out s10.2):Int×List UInt8->Option (LO (Int×List UInt8) (List UInt8) _)) (0,x.2++[(34:UInt8)]) fun o16=>
      need (zO o16.length 1 1)<|
      some (o16++[(34:UInt8)])
     else
      bif x.1.kind==7 then
       need (zO x.2.length ([117,114,108,40]:Str).length 1)<|
       need (decide (x.1.text.length<=maxLen))<|
       ZP n (fun(s17:Int×List UInt8)=>
         bif decide (s17.1<(x.1.text.length:Int))then
          zR (X:=Int×List UInt8) (
            need (decide (0<=s17.1)&&decide (s17.1<(x.1.text.length:Int)))<|
            zb x.1.text[s17.1.toNat]? fun y18=>
            zb (zt (!(decide ((y18.toNat:Int)<=32))) (strings_IndexByte ([34,39,40,41,92,127],(y18.toNat:Int))) (default:Int)) fun y19=>
            bif bif decide ((y18.toNat:Int)<=32)then true else decide (y19>=0)then
             zb (Zf ((y18.toNat:Int),s17.2)) fun y20=>
             some (LX.out (s17.1,y20))
            else
             zb (qA (y18.toNat:Int)) fun y21=>
             need (zO s17.2.length 1 1)<|
             some (LX.out (s17.1,s17.2++[y21]))) fun j22=>
          some (LO.again (w64 (j22.1+1),j22.2))
         else
          some (LO.out s17.2):Int×List UInt8->Option (LO (Int×List UInt8) (List UInt8) _)) (0,x.2++([117,114,108,40]:Str)) fun o23=>
       need (zO o23.length 1 1)<|
       some (o23++[(41:UInt8)])
      else
       bif x.1.kind==9 then
        need (zO x.2.length x.1.text.length 1)<|
        some (x.2++x.1.text)
       else
        bif x.1.kind==10 then
         zb (Qd ((x.1.num, !x.1.flag),x.2)) fun y24=>
         some y24
        else
         bif x.1.kind==11 then
          zb (Qd ((x.1.num,false),x.2)) fun y25=>
          need (zO y25.length 1 1)<|
          some (y25++[(37:UInt8)])
         else
          bif x.1.kind==12 then
           zb (Qd ((x.1.num, !x.1.flag),x.2)) fun y26=>
           zb (geti x.1.unit 0) fun y27=>
           need (decide (1<=(x.1.unit.length:Int))|| !(ibOr IntKind.u8 (y27.toNat:Int) 32==101))<|
           zb (zt (ibOr IntKind.u8 (y27.toNat:Int) 32==101) (Ui (List.drop 1 x.1.unit)) (default:Bool)) fun y28=>
           need (decide (1<=(x.1.unit.length:Int))|| !(bif ibOr IntKind.u8 (y27.toNat:Int) 32==101 then y28 else false))<|
           zb (zt (bif ibOr IntKind.u8 (y27.toNat:Int) 32==101 then y28 else false) (strings_HasPrefix (List.drop 1 x.1.unit,[45,45])) (default:Bool)) fun y29=>
           bif bif bif ibOr IntKind.u8 (y27.toNat:Int) 32==101 then y28 else false then !y29 else false then
            zb (geti x.1.unit 0) fun y30=>
            zb (Zf ((y30.toNat:Int),y26)) fun y31=>
            need (decide (1<=(x.1.unit.length:Int)))<|
            zb (Qc n ((List.drop 1 x.1.unit,0),y31)) fun y32=>
            some y32
           else
            zb (ZV x.1.unit) fun y33=>
            zb (Qc n ((x.1.unit,y33),y26)) fun y34=>
            some y34
          else
           zb (dn ()) fun y35=>
           zb (geti [y35.e0,y35.e1,y35.e2,y35.e3,y35.e4,y35.e5,y35.e6,y35.e7,y35.e8,y35.e9,y35.e10,y35.e11] (wu8 (x.1.kind - 13))) fun y36=>
           need (zO x.2.length y36.length 1)<|
           some (x.2++y36)
theorem bL(n:Nat)(x:zk×List UInt8):Le (Fv n x) (Pk x):=by unfold Fv Pk;exact(.bif (.bind .rfl fun _=>(.bind (QR n _) fun _=> .rfl)) (.bif (.bind .rfl fun _=>(.bind (QR n _) fun _=>(.need .rfl))) (.bif (.need (.bind .rfl fun _=>(.bind (QR n _) fun _=> .rfl))) (.bif (.join (.bif (.bind .rfl fun _=> .rfl) .rfl) fun _=>(.need (.bind (QR n _) fun _=> .rfl))) (.bif (.need (.need (.loop (fun _=>(.bif (.join (.need (.bind .rfl fun _=>(.bind .rfl fun _=>(.bif (.bind .rfl fun _=> .rfl) (.bind .rfl fun _=>(.need .rfl)))))) fun _=> .rfl) .rfl)) fun _=>(.need .rfl)))) (.bif (.need (.need (.loop (fun _=>(.bif (.join (.need (.bind .rfl fun _=>(.bind .rfl fun _=>(.bif (.bind .rfl fun _=> .rfl) (.bind .rfl fun _=>(.need .rfl)))))) fun _=> .rfl) .rfl)) fun _=>(.need .rfl)))) (.bif (.need .rfl) (.bif (.bind .rfl fun _=> .rfl) (.bif (.bind .rfl fun _=>(.need .rfl)) (.bif (.bind .rfl fun _=>(.bind .rfl fun _=>(.need (.bind .rfl fun _=>(.need (.bind .rfl fun _=>(.bif (.bind .rfl fun _=>(.bind .rfl fun _=>(.need (.bind (QR n _) fun _=> .rfl)))) (.bind .rfl fun _=>(.bind (QR n _) fun _=> .rfl))))))))) (.bind .rfl fun _=>(.bind .rfl fun _=>(.need .rfl)))))))))))))
def qf(n:Nat)(x:za):Option za:=
 ZP n (fun(s1:za)=>
   need (decide (0<=s1.at_)&&decide (s1.at_<=(s1.s.length:Int)))<|
   zb (strings_HasPrefix (List.drop s1.at_.toNat s1.s,[47,42])) fun y2=>
   bif y2 then
    need (decide (0<=w64 (s1.at_+2))&&decide (w64 (s1.at_+2)<=(s1.s.length:Int)))<|
    zb (Og (List.drop (w64 (s1.at_+2)).toNat s1.s,[42,47])) fun y3=>
    bif decide (y3<0)then
     some (LO.ret (⟨s1.s,(s1.s.length:Int)⟩:za))
    else
     some (LO.again (⟨s1.s,w64 (s1.at_+w64 (y3+4))⟩:za))
   else
    some (LO.out s1):za->Option (LO (za) (za) _)) x fun o4=>
 some o4
theorem vE(n:Nat)(x:za):Le (qf n x) (Zp x):=by unfold qf Zp;exact(.loop (fun _=>(.need (.bind .rfl fun _=>(.bif (.need (.bind .rfl fun _=>(.bif .rfl .rfl))) .rfl)))) fun _=> .rfl)
def ZE(n:Nat)(x:za):Option za:=
 ZP n (fun(s1:za)=>
   zb (ze (0,s1)) fun y2=>
   zb (Zn y2) fun y3=>
   bif y3 then
    some (LO.again (⟨s1.s,w64 (s1.at_+1)⟩:za))
   else
    some (LO.out s1):za->Option (LO (za) (za) _)) x fun o4=>
 some o4
theorem qM(n:Nat)(x:za):Le (ZE n x) (zZ x):=by unfold ZE zZ;exact(.loop (fun _=>(.bind .rfl fun _=>(.bind .rfl fun _=>(.bif .rfl .rfl)))) fun _=> .rfl)
def Qq(n:Nat)(x:za):Option (za×List UInt8):=
 zb (ze (0,(⟨x.s,w64 (x.at_+1)⟩:za))) fun y1=>
 bif y1==(-1)then
  zb (qy 65533) fun y2=>
  some ((⟨x.s,w64 (x.at_+1)⟩:za),y2)
 else
  zb (Ye y1) fun y3=>
  bif decide (y3<0)then
   zb (qA (wu8 y1)) fun y4=>
   need (zO 0 1 1)<|
   some ((⟨x.s,w64 (w64 (x.at_+1)+1)⟩:za),[y4])
  else
   ZP n (fun(s5:(Int×Int)×za)=>
     bif decide (s5.1.2<6)then
      zb (ze (0,s5.2)) fun y6=>
      zb (Ye y6) fun y7=>
      bif decide (y7<0)then
       some (LO.out (s5.1.1,s5.2))
      else
       some (LO.again ((ibOr IntKind.i64 (ll IntKind.i64 s5.1.1 4) y7,w64 (s5.1.2+1)),(⟨s5.2.s,w64 (s5.2.at_+1)⟩:za)))
     else
      some (LO.out (s5.1.1,s5.2)):(Int×Int)×za->Option (LO ((Int×Int)×za) (Int×za) _)) ((0,0),(⟨x.s,w64 (x.at_+1)⟩:za)) fun o8=>
   zR (X:=Int×za) (
     zb (ze (0,o8.2)) fun y9=>
     zb (Zn y9) fun y10=>
     bif y10 then
      some (LX.out (o8.1,(⟨o8.2.s,w64 (o8.2.at_+1)⟩:za)))
     else
      some (LX.out (o8.1,o8.2))) fun j11=>
   zR (X:=Int) (
     bif j11.1==0 then
      some (LX.out 65533)
     else
      some (LX.out j11.1)) fun j12=>
   zb (qy (w32 j12)) fun y13=>
   some (j11.2,y13)
theorem nN(n:Nat)(x:za):Le (Qq n x) (ZL x):=by unfold Qq ZL;exact(.bind .rfl fun _=>(.bif (.bind .rfl fun _=> .rfl) (.bind .rfl fun _=>(.bif (.bind .rfl fun _=>(.need .rfl)) (.loop (fun _=>(.bif (.bind .rfl fun _=>(.bind .rfl fun _=>(.bif .rfl .rfl))) .rfl)) fun _=>(.join (.bind .rfl fun _=>(.bind .rfl fun _=>(.bif .rfl .rfl))) fun _=>(.join (.bif .rfl .rfl) fun _=>(.bind .rfl fun _=> .rfl))))))))
def Zr(n:Nat)(x:za×List UInt8):Option (za×List UInt8):=
 zb (ze (0,(⟨x.1.s,w64 (x.1.at_+1)⟩:za))) fun y1=>
 bif y1==(-1)then
  zb (qz (65533,x.2)) fun y2=>
  some ((⟨x.1.s,w64 (x.1.at_+1)⟩:za),y2)
 else
  zb (Ye y1) fun y3=>
  bif decide (y3<0)then
   zb (qA (wu8 y1)) fun y4=>
   need (zO x.2.length 1 1)<|
   some ((⟨x.1.s,w64 (w64 (x.1.at_+1)+1)⟩:za),x.2++[y4])
  else
   ZP n (fun(s5:(Int×Int)×za)=>
     bif decide (s5.1.2<6)then
      zb (ze (0,s5.2)) fun y6=>
      zb (Ye y6) fun y7=>
      bif decide (y7<0)then
       some (LO.out (s5.1.1,s5.2))
      else
       some (LO.again ((ibOr IntKind.i64 (ll IntKind.i64 s5.1.1 4) y7,w64 (s5.1.2+1)),(⟨s5.2.s,w64 (s5.2.at_+1)⟩:za)))
     else
      some (LO.out (s5.1.1,s5.2)):(Int×Int)×za->Option (LO ((Int×Int)×za) (Int×za) _)) ((0,0),(⟨x.1.s,w64 (x.1.at_+1)⟩:za)) fun o8=>
   zR (X:=Int×za×List UInt8) (
     zb (ze (0,o8.2)) fun y9=>
     zb (Zn y9) fun y10=>
     bif y10 then
      some (LX.out (o8.1,(⟨o8.2.s,w64 (o8.2.at_+1)⟩:za),x.2))
     else
      some (LX.out (o8.1,o8.2,x.2))) fun j11=>
   zR (X:=Int×List UInt8) (
     bif j11.1==0 then
      some (LX.out (65533,j11.2.2))
     else
      some (LX.out (j11.1,j11.2.2))) fun j12=>
   zb (qz (w32 j12.1,j12.2)) fun y13=>
   some (j11.2.1,y13)
theorem qO(n:Nat)(x:za×List UInt8):Le (Zr n x) (zV x):=by unfold Zr zV;exact(.bind .rfl fun _=>(.bif (.bind .rfl fun _=> .rfl) (.bind .rfl fun _=>(.bif (.bind .rfl fun _=>(.need .rfl)) (.loop (fun _=>(.bif (.bind .rfl fun _=>(.bind .rfl fun _=>(.bif .rfl .rfl))) .rfl)) fun _=>(.join (.bind .rfl fun _=>(.bind .rfl fun _=>(.bif .rfl .rfl))) fun _=>(.join (.bif .rfl .rfl) fun _=>(.bind .rfl fun _=> .rfl))))))))
def QU(n:Nat)(x:za):Option (zk×za):=
 zb (ze (0,x)) fun y1=>
 ZP n (fun(s2:za×zk×List UInt8)=>
   zb (ze (0,s2.1)) fun y3=>
   bif y3==(-1)then
    some (LO.out (s2.1,s2.2.1,s2.2.2))
   else
    bif y3==y1 then
     some (LO.out ((⟨s2.1.s,w64 (s2.1.at_+1)⟩:za),s2.2.1,s2.2.2))
    else
     bif y3==10 then
      some (LO.ret ((⟨6,[],0,[],false⟩:zk),s2.1))
     else
      zb (zt (y3==92) (ze (1,s2.1)) (default:Int)) fun y4=>
      zb (zt (!(y4==(-1))&&y3==92) (ze (1,s2.1)) (default:Int)) fun y5=>
      bif bif y3==92 then bif y4==(-1)then true else y5==10 else false then
       some (LO.again ((⟨s2.1.s,if(s2.1.s.length:Int)<w64 (s2.1.at_+2)then(s2.1.s.length:Int)else w64 (s2.1.at_+2)⟩:za),s2.2.1,s2.2.2))
      else
       bif y3==92 then
        zb (Zr n (s2.1,s2.2.2)) fun y6=>
        some (LO.again (y6.1,s2.2.1,y6.2))
       else
        zb (qA (wu8 y3)) fun y7=>
        need (zO s2.2.2.length 1 1)<|
        some (LO.again ((⟨s2.1.s,w64 (s2.1.at_+1)⟩:za),s2.2.1,s2.2.2++[y7])):za×zk×List UInt8->Option (LO (za×zk×List UInt8) (za×zk×List UInt8) _)) ((⟨x.s,w64 (x.at_+1)⟩:za),(⟨0,[],0,[],false⟩:zk),[]) fun o8=>
 some ((⟨5,o8.2.2,0,[],false⟩:zk),o8.1)
theorem xM(n:Nat)(x:za):Le (QU n x) (qm x):=by unfold QU qm;exact(.bind .rfl fun _=>(.loop (fun _=>(.bind .rfl fun _=>(.bif .rfl (.bif .rfl (.bif .rfl (.bind .rfl fun _=>(.bind .rfl fun _=>(.bif .rfl (.bif (.bind (qO n _) fun _=> .rfl) (.bind .rfl fun _=>(.need .rfl))))))))))) fun _=> .rfl))
def ZO(n:Nat)(x:za):Option (Str×za):=
 ZP n (fun(s1:za×List UInt8)=>
   zb (ze (0,s1.1)) fun y2=>
   zb (vg y2) fun y3=>
   bif y3 then
    zb (qA (wu8 y2)) fun y4=>
    need (zO s1.2.length 1 1)<|
    some (LO.again ((⟨s1.1.s,w64 (s1.1.at_+1)⟩:za),s1.2++[y4]))
   else
    zb (zt (y2 != (-1)) (zH (0,s1.1)) (default:Bool)) fun y5=>
    bif bif y2 != (-1)then y5 else false then
     zb (Zr n (s1.1,s1.2)) fun y6=>
     some (LO.again (y6.1,y6.2))
    else
     some (LO.ret (s1.2,s1.1)):za×List UInt8->Option (LO (za×List UInt8) (Unit) _)) (x,[]) fun o7=>
 none
theorem Qf(n:Nat)(x:za):Le (ZO n x) (Za x):=by unfold ZO Za;exact(.loop (fun _=>(.bind .rfl fun _=>(.bind .rfl fun _=>(.bif (.bind .rfl fun _=>(.need .rfl)) (.bind .rfl fun _=>(.bif (.bind (qO n _) fun _=> .rfl) .rfl)))))) fun _=> .none)
def ZM(n:Nat)(x:za):Option za:=
 ZP n (fun(s1:za)=>
   zb (ze (0,s1)) fun y2=>
   zb (Zx y2) fun y3=>
   bif y3 then
    some (LO.again (⟨s1.s,w64 (s1.at_+1)⟩:za))
   else
    some (LO.out s1):za->Option (LO (za) (za) _)) x fun o4=>
 some o4
theorem Qy(n:Nat)(x:za):Le (ZM n x) (Zj x):=by unfold ZM Zj;exact(.loop (fun _=>(.bind .rfl fun _=>(.bind .rfl fun _=>(.bif .rfl .rfl)))) fun _=> .rfl)
def QN(n:Nat)(x:za):Option (Bool×za):=
 zR (X:=za) (
   zb (ze (0,x)) fun y1=>
   bif bif y1==43 then true else y1==45 then
    some (LX.out (⟨x.s,w64 (x.at_+1)⟩:za))
   else
    some (LX.out x)) fun j2=>
 zb (ZM n j2) fun y3=>
 zR (X:=Bool×za) (
   zb (ze (0,y3)) fun y4=>
   zb (zt (y4==46) (ze (1,y3)) (default:Int)) fun y5=>
   zb (zt (y4==46) (Zx y5) (default:Bool)) fun y6=>
   bif bif y4==46 then y6 else false then
    zb (ZM n (⟨y3.s,w64 (y3.at_+1)⟩:za)) fun y7=>
    some (LX.out (false,y7))
   else
    some (LX.out (true,y3))) fun j8=>
 zR (X:=Bool×za) (
   zb (ze (0,j8.2)) fun y9=>
   zb (zt (!(y9==101)) (ze (0,j8.2)) (default:Int)) fun y10=>
   bif bif y9==101 then true else y10==69 then
    zR (X:=(Bool×Int)×za) (
      zb (ze (1,j8.2)) fun y11=>
      bif bif y11==43 then true else y11==45 then
       some (LX.out ((j8.1,2),j8.2))
      else
       some (LX.out ((j8.1,1),j8.2))) fun j12=>
    zb (ze (j12.1.2,j12.2)) fun y13=>
    zb (Zx y13) fun y14=>
    bif y14 then
     zb (ZM n (⟨j12.2.s,w64 (j12.2.at_+j12.1.2)⟩:za)) fun y15=>
     some (LX.out (false,y15))
    else
     some (LX.out (j12.1.1,j12.2))
   else
    some (LX.out (j8.1,j8.2))) fun j16=>
 some (j16.1,j16.2)
theorem MN(n:Nat)(x:za):Le (QN n x) (Z8 x):=by unfold QN Z8;exact(.join (.bind .rfl fun _=>(.bif .rfl .rfl)) fun _=>(.bind (Qy n _) fun _=>(.join (.bind .rfl fun _=>(.bind .rfl fun _=>(.bind .rfl fun _=>(.bif (.bind (Qy n _) fun _=> .rfl) .rfl)))) fun _=>(.join (.bind .rfl fun _=>(.bind .rfl fun _=>(.bif (.join (.bind .rfl fun _=>(.bif .rfl .rfl)) fun _=>(.bind .rfl fun _=>(.bind .rfl fun _=>(.bif (.bind (Qy n _) fun _=> .rfl) .rfl)))) .rfl))) fun _=> .rfl))))
def Ex(n:Nat)(x:Str):Option Int:=
 zb (geti x 0) fun y1=>
 zb (Kg (x,[43,45])) fun y2=>
 zR (X:=Str×Int) (
   zb (Vj (y2,[101,69])) fun y3=>
   bif decide (y3>=0)then
    need (decide (0<=w64 (y3+1))&&decide (w64 (y3+1)<=(y2.length:Int)))<|
    zb (Kg (List.drop (w64 (y3+1)).toNat y2,[43,45])) fun y4=>
    need (decide (y4.length<=maxLen))<|
    ZP n (fun(s5:Int×Int)=>
      bif decide (s5.2<(y4.length:Int))then
       need (decide (0<=s5.2)&&decide (s5.2<(y4.length:Int)))<|
       zb y4[s5.2.toNat]? fun y6=>
       some (LO.again (if 1048576<w64 (w64 (10*s5.1)+w64 (wu8 ((y6.toNat:Int) - 48)))then 1048576 else w64 (w64 (10*s5.1)+w64 (wu8 ((y6.toNat:Int) - 48))),w64 (s5.2+1)))
      else
       some (LO.out s5.1):Int×Int->Option (LO (Int×Int) (Int) _)) (0,0) fun o7=>
    zR (X:=Str×Int×Int) (
      zb (geti y2 (w64 (y3+1))) fun y8=>
      bif (y8.toNat:Int)==45 then
       some (LX.out (y2,3,w64 (0 - o7)))
      else
       some (LX.out (y2,3,o7))) fun j9=>
    need (decide (0<=y3)&&decide (y3<=(j9.1.length:Int)))<|
    some (LX.out (List.take y3.toNat j9.1,w64 (j9.2.1+j9.2.2)))
   else
    some (LX.out (y2,3))) fun j10=>
 zb (cutF (j10.1,[46])) fun y11=>
 need (QZ y11.1.length y11.2.1.length)<|
 zR (X:=Str×Int) (
   bif decide (w64 (j10.2 - (y11.2.1.length:Int))<0)then
    need (decide (0<=(if w64 (((y11.1++y11.2.1).length:Int)+w64 (j10.2 - (y11.2.1.length:Int)))>0 then w64 (((y11.1++y11.2.1).length:Int)+w64 (j10.2 - (y11.2.1.length:Int)))else 0))&&decide ((if w64 (((y11.1++y11.2.1).length:Int)+w64 (j10.2 - (y11.2.1.length:Int)))>0 then w64 (((y11.1++y11.2.1).length:Int)+w64 (j10.2 - (y11.2.1.length:Int)))else 0)<=((y11.1++y11.2.1).length:Int)))<|
    some (LX.out (List.take (if w64 (((y11.1++y11.2.1).length:Int)+w64 (j10.2 - (y11.2.1.length:Int)))>0 then w64 (((y11.1++y11.2.1).length:Int)+w64 (j10.2 - (y11.2.1.length:Int)))else 0).toNat (y11.1++y11.2.1),w64 (j10.2 - (y11.2.1.length:Int))))
   else
    some (LX.out (y11.1++y11.2.1,w64 (j10.2 - (y11.2.1.length:Int))))) fun j12=>
 need (decide (j12.1.length<=maxLen))<|
 ZP n (fun(s13:Int×Int)=>
   bif decide (s13.2<(j12.1.length:Int))then
    need (decide (0<=s13.2)&&decide (s13.2<(j12.1.length:Int)))<|
    zb j12.1[s13.2.toNat]? fun y14=>
    some (LO.again (if 1000000000000<w64 (w64 (10*s13.1)+w64 (wu8 ((y14.toNat:Int) - 48)))then 1000000000000 else w64 (w64 (10*s13.1)+w64 (wu8 ((y14.toNat:Int) - 48))),w64 (s13.2+1)))
   else
    some (LO.out s13.1):Int×Int->Option (LO (Int×Int) (Int) _)) (0,0) fun o15=>
 ZP n (fun(s16:Int×Int)=>
   bif bif bif decide (s16.1>0)then decide (s16.2>0)else false then decide (s16.2<1000000000000)else false then
    some (LO.again (w64 (s16.1 - 1),if 1000000000000<w64 (10*s16.2)then 1000000000000 else w64 (10*s16.2)))
   else
    some (LO.out s16.2):Int×Int->Option (LO (Int×Int) (Int) _)) (j12.2,o15) fun o17=>
 zR (X:=Int) (
   bif (y1.toNat:Int)==45 then
    some (LX.out (w64 (0 - o17)))
   else
    some (LX.out o17)) fun j18=>
 some j18
theorem nM(n:Nat)(x:Str):Le (Ex n x) (QD x):=by unfold Ex QD;exact(.bind .rfl fun _=>(.bind .rfl fun _=>(.join (.bind .rfl fun _=>(.bif (.need (.bind .rfl fun _=>(.need (.loop (fun _=>(.bif (.need (.bind .rfl fun _=> .rfl)) .rfl)) fun _=>(.join (.bind .rfl fun _=>(.bif .rfl .rfl)) fun _=>(.need .rfl)))))) .rfl)) fun _=>(.bind .rfl fun _=>(.need (.join (.bif (.need .rfl) .rfl) fun _=>(.need (.loop (fun _=>(.bif (.need (.bind .rfl fun _=> .rfl)) .rfl)) fun _=>(.loop (fun _=>(.bif .rfl .rfl)) fun _=>(.join (.bif .rfl .rfl) fun _=> .rfl))))))))))
def QO(n:Nat)(x:za):Option (zk×za):=
 zb (QN n x) fun y1=>
 need (decide (0<=x.at_)&&(decide (x.at_<=y1.2.at_)&&decide (y1.2.at_<=(y1.2.s.length:Int))))<|
 zb (Ex n (List.drop x.at_.toNat (List.take y1.2.at_.toNat y1.2.s))) fun y2=>
 zR (X:=za×zk×zk) (
   zb (zX (0,y1.2)) fun y3=>
   bif y3 then
    zb (ZO n y1.2) fun y4=>
    some (LX.out (y4.2,(⟨0,[],0,[],false⟩:zk),(⟨12,[],y2,y4.1,y1.1⟩:zk)))
   else
    zb (ze (0,y1.2)) fun y5=>
    bif y5==37 then
     some (LX.out ((⟨y1.2.s,w64 (y1.2.at_+1)⟩:za),(⟨0,[],0,[],false⟩:zk),(⟨11,[],y2,[],false⟩:zk)))
    else
     some (LX.out (y1.2,(⟨0,[],0,[],false⟩:zk),(⟨10,[],y2,[],y1.1⟩:zk)))) fun j6=>
 some (j6.2.2,j6.1)
theorem KN(n:Nat)(x:za):Le (QO n x) (Z9 x):=by unfold QO Z9;exact(.bind (MN n _) fun _=>(.need (.bind (nM n _) fun _=>(.join (.bind .rfl fun _=>(.bif (.bind (Qf n _) fun _=> .rfl) (.bind .rfl fun _=>(.bif .rfl .rfl)))) fun _=> .rfl))))
def qK(n:Nat)(x:za):Option (zk×za):=
 ZP n (fun(s1:za×zk)=>
   zb (ze (0,s1.1)) fun y2=>
   bif y2==(-1)then
    some (LO.ret ((⟨8,[],0,[],false⟩:zk),s1.1))
   else
    zb (zH (0,s1.1)) fun y3=>
    bif y3 then
     zb (Qq n s1.1) fun y4=>
     some (LO.again (y4.1,s1.2))
    else
     zb (geti s1.1.s (w64 (w64 (s1.1.at_+1) - 1))) fun y5=>
     bif (y5.toNat:Int)==41 then
      some (LO.ret ((⟨8,[],0,[],false⟩:zk),(⟨s1.1.s,w64 (s1.1.at_+1)⟩:za)))
     else
      some (LO.again ((⟨s1.1.s,w64 (s1.1.at_+1)⟩:za),s1.2)):za×zk->Option (LO (za×zk) (Unit) _)) (x,(⟨0,[],0,[],false⟩:zk)) fun o6=>
 none
theorem yw(n:Nat)(x:za):Le (qK n x) (ZX x):=by unfold qK ZX;exact(.loop (fun _=>(.bind .rfl fun _=>(.bif .rfl (.bind .rfl fun _=>(.bif (.bind (nN n _) fun _=> .rfl) (.bind .rfl fun _=>(.bif .rfl .rfl))))))) fun _=> .none)
def Fx(n:Nat)(x:za):Option (zk×za):=
 zb (ZE n x) fun y1=>
 ZP n (fun(s2:za×zk×List UInt8)=>
   zb (ze (0,s2.1)) fun y3=>
   zR (X:=Int×za×zk×List UInt8) (
     zb (Zn y3) fun y4=>
     bif y4 then
      zb (ZE n s2.1) fun y5=>
      zb (ze (0,y5)) fun y6=>
      bif bif y6 != 41 then y6 != (-1)else false then
       zb (qK n y5) fun y7=>
       some (LX.ret (LO.ret (y7.1,y7.2)))
      else
       some (LX.out (y6,y5,s2.2.1,s2.2.2))
     else
      some (LX.out (y3,s2.1,s2.2.1,s2.2.2))) fun j8=>
   bif j8.1==(-1)then
    some (LO.ret ((⟨7,j8.2.2.2,0,[],false⟩:zk),j8.2.1))
   else
    bif j8.1==41 then
     some (LO.ret ((⟨7,j8.2.2.2,0,[],false⟩:zk),(⟨j8.2.1.s,w64 (j8.2.1.at_+1)⟩:za)))
    else
     zb (zt (!(bif bif bif bif j8.1==34 then true else j8.1==39 then true else j8.1==40 then true else decide (j8.1<=8)then true else j8.1==11)) (qw (j8.1,14,31)) (default:Bool)) fun y9=>
     bif bif bif bif bif bif bif j8.1==34 then true else j8.1==39 then true else j8.1==40 then true else decide (j8.1<=8)then true else j8.1==11 then true else y9 then true else j8.1==127 then
      zb (qK n j8.2.1) fun y10=>
      some (LO.ret (y10.1,y10.2))
     else
      bif j8.1 != 92 then
       zb (qA (wu8 j8.1)) fun y11=>
       need (zO j8.2.2.2.length 1 1)<|
       some (LO.again ((⟨j8.2.1.s,w64 (j8.2.1.at_+1)⟩:za),j8.2.2.1,j8.2.2.2++[y11]))
      else
       zb (zH (0,j8.2.1)) fun y12=>
       bif y12 then
        zb (Zr n (j8.2.1,j8.2.2.2)) fun y13=>
        some (LO.again (y13.1,j8.2.2.1,y13.2))
       else
        zb (qK n j8.2.1) fun y14=>
        some (LO.ret (y14.1,y14.2)):za×zk×List UInt8->Option (LO (za×zk×List UInt8) (Unit) _)) (y1,(⟨0,[],0,[],false⟩:zk),[]) fun o15=>
 none
theorem oM(n:Nat)(x:za):Le (Fx n x) (QC x):=by unfold Fx QC;exact(.bind (qM n _) fun _=>(.loop (fun _=>(.bind .rfl fun _=>(.join (.bind .rfl fun _=>(.bif (.bind (qM n _) fun _=>(.bind .rfl fun _=>(.bif (.bind (yw n _) fun _=> .rfl) .rfl))) .rfl)) fun _=>(.bif .rfl (.bif .rfl (.bind .rfl fun _=>(.bif (.bind (yw n _) fun _=> .rfl) (.bif (.bind .rfl fun _=>(.need .rfl)) (.bind .rfl fun _=>(.bif (.bind (qO n _) fun _=> .rfl) (.bind (yw n _) fun _=> .rfl))))))))))) fun _=> .none))
def iw(n:Nat)(x:za):Option (zk×za):=
 zb (ZO n x) fun y1=>
 zb (ze (0,y1.2)) fun y2=>
 bif y2 != 40 then
  some ((⟨1,y1.1,0,[],false⟩:zk),y1.2)
 else
  zR (X:=za×zk) (
    zb (QH n (y1.1,[117,114,108])) fun y3=>
    bif y3 then
     zb (ZE n (⟨y1.2.s,w64 (y1.2.at_+1)⟩:za)) fun y4=>
     zb (ze (0,y4)) fun y5=>
     bif bif y5 != 34 then y5 != 39 else false then
      zb (Fx n (⟨y1.2.s,w64 (y1.2.at_+1)⟩:za)) fun y6=>
      some (LX.ret (y6.1,y6.2))
     else
      some (LX.out ((⟨y1.2.s,w64 (y1.2.at_+1)⟩:za),(⟨0,[],0,[],false⟩:zk)))
    else
     some (LX.out ((⟨y1.2.s,w64 (y1.2.at_+1)⟩:za),(⟨0,[],0,[],false⟩:zk)))) fun j7=>
  some ((⟨2,y1.1,0,[],false⟩:zk),j7.1)
theorem EN(n:Nat)(x:za):Le (iw n x) (qL x):=by unfold iw qL;exact(.bind (Qf n _) fun _=>(.bind .rfl fun _=>(.bif .rfl (.join (.bind (Rl n _) fun _=>(.bif (.bind (qM n _) fun _=>(.bind .rfl fun _=>(.bif (.bind (oM n _) fun _=> .rfl) .rfl))) .rfl)) fun _=> .rfl))))
def ww(n:Nat)(x:za):Option (zk×za):=
 zb (ze (0,x)) fun y1=>
 need (decide (0<=x.at_)&&decide (x.at_<=(x.s.length:Int)))<|
 zb (Zn y1) fun y2=>
 bif y2 then
  zb (ZE n x) fun y3=>
  some ((⟨13,[],0,[],false⟩:zk),y3)
 else
  bif bif y1==34 then true else y1==39 then
   zb (QU n x) fun y4=>
   some (y4.1,y4.2)
  else
   zb (zt (y1==35) (ze (1,x)) (default:Int)) fun y5=>
   zb (zt (y1==35) (vg y5) (default:Bool)) fun y6=>
   zb (zt (!y6&&y1==35) (zH (1,x)) (default:Bool)) fun y7=>
   bif bif y1==35 then bif y6 then true else y7 else false then
    zb (zX (1,x)) fun y8=>
    zb (ZO n (⟨x.s,w64 (x.at_+1)⟩:za)) fun y9=>
    some ((⟨4,y9.1,0,[],y8⟩:zk),y9.2)
   else
    zb (Qu x) fun y10=>
    bif y10 then
     zb (QO n x) fun y11=>
     some (y11.1,y11.2)
    else
     zb (strings_HasPrefix (List.drop x.at_.toNat x.s,[45,45,62])) fun y12=>
     bif y12 then
      some ((⟨15,[],0,[],false⟩:zk),(⟨x.s,w64 (x.at_+3)⟩:za))
     else
      zb (strings_HasPrefix (List.drop x.at_.toNat x.s,[60,33,45,45])) fun y13=>
      bif y13 then
       some ((⟨14,[],0,[],false⟩:zk),(⟨x.s,w64 (x.at_+4)⟩:za))
      else
       zb (zt (y1==64) (zX (1,x)) (default:Bool)) fun y14=>
       bif bif y1==64 then y14 else false then
        zb (ZO n (⟨x.s,w64 (x.at_+1)⟩:za)) fun y15=>
        some ((⟨3,y15.1,0,[],false⟩:zk),y15.2)
       else
        zb (zX (0,x)) fun y16=>
        bif y16 then
         zb (iw n x) fun y17=>
         some (y17.1,y17.2)
        else
         zb (strings_IndexByte ([58,59,44,91,93,40,41,123,125],wu8 y1)) fun y18=>
         bif decide (y18>=0)then
          some ((⟨wu8 (16+wu8 y18),[],0,[],false⟩:zk),(⟨x.s,w64 (x.at_+1)⟩:za))
         else
          need (decide (1<=((List.drop x.at_.toNat x.s).length:Int)))<|
          some ((⟨9,List.take 1 (List.drop x.at_.toNat x.s),0,[],false⟩:zk),(⟨x.s,w64 (x.at_+1)⟩:za))
theorem dM(n:Nat)(x:za):Le (ww n x) (Ql x):=by unfold ww Ql;exact(.bind .rfl fun _=>(.need (.bind .rfl fun _=>(.bif (.bind (qM n _) fun _=> .rfl) (.bif (.bind (xM n _) fun _=> .rfl) (.bind .rfl fun _=>(.bind .rfl fun _=>(.bind .rfl fun _=>(.bif (.bind .rfl fun _=>(.bind (Qf n _) fun _=> .rfl)) (.bind .rfl fun _=>(.bif (.bind (KN n _) fun _=> .rfl) (.bind .rfl fun _=>(.bif .rfl (.bind .rfl fun _=>(.bif .rfl (.bind .rfl fun _=>(.bif (.bind (Qf n _) fun _=> .rfl) (.bind .rfl fun _=>(.bif (.bind (EN n _) fun _=> .rfl) (.bind .rfl fun _=>(.bif .rfl (.need .rfl))))))))))))))))))))))
def Hw(n:Nat)(x:Str):Option (Int×List zk):=
 zb (Xh x) fun y1=>
 bif y1.2 != 0 then
  some (y1.2,[])
 else
  zb (qf n (⟨y1.1,0⟩:za)) fun y2=>
  ZP n (fun(s3:Int×List zk×za)=>
    bif decide (s3.2.2.at_<(y1.1.length:Int))then
     bif decide (w64 (s3.1+1)>1500)then
      some (LO.ret (4,s3.2.1))
     else
      zb (ww n s3.2.2) fun y4=>
      zb (Wp ((y4.1,s3.2.2.at_,y4.2.at_),s3.2.1)) fun y5=>
      zb (qf n y4.2) fun y6=>
      some (LO.again (w64 (s3.1+1),y5,y6))
    else
     some (LO.out (s3.2.1,s3.2.2)):Int×List zk×za->Option (LO (Int×List zk×za) (List zk×za) _)) (0,[],y2) fun o7=>
  some (0,o7.1)
theorem FL(n:Nat)(x:Str):Le (Hw n x) (Kl x):=by unfold Hw Kl;exact(.bind .rfl fun _=>(.bif .rfl (.bind (vE n _) fun _=>(.loop (fun _=>(.bif (.bif .rfl (.bind (dM n _) fun _=>(.bind .rfl fun _=>(.bind (vE n _) fun _=> .rfl)))) .rfl)) fun _=> .rfl))))
def Jp(n:Nat)(x:Str):Option (List zk×Int):=
 zb (Hw n x) fun y1=>
 bif y1.1 != 0 then
  some ([],y1.1)
 else
  some (y1.2,0)
theorem OD(n:Nat)(x:Str):Le (Jp n x) (xg x):=by unfold Jp xg;exact(.bind (FL n _) fun _=>(.bif .rfl .rfl))
def xw(n:Nat)(x:List zk×List zk):Option Bool:=
 bif (x.1.length:Int) != (x.2.length:Int)then
  some false
 else
  ZP n (fun(s1:Int)=>
    bif decide (s1<(x.1.length:Int))then
     zb (geti x.1 s1) fun y2=>
     zb (geti x.2 s1) fun y3=>
     bif !(y2.kind==y3.kind&&(y2.text==y3.text&&(y2.num==y3.num&&(y2.unit==y3.unit&&(y2.flag==y3.flag&&true)))))then
      some (LO.ret false)
     else
      some (LO.again (w64 (s1+1)))
    else
     some (LO.out ()):Int->Option (LO (Int) (Unit) _)) 0 fun o4=>
  some true
theorem fM(n:Nat)(x:List zk×List zk):Le (xw n x) (Qk x):=by unfold xw Qk;exact(.bif .rfl (.loop (fun _=>(.bif (.bind .rfl fun _=>(.bind .rfl fun _=>(.bif .rfl .rfl))) .rfl)) fun _=> .rfl))
def uu(n:Nat)(x:List zk):Option (Str×Int):=
 zb (Oo n x) fun y1=>
 bif y1 != 0 then
  some ([],y1)
 else
  ZP n (fun(s2:Int×List UInt8×List zM)=>
    bif decide (s2.1<(x.length:Int))then
     need (decide (0<=s2.1)&&decide (s2.1<=(x.length:Int)))<|
     zb (Mo n (List.drop s2.1.toNat x)) fun y3=>
     need (decide (0<=s2.1)&&(decide (s2.1<=w64 (s2.1+y3))&&decide (w64 (s2.1+y3)<=(x.length:Int))))<|
     ZP n (fun(s4:Int×List UInt8)=>
       bif decide (s4.1<((List.drop s2.1.toNat (List.take (w64 (s2.1+y3)).toNat x)).length:Int))then
        zb (geti (List.drop s2.1.toNat (List.take (w64 (s2.1+y3)).toNat x)) s4.1) fun y5=>
        zb (Fv n (y5,s4.2)) fun y6=>
        some (LO.again (w64 (s4.1+1),y6))
       else
        some (LO.out s4.2):Int×List UInt8->Option (LO (Int×List UInt8) (List UInt8) _)) (0,[]) fun o7=>
     zR (X:=Int×List UInt8×List zM×List UInt8) (
       zb (geti x s2.1) fun y8=>
       bif bif y8.kind==9 then y3==2 else false then
        some (LX.out (s2.1,s2.2.1,s2.2.2,[(92:UInt8),(10:UInt8)]))
       else
        some (LX.out (s2.1,s2.2.1,s2.2.2,o7))) fun j9=>
     zR (X:=Int×List UInt8×List zM×zM) (
       bif decide (w64 ((j9.2.2.1.length:Int) - 4)>=0)then
        need (decide (0<=w64 ((j9.2.2.1.length:Int) - 4))&&decide (w64 ((j9.2.2.1.length:Int) - 4)<(j9.2.2.1.length:Int)))<|
        zb (j9.2.2.1[(w64 ((j9.2.2.1.length:Int) - 4)).toNat]?) fun y10=>
        some (LX.out (j9.1,j9.2.1,j9.2.2.1,y10))
       else
        some (LX.out (j9.1,j9.2.1,j9.2.2.1,(⟨0,0⟩:zM)))) fun j11=>
     need (decide (0<=j11.2.2.2.at_)&&decide (j11.2.2.2.at_<=(j11.2.1.length:Int)))<|
     need (decide (j11.2.2.2.at_.toNat+(j11.2.1.length - j11.2.2.2.at_.toNat)<=j11.2.1.length))<|
     need (QZ (List.take (j11.2.1.length - j11.2.2.2.at_.toNat) (List.drop j11.2.2.2.at_.toNat j11.2.1)).length j9.2.2.2.length)<|
     zb (Jp n (List.take (j11.2.1.length - j11.2.2.2.at_.toNat) (List.drop j11.2.2.2.at_.toNat j11.2.1)++j9.2.2.2)) fun y12=>
     zR (X:=Int×List zM×List UInt8) (
       need (decide (0<=j11.2.2.2.token)&&(decide (j11.2.2.2.token<=w64 (j11.1+y3))&&decide (w64 (j11.1+y3)<=(x.length:Int)))|| !(!(y12.2 != 0)))<|
       zb (zt (!(y12.2 != 0)) (xw n (y12.1,List.drop j11.2.2.2.token.toNat (List.take (w64 (j11.1+y3)).toNat x))) (default:Bool)) fun y13=>
       bif bif y12.2 != 0 then true else !y13 then
        need (zO j11.2.1.length ([47,42,42,47]:Str).length 1)<|
        some (LX.out (j11.1,j11.2.2.1,j11.2.1++([47,42,42,47]:Str)))
       else
        some (LX.out (j11.1,j11.2.2.1,j11.2.1))) fun j14=>
     need (zO j14.2.1.length 1 16)<|
     need (zO j14.2.2.length j9.2.2.2.length 1)<|
     bif decide (((j14.2.2++j9.2.2.2).length:Int)>4000)then
      some (LO.ret ([],28))
     else
      some (LO.again (w64 (j14.1+y3),j14.2.2++j9.2.2.2,j14.2.1++[(⟨j14.1,(j14.2.2.length:Int)⟩:zM)]))
    else
     some (LO.out s2.2.1):Int×List UInt8×List zM->Option (LO (Int×List UInt8×List zM) (List UInt8) _)) (0,[],[]) fun o15=>
  some (o15,0)
theorem dK(n:Nat)(x:List zk):Le (uu n x) (Ck x):=by unfold uu Ck;exact(.bind (wB n _) fun _=>(.bif .rfl (.loop (fun _=>(.bif (.need (.bind (vB n _) fun _=>(.need (.loop (fun _=>(.bif (.bind .rfl fun _=>(.bind (bL n _) fun _=> .rfl)) .rfl)) fun _=>(.join (.bind .rfl fun _=>(.bif .rfl .rfl)) fun _=>(.join (.bif (.need (.bind .rfl fun _=> .rfl)) .rfl) fun _=>(.need (.need (.need (.bind (OD n _) fun _=>(.join (.need (.bind (.cond (fM n _)) fun _=>(.bif (.need .rfl) .rfl))) fun _=>(.need (.need (.bif .rfl .rfl)))))))))))))) .rfl)) fun _=> .rfl)))
def eu(n:Nat)(x:List zg):Option (Str×Int):=
 zb (Qh n x) fun y1=>
 bif y1 != 0 then
  some ([],y1)
 else
  zb (mo n x) fun y2=>
  zb (uu n y2) fun y3=>
  some (y3.1,y3.2)
theorem WK(n:Nat)(x:List zg):Le (eu n x) (Sj x):=by unfold eu Sj;exact(.bind (QJ n _) fun _=>(.bif .rfl (.bind (nC n _) fun _=>(.bind (dK n _) fun _=> .rfl))))
def Ru(n:Nat)(x:zF):Option (Str×Int):=
 zb (Dl n x) fun y1=>
 bif y1 != 0 then
  some ([],y1)
 else
  zb (Eo n x.name) fun y2=>
  bif y2.2 != 0 then
   some ([],y2.2)
  else
   zb (eu n x.value) fun y3=>
   bif y3.2 != 0 then
    some ([],y3.2)
   else
    need (QZ y2.1.length ([58,32]:Str).length)<|
    need (QZ (y2.1++([58,32]:Str)).length y3.1.length)<|
    zR (X:=Str) (
      bif x.important then
       need (QZ (y2.1++([58,32]:Str)++y3.1).length ([32,33,105,109,112,111,114,116,97,110,116]:Str).length)<|
       some (LX.out (y2.1++([58,32]:Str)++y3.1++([32,33,105,109,112,111,114,116,97,110,116]:Str)))
      else
       some (LX.out (y2.1++([58,32]:Str)++y3.1))) fun j4=>
    bif decide ((j4.length:Int)>4000)then
     some ([],28)
    else
     some (j4,0)
theorem LK(n:Nat)(x:zF):Le (Ru n x) (aj x):=by unfold Ru aj;exact(.bind (Bv n _) fun _=>(.bif .rfl (.bind (IC n _) fun _=>(.bif .rfl (.bind (WK n _) fun _=>(.bif .rfl (.need (.need (.join (.bif (.need .rfl) .rfl) fun _=>(.bif .rfl .rfl))))))))))
def Tp(n:Nat)(zq:zh×Bool->Option (Str×Bool))(x:zh×Bool):Option (Str×Bool):=
 zb (zq ((⟨x.1.kind,x.1.name,x.1.num,x.1.decl,x.1.list⟩:zh),x.2)) fun y1=>
 zb (kg (⟨x.1.kind,x.1.name,x.1.num,x.1.decl,x.1.list⟩:zh)) fun y2=>
 bif y2 then
  some (y1.1,y1.2)
 else
  need (QZ ([40]:Str).length y1.1.length)<|
  need (QZ (([40]:Str)++y1.1).length ([41]:Str).length)<|
  some (([40]:Str)++y1.1++([41]:Str),y1.2)
theorem rD(n:Nat)(zq cond_supports':zh×Bool->Option (Str×Bool))(h_cond_supports: ∀z,Le (zq z) (cond_supports' z))(x:zh×Bool):Le (Tp n zq x) (qE cond_supports' x):=by unfold Tp qE;exact(.bind (h_cond_supports _) fun _=>(.bind .rfl fun _=>(.bif .rfl (.need (.need .rfl)))))
def yo(n:Nat)(zq:zh×Bool->Option (Str×Bool))(x:(List zh×Str)×Bool):Option (Str×Bool):=
 ZP n (fun(s1:Int×Bool×List Str)=>
   bif decide (s1.1<(x.1.1.length:Int))then
    zb (geti x.1.1 s1.1) fun y2=>
    zb (Tp n zq ((⟨y2.kind,y2.name,y2.num,y2.decl,y2.list⟩:zh),s1.2.1)) fun y3=>
    need (zO s1.2.2.length 1 16)<|
    some (LO.again (w64 (s1.1+1),y3.2,s1.2.2++[y3.1]))
   else
    some (LO.out (s1.2.1,s1.2.2)):Int×Bool×List Str->Option (LO (Int×Bool×List Str) (Bool×List Str) _)) (0,x.2,[]) fun o4=>
 zb (ve (o4.2,x.1.2)) fun y5=>
 some (y5,o4.1)
theorem uC(n:Nat)(zq cond_supports':zh×Bool->Option (Str×Bool))(h_cond_supports: ∀z,Le (zq z) (cond_supports' z))(x:(List zh×Str)×Bool):Le (yo n zq x) (Ji cond_supports' x):=by unfold yo Ji;exact(.loop (fun _=>(.bif (.bind .rfl fun _=>(.bind (rD n _ _ h_cond_supports _) fun _=>(.need .rfl))) .rfl)) fun _=>(.bind .rfl fun _=> .rfl))
def Pw(n:Nat)(zq:zh×Bool->Option (Str×Bool))(x:zh×Bool):Option (Str×Bool):=
 bif x.1.kind==7 then
  zb (Ru n x.1.decl) fun y1=>
  need (QZ ([40]:Str).length y1.1.length)<|
  need (QZ (([40]:Str)++y1.1).length ([41]:Str).length)<|
  some (([40]:Str)++y1.1++([41]:Str),bif x.2 then true else y1.2 != 0)
 else
  bif x.1.kind==8 then
   some ([40,117,110,107,110,111,119,110,41],x.2)
  else
   bif x.1.kind==3 then
    zb (geti x.1.list 0) fun y2=>
    zb (Tp n zq ((⟨y2.kind,y2.name,y2.num,y2.decl,y2.list⟩:zh),x.2)) fun y3=>
    need (QZ ([110,111,116,32]:Str).length y3.1.length)<|
    some (([110,111,116,32]:Str)++y3.1,y3.2)
   else
    bif x.1.kind==2 then
     zb (yo n zq ((x.1.list,[32,111,114,32]),x.2)) fun y4=>
     some (y4.1,y4.2)
    else
     zb (yo n zq ((x.1.list,[32,97,110,100,32]),x.2)) fun y5=>
     some (y5.1,y5.2)
def lD(n:Nat):zh×Bool->Option (Str×Bool):=Gd (Pw n) n
theorem MM(n:Nat)(zq cond_supports':zh×Bool->Option (Str×Bool))(h_cond_supports: ∀z,Le (zq z) (cond_supports' z))(x:zh×Bool):Le (Pw n zq x) (Q8 cond_supports' x):=by unfold Pw Q8;exact(.bif (.bind (LK n _) fun _=>(.need (.need .rfl))) (.bif .rfl (.bif (.bind .rfl fun _=>(.bind (rD n _ _ h_cond_supports _) fun _=>(.need .rfl))) (.bif (.bind (uC n _ _ h_cond_supports _) fun _=> .rfl) (.bind (uC n _ _ h_cond_supports _) fun _=> .rfl)))))
theorem wL(n:Nat)(x:zh×Bool):Le (lD n x) (zq x):=Le.rec (fun S S' h x=>MM n S S' h x) n x
def Yk(n:Nat)(x:zh):Option (Str×Int):=
 zb (Il n (⟨x.kind,x.name,x.num,x.decl,x.list⟩:zh)) fun y1=>
 bif y1 != 0 then
  some ([],y1)
 else
  zR (X:=Str×Bool) (
    zb (Vp n (⟨x.kind,x.name,x.num,x.decl,x.list⟩:zh)) fun y2=>
    bif y2==0 then
     zb (KC n (⟨x.kind,x.name,x.num,x.decl,x.list⟩:zh)) fun y3=>
     some (LX.out (y3,false))
    else
     zb (lD n ((⟨x.kind,x.name,x.num,x.decl,x.list⟩:zh),false)) fun y4=>
     some (LX.out (y4.1,y4.2))) fun j5=>
  bif bif j5.2 then true else decide ((j5.1.length:Int)>4000)then
   some ([],28)
  else
   some (j5.1,0)
theorem tu(n:Nat)(x:zh):Le (Yk n x) (Rf x):=by unfold Yk Rf;exact(.bind (Dv n _) fun _=>(.bif .rfl (.join (.bind (sD n _) fun _=>(.bif (.bind (gK n _) fun _=> .rfl) (.bind (wL n _) fun _=> .rfl))) fun _=>(.bif .rfl .rfl))))
def Z0(n:Nat)(x:Str):Option (List zg):=
 zb (Jp n x) fun y1=>
 zb (parseF y1.1) fun y2=>
 bif bif y1.2 != 0 then true else y2.2 != 0 then
  some []
 else
  some y2.1
theorem qG(n:Nat)(x:Str):Le (Z0 n x) (Zz x):=by unfold Z0 Zz;exact(.bind (OD n _) fun _=>(.bind .rfl fun _=>(.bif .rfl .rfl)))
def nu(n:Nat)(x:List zg×Int):Option (List (List zg)×Int):=
 zb (Qh n x.1) fun y1=>
 bif y1 != 0 then
  some ([],y1)
 else
  bif bif decide (x.2<1)then true else decide (x.2>24)then
   some ([],2)
  else
   ZP n (fun(s2:(Int×Int)×List (List zg))=>
     bif decide (s2.1.2<(x.1.length:Int))then
      zR (X:=(Int×Int)×List (List zg)) (
        zb (geti x.1 s2.1.2) fun y3=>
        bif y3.token.kind==x.2 then
         need (decide (0<=s2.1.1)&&(decide (s2.1.1<=s2.1.2)&&(decide (s2.1.2<=s2.1.2)&&decide (s2.1.2<=(x.1.length:Int))))&&decide (s2.1.2=s2.1.2))<|
         zb (Jo n (List.drop s2.1.1.toNat (List.take s2.1.2.toNat x.1))) fun y4=>
         need (zO s2.2.length 1 24)<|
         some (LX.out ((w64 (s2.1.2+1),s2.1.2),s2.2++[y4]))
        else
         some (LX.out ((s2.1.1,s2.1.2),s2.2))) fun j5=>
      some (LO.again ((j5.1.1,w64 (j5.1.2+1)),j5.2))
     else
      some (LO.out (s2.1.1,s2.2)):(Int×Int)×List (List zg)->Option (LO ((Int×Int)×List (List zg)) (Int×List (List zg)) _)) ((0,0),[]) fun o6=>
   need (decide (0<=o6.1)&&decide (o6.1<=(x.1.length:Int)))<|
   zb (Jo n (List.drop o6.1.toNat x.1)) fun y7=>
   need (zO o6.2.length 1 24)<|
   some (o6.2++[y7],0)
theorem bK(n:Nat)(x:List zg×Int):Le (nu n x) (Kk x):=by unfold nu Kk;exact(.bind (QJ n _) fun _=>(.bif .rfl (.bif .rfl (.loop (fun _=>(.bif (.join (.bind .rfl fun _=>(.bif (.need (.bind (pu n _) fun _=>(.need .rfl))) .rfl)) fun _=> .rfl) .rfl)) fun _=>(.need (.bind (pu n _) fun _=>(.need .rfl)))))))
def zx(n:Nat)(x:zf):Option (Bool×zf):=
 ZP n (fun(s1:zf)=>
   zb (zB s1) fun y2=>
   bif y2==13 then
    zb (zC s1) fun y3=>
    some (LO.again y3.2)
   else
    some (LO.out s1):zf->Option (LO (zf) (zf) _)) x fun o4=>
 some (decide ((o4.v.length:Int)<(x.v.length:Int)),o4)
theorem zy(n:Nat)(x:zf):Le (zx n x) (zw x):=by unfold zx zw;exact(.loop (fun _=>(.bind .rfl fun _=>(.bif (.bind .rfl fun _=> .rfl) .rfl))) fun _=> .rfl)
def ZI(n:Nat)(x:List Str×zf):Option (Str×zf):=
 ZP n (fun(s1:Int×zf)=>
   bif decide (s1.1<(x.1.length:Int))then
    zb (geti x.1 s1.1) fun y2=>
    zb (zB s1.2) fun y3=>
    zb (zt (y3==1) (geti s1.2.v 0) (default:zg)) fun y4=>
    zb (zt (y3==1) (QH n (y4.token.text,y2)) (default:Bool)) fun y5=>
    bif bif y3==1 then y5 else false then
     zb (zC s1.2) fun y6=>
     some (LO.ret (y2,y6.2))
    else
     some (LO.again (w64 (s1.1+1),s1.2))
   else
    some (LO.out s1.2):Int×zf->Option (LO (Int×zf) (zf) _)) (0,x.2) fun o7=>
 some ([],o7)
theorem qF(n:Nat)(x:List Str×zf):Le (ZI n x) (Zc x):=by unfold ZI Zc;exact(.loop (fun _=>(.bif (.bind .rfl fun _=>(.bind .rfl fun _=>(.bind .rfl fun _=>(.bind (.cond (Rl n _)) fun _=>(.bif (.bind .rfl fun _=> .rfl) .rfl))))) .rfl)) fun _=> .rfl)
def qZ(n:Nat)(x:zf):Option ((zh×Bool)×zf):=
 zb (zB x) fun y1=>
 bif y1 != 21 then
  some (((⟨0,[],0,(⟨[],[],false⟩:zF),[]⟩:zh),false),x)
 else
  zb (zC x) fun y2=>
  zb (zx n (⟨y2.1.list⟩:zf)) fun y3=>
  zR (X:=(Int×Str×Int×Str×Bool)×zf×(Int×Str×Int×Str×Bool)) (
    zb (ZI n ([[109,105,110,45,119,105,100,116,104],[109,97,120,45,119,105,100,116,104]],y3.2)) fun y4=>
    bif y4.1==[]then
     some (LX.ret (((⟨5,[],0,(⟨[],[],false⟩:zF),[]⟩:zh),false),y2.2))
    else
     bif y4.1==[109,97,120,45,119,105,100,116,104]then
      some (LX.out ((0,[],0,[],false),y4.2,(6,[],0,[],false)))
     else
      some (LX.out ((0,[],0,[],false),y4.2,(5,[],0,[],false)))) fun j5=>
  zb (zx n j5.2.1) fun y6=>
  zb (zB y6.2) fun y7=>
  bif y7 != 16 then
   some (((⟨j5.2.2.1,j5.2.2.2.1,j5.2.2.2.2.1,(⟨j5.2.2.2.2.2.1,[],j5.2.2.2.2.2.2⟩:zF),[]⟩:zh),false),y2.2)
  else
   zb (zC y6.2) fun y8=>
   zb (zx n y8.2) fun y9=>
   zb (zB y9.2) fun y10=>
   zb (zt (y10 != 12) (zB y9.2) (default:Int)) fun y11=>
   bif bif y10 != 12 then y11 != 10 else false then
    some (((⟨j5.2.2.1,j5.2.2.2.1,j5.2.2.2.2.1,(⟨j5.2.2.2.2.2.1,[],j5.2.2.2.2.2.2⟩:zF),[]⟩:zh),false),y2.2)
   else
    zb (zC y9.2) fun y12=>
    zb (zx n y12.2) fun y13=>
    zb (zt (y12.1.token.kind==12) (QH n (y12.1.token.unit,[112,120])) (default:Bool)) fun y14=>
    zb (zt (bif bif bif y12.1.token.kind==12 then y14 else false then true else bif y12.1.token.kind==10 then y12.1.token.num==0 else false then decide (y12.1.token.num>=0)else false) (vo n y12.1.token.num) (default:Int)) fun y15=>
    some (((⟨j5.2.2.1,j5.2.2.2.1,y12.1.token.num,(⟨j5.2.2.2.2.2.1,[],j5.2.2.2.2.2.2⟩:zF),[]⟩:zh),bif bif bif bif bif y12.1.token.kind==12 then y14 else false then true else bif y12.1.token.kind==10 then y12.1.token.num==0 else false then decide (y12.1.token.num>=0)else false then y15==0 else false then(y13.2.v.length:Int)==0 else false),y2.2)
theorem VE(n:Nat)(x:zf):Le (qZ n x) (ZU x):=by unfold qZ ZU;exact(.bind .rfl fun _=>(.bif .rfl (.bind .rfl fun _=>(.bind (zy n _) fun _=>(.join (.bind (qF n _) fun _=>(.bif .rfl (.bif .rfl .rfl))) fun _=>(.bind (zy n _) fun _=>(.bind .rfl fun _=>(.bif .rfl (.bind .rfl fun _=>(.bind (zy n _) fun _=>(.bind .rfl fun _=>(.bind .rfl fun _=>(.bif .rfl (.bind .rfl fun _=>(.bind (zy n _) fun _=>(.bind (.cond (Rl n _)) fun _=>(.bind (.cond (rC n _)) fun _=> .rfl)))))))))))))))))
def sw(n:Nat)(x:zf):Option ((zh×Bool)×zf):=
 zb (zx n x) fun y1=>
 zb (ZI n ([[110,111,116],[111,110,108,121]],y1.2)) fun y2=>
 zb (zx n y2.2) fun y3=>
 zR (X:=zf×(Int×Str×Int×Str×Bool)×(Int×Str×Int×Str×Bool)×List zh) (
   zb (zB y3.2) fun y4=>
   bif y4==1 then
    zb (zC y3.2) fun y5=>
    zb (Qe n y5.1.token.text) fun y6=>
    zb (wo n y6) fun y7=>
    bif !y7 then
     some (LX.ret (((⟨1,[],0,(⟨[],[],false⟩:zF),[]⟩:zh),false),y5.2))
    else
     need (zO 0 1 104)<|
     some (LX.out (y5.2,(0,[],0,[],false),(1,[],0,[],false),[(⟨4,y6,0,(⟨[],[],false⟩:zF),[]⟩:zh)]))
   else
    zb (qZ n y3.2) fun y8=>
    bif bif !y8.1.2 then true else !(y2.1==[])then
     some (LX.ret (((⟨1,[],0,(⟨[],[],false⟩:zF),[]⟩:zh),false),y8.2))
    else
     need (zO 0 1 104)<|
     some (LX.out (y8.2,(0,[],0,[],false),(1,[],0,[],false),[(⟨y8.1.1.kind,y8.1.1.name,y8.1.1.num,y8.1.1.decl,y8.1.1.list⟩:zh)]))) fun j9=>
 zb (zx n j9.1) fun y10=>
 ZP n (fun(s11:zf×(Int×Str×Int×Str×Bool)×(Int×Str×Int×Str×Bool)×List zh)=>
   bif decide ((s11.1.v.length:Int)>0)then
    zb (ZI n ([[97,110,100]],s11.1)) fun y12=>
    bif y12.1==[]then
     some (LO.ret (((⟨s11.2.2.1.1,s11.2.2.1.2.1,s11.2.2.1.2.2.1,(⟨s11.2.2.1.2.2.2.1,[],s11.2.2.1.2.2.2.2⟩:zF),s11.2.2.2⟩:zh),false),y12.2))
    else
     zb (zx n y12.2) fun y13=>
     zb (qZ n y13.2) fun y14=>
     bif !y14.1.2 then
      some (LO.ret (((⟨s11.2.2.1.1,s11.2.2.1.2.1,s11.2.2.1.2.2.1,(⟨s11.2.2.1.2.2.2.1,[],s11.2.2.1.2.2.2.2⟩:zF),s11.2.2.2⟩:zh),false),y14.2))
     else
      need (zO s11.2.2.2.length 1 104)<|
      zb (zx n y14.2) fun y15=>
      some (LO.again (y15.2,(s11.2.1.1,s11.2.1.2.1,s11.2.1.2.2.1,s11.2.1.2.2.2.1,s11.2.1.2.2.2.2),(s11.2.2.1.1,s11.2.2.1.2.1,s11.2.2.1.2.2.1,s11.2.2.1.2.2.2.1,s11.2.2.1.2.2.2.2),s11.2.2.2++[(⟨y14.1.1.kind,y14.1.1.name,y14.1.1.num,y14.1.1.decl,y14.1.1.list⟩:zh)]))
   else
    some (LO.out (s11.1,(s11.2.1.1,s11.2.1.2.1,s11.2.1.2.2.1,s11.2.1.2.2.2.1,s11.2.1.2.2.2.2),(s11.2.2.1.1,s11.2.2.1.2.1,s11.2.2.1.2.2.1,s11.2.2.1.2.2.2.1,s11.2.2.1.2.2.2.2),s11.2.2.2)):zf×(Int×Str×Int×Str×Bool)×(Int×Str×Int×Str×Bool)×List zh->Option (LO (zf×(Int×Str×Int×Str×Bool)×(Int×Str×Int×Str×Bool)×List zh) (zf×(Int×Str×Int×Str×Bool)×(Int×Str×Int×Str×Bool)×List zh) _)) (y10.2,(j9.2.1.1,j9.2.1.2.1,j9.2.1.2.2.1,j9.2.1.2.2.2.1,j9.2.1.2.2.2.2),(j9.2.2.1.1,j9.2.2.1.2.1,j9.2.2.1.2.2.1,j9.2.2.1.2.2.2.1,j9.2.2.1.2.2.2.2),j9.2.2.2) fun o16=>
 zR (X:=(Int×Str×Int×Str×Bool)×(Int×Str×Int×Str×Bool×List zh)) (
   bif y2.1==[110,111,116]then
    some (LX.out ((o16.2.1.1,o16.2.1.2.1,o16.2.1.2.2.1,o16.2.1.2.2.2.1,o16.2.1.2.2.2.2),(3,[],0,[],false,[(⟨o16.2.2.1.1,o16.2.2.1.2.1,o16.2.2.1.2.2.1,(⟨o16.2.2.1.2.2.2.1,[],o16.2.2.1.2.2.2.2⟩:zF),o16.2.2.2⟩:zh)])))
   else
    some (LX.out ((o16.2.1.1,o16.2.1.2.1,o16.2.1.2.2.1,o16.2.1.2.2.2.1,o16.2.1.2.2.2.2),(o16.2.2.1.1,o16.2.2.1.2.1,o16.2.2.1.2.2.1,o16.2.2.1.2.2.2.1,o16.2.2.1.2.2.2.2,o16.2.2.2)))) fun j17=>
 some (((⟨j17.2.1,j17.2.2.1,j17.2.2.2.1,(⟨j17.2.2.2.2.1,[],j17.2.2.2.2.2.1⟩:zF),j17.2.2.2.2.2.2⟩:zh),true),o16.1)
theorem pM(n:Nat)(x:zf):Le (sw n x) (Qx x):=by unfold sw Qx;exact(.bind (zy n _) fun _=>(.bind (qF n _) fun _=>(.bind (zy n _) fun _=>(.join (.bind .rfl fun _=>(.bif (.bind .rfl fun _=>(.bind (QS n _) fun _=>(.bind (tC n _) fun _=>(.bif .rfl (.need .rfl))))) (.bind (VE n _) fun _=>(.bif .rfl (.need .rfl))))) fun _=>(.bind (zy n _) fun _=>(.loop (fun _=>(.bif (.bind (qF n _) fun _=>(.bif .rfl (.bind (zy n _) fun _=>(.bind (VE n _) fun _=>(.bif .rfl (.need (.bind (zy n _) fun _=> .rfl))))))) .rfl)) fun _=>(.join (.bif .rfl .rfl) fun _=> .rfl)))))))
def Vi(n:Nat)(x:List zg):Option (zh×Int):=
 zb (nu n (x,18)) fun y1=>
 bif y1.2 != 0 then
  some ((⟨0,[],0,(⟨[],[],false⟩:zF),[]⟩:zh),y1.2)
 else
  zR (X:=Int×Str×Int×Str×Bool) (
    bif (y1.1.length:Int)==1 then
     zb (zx n (⟨x⟩:zf)) fun y2=>
     bif (y2.2.v.length:Int)==0 then
      some (LX.ret ((⟨1,[],0,(⟨[],[],false⟩:zF),[]⟩:zh),0))
     else
      some (LX.out (0,[],0,[],false))
    else
     some (LX.out (0,[],0,[],false))) fun j3=>
  bif decide ((y1.1.length:Int)>64)then
   some ((⟨0,[],0,(⟨[],[],false⟩:zF),[]⟩:zh),4)
  else
   ZP n (fun(s4:Int×(Int×Str×Int×Str×Bool)×List zh)=>
     bif decide (s4.1<(y1.1.length:Int))then
      zb (geti y1.1 s4.1) fun y5=>
      zb (sw n (⟨y5⟩:zf)) fun y6=>
      zR (X:=(Int×Str×Int×Str×Bool)×List zh×zh) (
        bif !y6.1.2 then
         some (LX.out ((s4.2.1.1,s4.2.1.2.1,s4.2.1.2.2.1,s4.2.1.2.2.2.1,s4.2.1.2.2.2.2),s4.2.2,(⟨3,[],0,(⟨[],[],false⟩:zF),[(⟨1,[],0,(⟨[],[],false⟩:zF),[(⟨4,[97,108,108],0,(⟨[],[],false⟩:zF),[]⟩:zh)]⟩:zh)]⟩:zh)))
        else
         some (LX.out ((s4.2.1.1,s4.2.1.2.1,s4.2.1.2.2.1,s4.2.1.2.2.2.1,s4.2.1.2.2.2.2),s4.2.2,(⟨y6.1.1.kind,y6.1.1.name,y6.1.1.num,y6.1.1.decl,y6.1.1.list⟩:zh)))) fun j7=>
      need (zO j7.2.1.length 1 104)<|
      some (LO.again (w64 (s4.1+1),(j7.1.1,j7.1.2.1,j7.1.2.2.1,j7.1.2.2.2.1,j7.1.2.2.2.2),j7.2.1++[(⟨j7.2.2.kind,j7.2.2.name,j7.2.2.num,j7.2.2.decl,j7.2.2.list⟩:zh)]))
     else
      some (LO.out ((s4.2.1.1,s4.2.1.2.1,s4.2.1.2.2.1,s4.2.1.2.2.2.1,s4.2.1.2.2.2.2),s4.2.2)):Int×(Int×Str×Int×Str×Bool)×List zh->Option (LO (Int×(Int×Str×Int×Str×Bool)×List zh) ((Int×Str×Int×Str×Bool)×List zh) _)) (0,(2,[],0,[],false),[]) fun o8=>
   some ((⟨o8.1.1,o8.1.2.1,o8.1.2.2.1,(⟨o8.1.2.2.2.1,[],o8.1.2.2.2.2⟩:zF),o8.2⟩:zh),0)
theorem oo(n:Nat)(x:List zg):Le (Vi n x) (Yf x):=by unfold Vi Yf;exact(.bind (bK n _) fun _=>(.bif .rfl (.join (.bif (.bind (zy n _) fun _=>(.bif .rfl .rfl)) .rfl) fun _=>(.bif .rfl (.loop (fun _=>(.bif (.bind .rfl fun _=>(.bind (pM n _) fun _=>(.join (.bif .rfl .rfl) fun _=>(.need .rfl)))) .rfl)) fun _=> .rfl)))))
def zS(n:Nat)(x:Str×Str×Int×Int):Option Bool:=
 zb (Z0 n x.1) fun y1=>
 zb (Vi n y1) fun y2=>
 zb (Yk n (⟨y2.1.kind,y2.1.name,y2.1.num,y2.1.decl,y2.1.list⟩:zh)) fun y3=>
 bif bif bif y2.2 != 0 then true else y3.2 != 0 then true else !(y3.1==x.2.1)then
  some false
 else
  ZP n (fun(s4:Int)=>
    bif decide (s4<30)then
     zb (qX n ((⟨y2.1.kind,y2.1.name,y2.1.num,y2.1.decl,y2.1.list⟩:zh),(⟨s4⟩:VEnv),[])) fun y5=>
     bif bif y5.2 != 0 then true else !(y5.1==(bif decide (s4>=x.2.2.1)then decide (s4<=x.2.2.2)else false))then
      some (LO.ret false)
     else
      some (LO.again (w64 (s4+1)))
    else
     some (LO.out ()):Int->Option (LO (Int) (Unit) _)) 0 fun o6=>
  some true
theorem zT(n:Nat)(x:Str×Str×Int×Int):Le (zS n x) (zU x):=by unfold zS zU;exact(.bind (qG n _) fun _=>(.bind (oo n _) fun _=>(.bind (tu n _) fun _=>(.bif .rfl (.loop (fun _=>(.bif (.bind (QI n _) fun _=>(.bif .rfl .rfl)) .rfl)) fun _=> .rfl)))))
def Vk(n:Nat)(x:List zg):Option (List zg):=
 ZP n (fun(s1:List zg)=>
   zb (zt (decide ((s1.length:Int)>0)) (geti s1 0) (default:zg)) fun y2=>
   zb (zt (decide ((s1.length:Int)>0)) (ZG ((⟨y2.token,y2.list⟩:zg),13)) (default:Bool)) fun y3=>
   bif bif decide ((s1.length:Int)>0)then y3 else false then
    need (decide (1<=(s1.length:Int)))<|
    some (LO.again (List.drop 1 s1))
   else
    some (LO.out s1):List zg->Option (LO (List zg) (List zg) _)) x fun o4=>
 some o4
theorem su(n:Nat)(x:List zg):Le (Vk n x) (jg x):=by unfold Vk jg;exact(.loop (fun _=>(.bind .rfl fun _=>(.bind .rfl fun _=>(.bif (.need .rfl) .rfl)))) fun _=> .rfl)
def Bl(n:Nat)(x:List zg):Option (List zg):=
 ZP n (fun(s1:List zg)=>
   zb (zt (decide ((s1.length:Int)>0)) (geti s1 (w64 ((s1.length:Int) - 1))) (default:zg)) fun y2=>
   zb (zt (decide ((s1.length:Int)>0)) (ZG ((⟨y2.token,y2.list⟩:zg),13)) (default:Bool)) fun y3=>
   bif bif decide ((s1.length:Int)>0)then y3 else false then
    need (decide (0<=w64 ((s1.length:Int) - 1))&&decide (w64 ((s1.length:Int) - 1)<=(s1.length:Int)))<|
    some (LO.again (List.take (w64 ((s1.length:Int) - 1)).toNat s1))
   else
    some (LO.out s1):List zg->Option (LO (List zg) (List zg) _)) x fun o4=>
 some o4
theorem Av(n:Nat)(x:List zg):Le (Bl n x) (ug x):=by unfold Bl ug;exact(.loop (fun _=>(.bind .rfl fun _=>(.bind .rfl fun _=>(.bif (.need .rfl) .rfl)))) fun _=> .rfl)
def Ju(n:Nat)(x:List zg):Option (zF×Bool):=
 zb (Vk n x) fun y1=>
 zb (Bl n y1) fun y2=>
 zb (zt (!((y2.length:Int)==0)) (geti y2 0) (default:zg)) fun y3=>
 zb (zt (!((y2.length:Int)==0)) (ZG ((⟨y3.token,y3.list⟩:zg),1)) (default:Bool)) fun y4=>
 bif bif (y2.length:Int)==0 then true else !y4 then
  some ((⟨[],[],false⟩:zF),false)
 else
  zb (geti y2 0) fun y5=>
  zR (X:=List zg×(Str×Bool)×(Str×Bool)) (
    zb (strings_HasPrefix (y5.token.text,[45,45])) fun y6=>
    bif !y6 then
     zb (Qe n y5.token.text) fun y7=>
     some (LX.out (y2,([],false),(y7,false)))
    else
     some (LX.out (y2,([],false),(y5.token.text,false)))) fun j8=>
  need (decide (1<=(j8.1.length:Int)))<|
  zb (Vk n (List.drop 1 j8.1)) fun y9=>
  zb (zt (!((y9.length:Int)==0)) (geti y9 0) (default:zg)) fun y10=>
  zb (zt (!((y9.length:Int)==0)) (ZG ((⟨y10.token,y10.list⟩:zg),16)) (default:Bool)) fun y11=>
  bif bif (y9.length:Int)==0 then true else !y11 then
   some ((⟨[],[],false⟩:zF),false)
  else
   need (decide (1<=(y9.length:Int)))<|
   zb (Vk n (List.drop 1 y9)) fun y12=>
   zR (X:=List zg×(Str×Bool)×(Str×Bool)) (
     zb (zt (decide (w64 ((y12.length:Int) - 1)>0)) (geti y12 (w64 ((y12.length:Int) - 1))) (default:zg)) fun y13=>
     zb (zt (decide (w64 ((y12.length:Int) - 1)>0)) (ZG ((⟨y13.token,y13.list⟩:zg),1)) (default:Bool)) fun y14=>
     zb (zt (bif decide (w64 ((y12.length:Int) - 1)>0)then y14 else false) (geti y12 (w64 ((y12.length:Int) - 1))) (default:zg)) fun y15=>
     zb (zt (bif decide (w64 ((y12.length:Int) - 1)>0)then y14 else false) (QH n (y15.token.text,[105,109,112,111,114,116,97,110,116])) (default:Bool)) fun y16=>
     bif bif bif decide (w64 ((y12.length:Int) - 1)>0)then y14 else false then y16 else false then
      need (decide (0<=w64 ((y12.length:Int) - 1))&&decide (w64 ((y12.length:Int) - 1)<=(y12.length:Int)))<|
      zb (Bl n (List.take (w64 ((y12.length:Int) - 1)).toNat y12)) fun y17=>
      zb (zt (decide ((y17.length:Int)>0)) (geti y17 (w64 ((y17.length:Int) - 1))) (default:zg)) fun y18=>
      zb (zt (decide ((y17.length:Int)>0)) (Ai (⟨y18.token,y18.list⟩:zg)) (default:Bool)) fun y19=>
      bif bif decide ((y17.length:Int)>0)then y19 else false then
       need (decide (0<=w64 ((y17.length:Int) - 1))&&decide (w64 ((y17.length:Int) - 1)<=(y17.length:Int)))<|
       zb (Bl n (List.take (w64 ((y17.length:Int) - 1)).toNat y17)) fun y20=>
       some (LX.out (y20,(j8.2.1.1,j8.2.1.2),(j8.2.2.1,true)))
      else
       some (LX.out (y12,(j8.2.1.1,j8.2.1.2),(j8.2.2.1,j8.2.2.2)))
     else
      some (LX.out (y12,(j8.2.1.1,j8.2.1.2),(j8.2.2.1,j8.2.2.2)))) fun j21=>
   zb (Co n j21.1) fun y22=>
   zb (zt (!(y22.2 != 0)) (Dl n (⟨j21.2.2.1,y22.1,j21.2.2.2⟩:zF)) (default:Int)) fun y23=>
   bif bif y22.2 != 0 then true else y23 != 0 then
    some ((⟨[],[],false⟩:zF),false)
   else
    some ((⟨j21.2.2.1,y22.1,j21.2.2.2⟩:zF),true)
theorem kJ(n:Nat)(x:List zg):Le (Ju n x) (Pj x):=by unfold Ju Pj;exact(.bind (su n _) fun _=>(.bind (Av n _) fun _=>(.bind .rfl fun _=>(.bind .rfl fun _=>(.bif .rfl (.bind .rfl fun _=>(.join (.bind .rfl fun _=>(.bif (.bind (QS n _) fun _=> .rfl) .rfl)) fun _=>(.need (.bind (su n _) fun _=>(.bind .rfl fun _=>(.bind .rfl fun _=>(.bif .rfl (.need (.bind (su n _) fun _=>(.join (.bind .rfl fun _=>(.bind .rfl fun _=>(.bind .rfl fun _=>(.bind (.cond (Rl n _)) fun _=>(.bif (.need (.bind (Av n _) fun _=>(.bind .rfl fun _=>(.bind .rfl fun _=>(.bif (.need (.bind (Av n _) fun _=> .rfl)) .rfl))))) .rfl))))) fun _=>(.bind (FC n _) fun _=>(.bind (.cond (Bv n _)) fun _=>(.bif .rfl .rfl))))))))))))))))))
def Ku(n:Nat)(x:List zg):Option (zF×Bool×Int):=
 zb (Qh n x) fun y1=>
 bif y1 != 0 then
  some ((⟨[],[],false⟩:zF),false,y1)
 else
  zb (Ju n x) fun y2=>
  some (y2.1,y2.2,0)
theorem lJ(n:Nat)(x:List zg):Le (Ku n x) (Rj x):=by unfold Ku Rj;exact(.bind (QJ n _) fun _=>(.bif .rfl (.bind (kJ n _) fun _=> .rfl)))
def Qa(n:Nat)(zu:zf->Option ((zh×Bool)×zf))(x:zf):Option ((zh×Bool)×zf):=
 zb (zB x) fun y1=>
 bif y1==2 then
  zb (zC x) fun y2=>
  some (((⟨8,[],0,(⟨[],[],false⟩:zF),[]⟩:zh),true),y2.2)
 else
  bif y1==21 then
   zb (zC x) fun y3=>
   zb (Ku n y3.1.list) fun y4=>
   bif bif y4.2.2==0 then y4.2.1 else false then
    some (((⟨7,[],0,y4.1,[]⟩:zh),true),y3.2)
   else
    zb (zu (⟨y3.1.list⟩:zf)) fun y5=>
    bif y5.1.2 then
     some (((⟨y5.1.1.kind,y5.1.1.name,y5.1.1.num,y5.1.1.decl,y5.1.1.list⟩:zh),true),y3.2)
    else
     some (((⟨8,[],0,(⟨[],[],false⟩:zF),[]⟩:zh),true),y3.2)
  else
   some (((⟨8,[],0,(⟨[],[],false⟩:zF),[]⟩:zh),false),x)
theorem ow(n:Nat)(zu cond_reader_told':zf->Option ((zh×Bool)×zf))(h_cond_reader_told: ∀z,Le (zu z) (cond_reader_told' z))(x:zf):Le (Qa n zu x) (qg cond_reader_told' x):=by unfold Qa qg;exact(.bind .rfl fun _=>(.bif (.bind .rfl fun _=> .rfl) (.bif (.bind .rfl fun _=>(.bind (lJ n _) fun _=>(.bif .rfl (.bind (h_cond_reader_told _) fun _=>(.bif .rfl .rfl))))) .rfl)))
def Dx(n:Nat)(zu:zf->Option ((zh×Bool)×zf))(x:zf):Option ((zh×Bool)×zf):=
 zb (zx n x) fun y1=>
 zb (ZI n ([[110,111,116]],y1.2)) fun y2=>
 bif !(y2.1==[])then
  zb (zx n y2.2) fun y3=>
  zb (Qa n zu y3.2) fun y4=>
  zb (zx n y4.2) fun y5=>
  some (((⟨3,[],0,(⟨[],[],false⟩:zF),[(⟨y4.1.1.kind,y4.1.1.name,y4.1.1.num,y4.1.1.decl,y4.1.1.list⟩:zh)]⟩:zh),bif bif y4.1.2 then y3.1 else false then(y5.2.v.length:Int)==0 else false),y5.2)
 else
  zb (Qa n zu y2.2) fun y6=>
  bif !y6.1.2 then
   some (((⟨y6.1.1.kind,y6.1.1.name,y6.1.1.num,y6.1.1.decl,y6.1.1.list⟩:zh),false),y6.2)
  else
   zb (zx n y6.2) fun y7=>
   bif (y7.2.v.length:Int)==0 then
    some (((⟨y6.1.1.kind,y6.1.1.name,y6.1.1.num,y6.1.1.decl,y6.1.1.list⟩:zh),true),y7.2)
   else
    ZP n (fun(s8:Bool×zf×(Int×Str×Int×Str×Bool)×(Int×Str×Int×Str×Bool)×List zh)=>
      bif decide ((s8.2.1.v.length:Int)>0)then
       zb (ZI n ([[97,110,100],[111,114]],s8.2.1)) fun y9=>
       bif bif bif (bif y9.1==[97,110,100]then 1 else bif y9.1==[111,114]then 2 else(0:Int))==0 then true else !s8.1 then true else bif s8.2.2.2.1.1 != 0 then s8.2.2.2.1.1 != (bif y9.1==[97,110,100]then 1 else bif y9.1==[111,114]then 2 else(0:Int))else false then
        some (LO.ret (((⟨s8.2.2.2.1.1,s8.2.2.2.1.2.1,s8.2.2.2.1.2.2.1,(⟨s8.2.2.2.1.2.2.2.1,[],s8.2.2.2.1.2.2.2.2⟩:zF),s8.2.2.2.2⟩:zh),false),y9.2))
       else
        zb (zx n y9.2) fun y10=>
        zb (Qa n zu y10.2) fun y11=>
        bif bif !y10.1 then true else !y11.1.2 then
         some (LO.ret (((⟨bif y9.1==[97,110,100]then 1 else bif y9.1==[111,114]then 2 else(0:Int),s8.2.2.2.1.2.1,s8.2.2.2.1.2.2.1,(⟨s8.2.2.2.1.2.2.2.1,[],s8.2.2.2.1.2.2.2.2⟩:zF),s8.2.2.2.2⟩:zh),false),y11.2))
        else
         need (zO s8.2.2.2.2.length 1 104)<|
         zb (zx n y11.2) fun y12=>
         some (LO.again (y12.1,y12.2,(s8.2.2.1.1,s8.2.2.1.2.1,s8.2.2.1.2.2.1,s8.2.2.1.2.2.2.1,s8.2.2.1.2.2.2.2),(bif y9.1==[97,110,100]then 1 else bif y9.1==[111,114]then 2 else(0:Int),s8.2.2.2.1.2.1,s8.2.2.2.1.2.2.1,s8.2.2.2.1.2.2.2.1,s8.2.2.2.1.2.2.2.2),s8.2.2.2.2++[(⟨y11.1.1.kind,y11.1.1.name,y11.1.1.num,y11.1.1.decl,y11.1.1.list⟩:zh)]))
      else
       some (LO.out (s8.2.1,(s8.2.2.1.1,s8.2.2.1.2.1,s8.2.2.1.2.2.1,s8.2.2.1.2.2.2.1,s8.2.2.1.2.2.2.2),(s8.2.2.2.1.1,s8.2.2.2.1.2.1,s8.2.2.2.1.2.2.1,s8.2.2.2.1.2.2.2.1,s8.2.2.2.1.2.2.2.2),s8.2.2.2.2)):Bool×zf×(Int×Str×Int×Str×Bool)×(Int×Str×Int×Str×Bool)×List zh->Option (LO (Bool×zf×(Int×Str×Int×Str×Bool)×(Int×Str×Int×Str×Bool)×List zh) (zf×(Int×Str×Int×Str×Bool)×(Int×Str×Int×Str×Bool)×List zh) _)) (y7.1,y7.2,(0,[],0,[],false),(0,[],0,[],false),[(⟨y6.1.1.kind,y6.1.1.name,y6.1.1.num,y6.1.1.decl,y6.1.1.list⟩:zh)]) fun o13=>
    some (((⟨o13.2.2.1.1,o13.2.2.1.2.1,o13.2.2.1.2.2.1,(⟨o13.2.2.1.2.2.2.1,[],o13.2.2.1.2.2.2.2⟩:zF),o13.2.2.2⟩:zh),true),o13.1)
def uD(n:Nat):zf->Option ((zh×Bool)×zf):=Gd (Dx n) n
theorem sM(n:Nat)(zu cond_reader_told':zf->Option ((zh×Bool)×zf))(h_cond_reader_told: ∀z,Le (zu z) (cond_reader_told' z))(x:zf):Le (Dx n zu x) (Qb cond_reader_told' x):=by unfold Dx Qb;exact(.bind (zy n _) fun _=>(.bind (qF n _) fun _=>(.bif (.bind (zy n _) fun _=>(.bind (ow n _ _ h_cond_reader_told _) fun _=>(.bind (zy n _) fun _=> .rfl))) (.bind (ow n _ _ h_cond_reader_told _) fun _=>(.bif .rfl (.bind (zy n _) fun _=>(.bif .rfl (.loop (fun _=>(.bif (.bind (qF n _) fun _=>(.bif .rfl (.bind (zy n _) fun _=>(.bind (ow n _ _ h_cond_reader_told _) fun _=>(.bif .rfl (.need (.bind (zy n _) fun _=> .rfl))))))) .rfl)) fun _=> .rfl))))))))
theorem WM(n:Nat)(x:zf):Le (uD n x) (zu x):=Le.rec (fun S S' h x=>sM n S S' h x) n x
def Q7(n:Nat)(x:List zg):Option (zh×Int):=
 zb (Qh n x) fun y1=>
 bif y1 != 0 then
  some ((⟨0,[],0,(⟨[],[],false⟩:zF),[]⟩:zh),y1)
 else
  zb (uD n (⟨x⟩:zf)) fun y2=>
  zb (zt (!(!y2.1.2)) (Zm n (⟨y2.1.1.kind,y2.1.1.name,y2.1.1.num,y2.1.1.decl,y2.1.1.list⟩:zh)) (default:Int)) fun y3=>
  bif bif !y2.1.2 then true else y3 != 0 then
   some ((⟨0,[],0,(⟨[],[],false⟩:zF),[]⟩:zh),12)
  else
   some ((⟨y2.1.1.kind,y2.1.1.name,y2.1.1.num,y2.1.1.decl,y2.1.1.list⟩:zh),0)
theorem Uw(n:Nat)(x:List zg):Le (Q7 n x) (qY x):=by unfold Q7 qY;exact(.bind (QJ n _) fun _=>(.bif .rfl (.bind (WM n _) fun _=>(.bind (.cond (Z5 n _)) fun _=>(.bif .rfl .rfl)))))
def Yw(n:Nat)(Zg:(zh×Int)×Int×List Bool->Option (Bool×Int))(x:(zh×Int)×Int×List Bool):Option (Bool×Int):=
 bif x.1.1.kind==4 then
  some (bif x.1.1.name==[97,108,108]then true else x.1.1.name==[115,99,114,101,101,110],x.2.1)
 else
  bif x.1.1.kind==5 then
   some (decide (x.1.2>=x.1.1.num),x.2.1)
  else
   bif x.1.1.kind==6 then
    some (decide (x.1.2<=x.1.1.num),x.2.1)
   else
    bif x.1.1.kind==7 then
     zb (Pp (x.2.1,x.2.2)) fun y1=>
     some (y1.1,y1.2)
    else
     bif x.1.1.kind==8 then
      some (false,x.2.1)
     else
      ZP n (fun(s2:(Bool×Bool×Int)×Int)=>
        bif decide (s2.1.2.2<(x.1.1.list.length:Int))then
         zb (geti x.1.1.list s2.1.2.2) fun y3=>
         zb (Zg (((⟨y3.kind,y3.name,y3.num,y3.decl,y3.list⟩:zh),x.1.2),s2.2,x.2.2)) fun y4=>
         some (LO.again ((bif s2.1.1 then y4.1 else false,bif s2.1.2.1 then true else y4.1,w64 (s2.1.2.2+1)),y4.2))
        else
         some (LO.out ((s2.1.1,s2.1.2.1),s2.2)):(Bool×Bool×Int)×Int->Option (LO ((Bool×Bool×Int)×Int) ((Bool×Bool)×Int) _)) ((true,false,0),x.2.1) fun o5=>
      bif x.1.1.kind==1 then
       some (o5.1.1,o5.2)
      else
       bif x.1.1.kind==2 then
        some (o5.1.2,o5.2)
       else
        some (!o5.1.2,o5.2)
def UD(n:Nat):(zh×Int)×Int×List Bool->Option (Bool×Int):=Gd (Yw n) n
theorem yL(n:Nat)(Zg cond_holds_2':(zh×Int)×Int×List Bool->Option (Bool×Int))(h_cond_holds_2: ∀z,Le (Zg z) (cond_holds_2' z))(x:(zh×Int)×Int×List Bool):Le (Yw n Zg x) (Vl cond_holds_2' x):=by unfold Yw Vl;exact(.bif .rfl (.bif .rfl (.bif .rfl (.bif (.bind .rfl fun _=> .rfl) (.bif .rfl (.loop (fun _=>(.bif (.bind .rfl fun _=>(.bind (h_cond_holds_2 _) fun _=> .rfl)) .rfl)) fun _=>(.bif .rfl (.bif .rfl .rfl))))))))
theorem IL(n:Nat)(x:(zh×Int)×Int×List Bool):Le (UD n x) (Zg x):=Le.rec (fun S S' h x=>yL n S S' h x) n x
def Np(n:Nat)(x:(zh×VEnv)×List Bool):Option (Bool×Int):=
 zb (Il n (⟨x.1.1.kind,x.1.1.name,x.1.1.num,x.1.1.decl,x.1.1.list⟩:zh)) fun y1=>
 bif y1 != 0 then
  some (false,y1)
 else
  zb (zt (!(bif decide (x.1.2.width<0)then true else decide (x.1.2.width>1000000000))) (Uo n (⟨x.1.1.kind,x.1.1.name,x.1.1.num,x.1.1.decl,x.1.1.list⟩:zh)) (default:List zF)) fun y2=>
  bif bif bif decide (x.1.2.width<0)then true else decide (x.1.2.width>1000000000)then true else(x.2.length:Int) != (y2.length:Int)then
   some (false,2)
  else
   zb (UD n (((⟨x.1.1.kind,x.1.1.name,x.1.1.num,x.1.1.decl,x.1.1.list⟩:zh),w64 (1000*x.1.2.width)),0,x.2)) fun y3=>
   some (y3.1,0)
theorem PD(n:Nat)(x:(zh×VEnv)×List Bool):Le (Np n x) (Wi x):=by unfold Np Wi;exact(.bind (Dv n _) fun _=>(.bif .rfl (.bind (.cond (Cv n _)) fun _=>(.bif .rfl (.bind (IL n _) fun _=> .rfl)))))
def z8(n:Nat)(x:Str×Str×Bool×Bool):Option Bool:=
 zb (Z0 n x.1) fun y1=>
 zb (Q7 n y1) fun y2=>
 zb (Yk n (⟨y2.1.kind,y2.1.name,y2.1.num,y2.1.decl,y2.1.list⟩:zh)) fun y3=>
 zb (Wo n (⟨y2.1.kind,y2.1.name,y2.1.num,y2.1.decl,y2.1.list⟩:zh)) fun y4=>
 bif bif bif bif y2.2 != 0 then true else y3.2 != 0 then true else y4.2 != 0 then true else !(y3.1==x.2.1)then
  some false
 else
  need (decide (0<=(y4.1.length:Int))&&decide ((y4.1.length:Int)<=(y4.1.length:Int))&&decide ((y4.1.length:Int)*1<=140737488355328)&&decide ((y4.1.length:Int)<=9223372036854775807))<|
  zb (Np n (((⟨y2.1.kind,y2.1.name,y2.1.num,y2.1.decl,y2.1.list⟩:zh),(⟨0⟩:VEnv)),List.replicate (Int.toNat (y4.1.length:Int)) false)) fun y5=>
  ZP n (fun(s6:Int×List Bool)=>
    bif decide (s6.1<(s6.2.length:Int))then
     need (decide (0<=s6.1)&&decide (s6.1<(s6.2.length:Int)))<|
     zb s6.2[s6.1.toNat]? fun y7=>
     some (LO.again (w64 (s6.1+1),List.set s6.2 s6.1.toNat true))
    else
     some (LO.out s6.2):Int×List Bool->Option (LO (Int×List Bool) (List Bool) _)) (0,List.replicate (Int.toNat (y4.1.length:Int)) false) fun o8=>
  zb (Np n (((⟨y2.1.kind,y2.1.name,y2.1.num,y2.1.decl,y2.1.list⟩:zh),(⟨0⟩:VEnv)),o8)) fun y9=>
  some (bif bif bif y5.2==0 then y9.2==0 else false then y5.1==x.2.2.2 else false then y9.1==x.2.2.1 else false)
theorem Zd(n:Nat)(x:Str×Str×Bool×Bool):Le (z8 n x) (zY x):=by unfold z8 zY;exact(.bind (qG n _) fun _=>(.bind (Uw n _) fun _=>(.bind (tu n _) fun _=>(.bind (yB n _) fun _=>(.bif .rfl (.need (.bind (PD n _) fun _=>(.loop (fun _=>(.bif (.need (.bind .rfl fun _=> .rfl)) .rfl)) fun _=>(.bind (PD n _) fun _=> .rfl)))))))))
def Ev(n:Nat)(x:Unit):Option Bool:=
 zb (zS n ([83,99,114,101,101,110,32,65,78,68,32,40,109,105,110,45,119,105,100,116,104,58,49,48,46,53,112,120,41,44,32,40,102,111,111,41],[115,99,114,101,101,110,32,97,110,100,32,40,109,105,110,45,119,105,100,116,104,58,32,49,48,46,53,112,120,41,44,32,110,111,116,32,97,108,108],11,99)) fun y1=>
 zb (zt y1 (z8 n ([110,111,116,32,40,40,97,58,98,41,32,111,114,32,40,99,41,41],[110,111,116,32,40,40,97,58,32,98,41,32,111,114,32,40,117,110,107,110,111,119,110,41,41],false,true)) (default:Bool)) fun y2=>
 some (bif y1 then y2 else false)
theorem aL(n:Nat)(x:Unit):Le (Ev n x) (Nk x):=by unfold Ev Nk;exact(.bind (zT n _) fun _=>(.bind (.cond (Zd n _)) fun _=> .rfl))
def yD(n:Nat)(x:Unit):Option Bool:=
 zb (zS n ([],[],0,99)) fun y1=>
 zb (zt y1 (zS n ([32,10],[],0,99)) (default:Bool)) fun y2=>
 zb (zt (bif y1 then y2 else false) (zS n ([97,108,108],[97,108,108],0,99)) (default:Bool)) fun y3=>
 zb (zt (bif bif y1 then y2 else false then y3 else false) (zS n ([112,114,105,110,116],[112,114,105,110,116],1,0)) (default:Bool)) fun y4=>
 zb (zt (bif bif bif y1 then y2 else false then y3 else false then y4 else false) (zS n ([110,111,116,32,112,114,105,110,116],[110,111,116,32,112,114,105,110,116],0,99)) (default:Bool)) fun y5=>
 zb (zt (bif bif bif bif y1 then y2 else false then y3 else false then y4 else false then y5 else false) (zS n ([111,110,108,121,32,115,99,114,101,101,110],[115,99,114,101,101,110],0,99)) (default:Bool)) fun y6=>
 zb (zt (bif bif bif bif bif y1 then y2 else false then y3 else false then y4 else false then y5 else false then y6 else false) (zS n ([40,109,105,110,45,119,105,100,116,104,58,53,112,120,41,32,97,110,100,32,40,32,77,65,88,45,87,73,68,84,72,32,58,32,55,80,88,32,41],[40,109,105,110,45,119,105,100,116,104,58,32,53,112,120,41,32,97,110,100,32,40,109,97,120,45,119,105,100,116,104,58,32,55,112,120,41],5,7)) (default:Bool)) fun y7=>
 zb (zt (bif bif bif bif bif bif y1 then y2 else false then y3 else false then y4 else false then y5 else false then y6 else false then y7 else false) (zS n ([110,111,116,32,115,99,114,101,101,110,32,97,110,100,32,40,109,105,110,45,119,105,100,116,104,58,53,112,120,41],[110,111,116,32,115,99,114,101,101,110,32,97,110,100,32,40,109,105,110,45,119,105,100,116,104,58,32,53,112,120,41],0,4)) (default:Bool)) fun y8=>
 zb (zt (bif bif bif bif bif bif bif y1 then y2 else false then y3 else false then y4 else false then y5 else false then y6 else false then y7 else false then y8 else false) (zS n ([40,109,97,120,45,119,105,100,116,104,58,48,41],[40,109,97,120,45,119,105,100,116,104,58,32,48,112,120,41],0,0)) (default:Bool)) fun y9=>
 zb (zt (bif bif bif bif bif bif bif bif y1 then y2 else false then y3 else false then y4 else false then y5 else false then y6 else false then y7 else false then y8 else false then y9 else false) (zS n ([112,114,105,110,116,44,40,109,105,110,45,119,105,100,116,104,58,57,112,120,41],[112,114,105,110,116,44,32,40,109,105,110,45,119,105,100,116,104,58,32,57,112,120,41],9,99)) (default:Bool)) fun y10=>
 zb (zt (bif bif bif bif bif bif bif bif bif y1 then y2 else false then y3 else false then y4 else false then y5 else false then y6 else false then y7 else false then y8 else false then y9 else false then y10 else false) (zS n ([120,44],[120,44,32,110,111,116,32,97,108,108],1,0)) (default:Bool)) fun y11=>
 zb (zt (bif bif bif bif bif bif bif bif bif bif y1 then y2 else false then y3 else false then y4 else false then y5 else false then y6 else false then y7 else false then y8 else false then y9 else false then y10 else false then y11 else false) (zS n ([115,99,114,101,101,110,40,109,97,120,45,119,105,100,116,104,58,51,112,120,41],[110,111,116,32,97,108,108],1,0)) (default:Bool)) fun y12=>
 zb (zt (bif bif bif bif bif bif bif bif bif bif bif y1 then y2 else false then y3 else false then y4 else false then y5 else false then y6 else false then y7 else false then y8 else false then y9 else false then y10 else false then y11 else false then y12 else false) (zS n ([110,111,116,32,40,109,105,110,45,119,105,100,116,104,58,49,112,120,41],[110,111,116,32,97,108,108],1,0)) (default:Bool)) fun y13=>
 zb (zt (bif bif bif bif bif bif bif bif bif bif bif bif y1 then y2 else false then y3 else false then y4 else false then y5 else false then y6 else false then y7 else false then y8 else false then y9 else false then y10 else false then y11 else false then y12 else false then y13 else false) (zS n ([40,109,105,110,45,119,105,100,116,104,58,45,49,112,120,41],[110,111,116,32,97,108,108],1,0)) (default:Bool)) fun y14=>
 zb (zt (bif bif bif bif bif bif bif bif bif bif bif bif bif y1 then y2 else false then y3 else false then y4 else false then y5 else false then y6 else false then y7 else false then y8 else false then y9 else false then y10 else false then y11 else false then y12 else false then y13 else false then y14 else false) (zS n ([40,109,105,110,45,119,105,100,116,104,58,49,101,109,41],[110,111,116,32,97,108,108],1,0)) (default:Bool)) fun y15=>
 zb (zt (bif bif bif bif bif bif bif bif bif bif bif bif bif bif y1 then y2 else false then y3 else false then y4 else false then y5 else false then y6 else false then y7 else false then y8 else false then y9 else false then y10 else false then y11 else false then y12 else false then y13 else false then y14 else false then y15 else false) (zS n ([115,99,114,101,101,110,32,97,110,100,32,115,99,114,101,101,110],[110,111,116,32,97,108,108],1,0)) (default:Bool)) fun y16=>
 zb (zt (bif bif bif bif bif bif bif bif bif bif bif bif bif bif bif y1 then y2 else false then y3 else false then y4 else false then y5 else false then y6 else false then y7 else false then y8 else false then y9 else false then y10 else false then y11 else false then y12 else false then y13 else false then y14 else false then y15 else false then y16 else false) (zS n ([111,114],[110,111,116,32,97,108,108],1,0)) (default:Bool)) fun y17=>
 zb (zt (bif bif bif bif bif bif bif bif bif bif bif bif bif bif bif bif y1 then y2 else false then y3 else false then y4 else false then y5 else false then y6 else false then y7 else false then y8 else false then y9 else false then y10 else false then y11 else false then y12 else false then y13 else false then y14 else false then y15 else false then y16 else false then y17 else false) (zS n ([115,99,114,101,101,110,47,42,42,47,97,110,100,40,109,105,110,45,119,105,100,116,104,58,50,112,120,41],[110,111,116,32,97,108,108],1,0)) (default:Bool)) fun y18=>
 zb (z8 n ([40,97,58,98,41],[40,97,58,32,98,41],true,false)) fun y19=>
 zb (zt y19 (z8 n ([78,79,84,32,40,97,58,98,41],[110,111,116,32,40,97,58,32,98,41],false,true)) (default:Bool)) fun y20=>
 zb (zt (bif y19 then y20 else false) (z8 n ([40,97,58,98,41,32,97,110,100,32,40,99,58,100,41,32,97,110,100,32,40,101,58,102,33,105,109,112,111,114,116,97,110,116,41],[40,97,58,32,98,41,32,97,110,100,32,40,99,58,32,100,41,32,97,110,100,32,40,101,58,32,102,32,33,105,109,112,111,114,116,97,110,116,41],true,false)) (default:Bool)) fun y21=>
 zb (zt (bif bif y19 then y20 else false then y21 else false) (z8 n ([40,40,97,58,98,41,41],[40,97,58,32,98,41],true,false)) (default:Bool)) fun y22=>
 zb (zt (bif bif bif y19 then y20 else false then y21 else false then y22 else false) (z8 n ([40,97,58,98,41,32,79,82,32,102,40,120,41],[40,97,58,32,98,41,32,111,114,32,40,117,110,107,110,111,119,110,41],true,false)) (default:Bool)) fun y23=>
 zb (zt (bif bif bif bif y19 then y20 else false then y21 else false then y22 else false then y23 else false) (z8 n ([40,40,97,58,98,41,32,97,110,100,32,40,110,111,116,32,40,99,58,100,41,41,41,32,111,114,32,40,45,45,120,58,41],[40,40,97,58,32,98,41,32,97,110,100,32,40,110,111,116,32,40,99,58,32,100,41,41,41,32,111,114,32,40,45,45,120,58,32,41],true,false)) (default:Bool)) fun y24=>
 zb (zt (bif bif bif bif bif y19 then y20 else false then y21 else false then y22 else false then y23 else false then y24 else false) (z8 n ([40,41],[40,117,110,107,110,111,119,110,41],false,false)) (default:Bool)) fun y25=>
 zb (zt (bif bif bif bif bif bif y19 then y20 else false then y21 else false then y22 else false then y23 else false then y24 else false then y25 else false) (z8 n ([110,111,116,40,97,58,98,41],[40,117,110,107,110,111,119,110,41],false,false)) (default:Bool)) fun y26=>
 zb (zt (bif bif bif bif bif bif bif y19 then y20 else false then y21 else false then y22 else false then y23 else false then y24 else false then y25 else false then y26 else false) (z8 n ([40,110,111,116,32,110,111,116,41],[40,117,110,107,110,111,119,110,41],false,false)) (default:Bool)) fun y27=>
 ZP n (fun(s28:Int)=>
   bif decide (s28<12)then
    zb (geti [[],[97],[40,97,58,98,41,32,40,99,58,100,41],[40,97,58,98,41,32,97,110,100,32,40,99,58,100,41,32,111,114,32,40,101,58,102,41],[40,97,58,98,41,97,110,100,32,40,99,58,100,41],[40,97,58,98,41,32,97,110,100],[110,111,116],[110,111,116,32,97],[110,111,116,32,110,111,116,32,40,97,58,98,41],[91,97,58,98,93],[40,97,58,98,41,44,40,99,58,100,41],[40,97,58,98,41,32,97,110,100,32,110,111,116,32,40,99,58,100,41]] s28) fun y29=>
    zb (Z0 n y29) fun y30=>
    zb (Q7 n y30) fun y31=>
    bif y31.2 != 12 then
     some (LO.ret false)
    else
     some (LO.again (w64 (s28+1)))
   else
    some (LO.out ()):Int->Option (LO (Int) (Unit) _)) 0 fun o32=>
 ZP n (fun(s33:Str×Int)=>
   bif decide (s33.2<64)then
    need (QZ s33.1.length ([44]:Str).length)<|
    some (LO.again (s33.1++([44]:Str),w64 (s33.2+1)))
   else
    some (LO.out s33.1):Str×Int->Option (LO (Str×Int) (Str) _)) ([],0) fun o34=>
 zb (Z0 n o34) fun y35=>
 zb (Vi n y35) fun y36=>
 need (decide (1<=(o34.length:Int)))<|
 zb (Z0 n (List.drop 1 o34)) fun y37=>
 zb (Vi n y37) fun y38=>
 zb (Z0 n [97]) fun y39=>
 zb (Vi n [(⟨(⟨18,[],0,[],false⟩:zk),y39⟩:zg)]) fun y40=>
 zb (Q7 n [(⟨(⟨18,[],0,[],false⟩:zk),y39⟩:zg)]) fun y41=>
 zb (Z0 n [98]) fun y42=>
 zb (qX n ((⟨7,[],0,(⟨[97],y42,false⟩:zF),[]⟩:zh),(⟨0⟩:VEnv),[])) fun y43=>
 zb (qX n ((⟨7,[],0,(⟨[97],y42,false⟩:zF),[]⟩:zh),(⟨(-1)⟩:VEnv),[true])) fun y44=>
 zb (qX n ((⟨7,[],0,(⟨[97],y42,false⟩:zF),[]⟩:zh),(⟨1000000001⟩:VEnv),[true])) fun y45=>
 zb (qX n ((⟨y38.1.kind,y38.1.name,y38.1.num,y38.1.decl,y38.1.list⟩:zh),(⟨0⟩:VEnv),[true])) fun y46=>
 zb (qX n ((⟨0,[],0,(⟨[],[],false⟩:zF),[]⟩:zh),(⟨(-1)⟩:VEnv),[])) fun y47=>
 zb (Yk n (⟨5,[],1,(⟨[],[],false⟩:zF),[]⟩:zh)) fun y48=>
 zb (Wo n (⟨y38.1.kind,y38.1.name,y38.1.num,y38.1.decl,y38.1.list⟩:zh)) fun y49=>
 zb (qX n ((⟨7,[],0,(⟨[97],y42,false⟩:zF),[]⟩:zh),(⟨1000000000⟩:VEnv),[true])) fun y50=>
 ZP n (fun(s51:Int×zh)=>
   bif decide (s51.1<15)then
    some (LO.again (w64 (s51.1+1),(⟨3,[],0,(⟨[],[],false⟩:zF),[(⟨s51.2.kind,s51.2.name,s51.2.num,s51.2.decl,s51.2.list⟩:zh)]⟩:zh)))
   else
    some (LO.out (⟨s51.2.kind,s51.2.name,s51.2.num,s51.2.decl,s51.2.list⟩:zh)):Int×zh->Option (LO (Int×zh) (zh) _)) (0,(⟨7,[],0,(⟨[97],y42,false⟩:zF),[]⟩:zh)) fun o52=>
 zb (Zm n (⟨3,[],0,(⟨[],[],false⟩:zF),[(⟨o52.kind,o52.name,o52.num,o52.decl,o52.list⟩:zh)]⟩:zh)) fun y53=>
 zb (Zm n (⟨3,[],0,(⟨[],[],false⟩:zF),[(⟨3,[],0,(⟨[],[],false⟩:zF),[(⟨o52.kind,o52.name,o52.num,o52.decl,o52.list⟩:zh)]⟩:zh)]⟩:zh)) fun y54=>
 zb (zt (bif bif bif bif bif bif bif bif bif bif bif bif bif bif bif bif bif bif bif bif bif bif bif bif bif bif bif bif bif bif bif bif bif bif y1 then y2 else false then y3 else false then y4 else false then y5 else false then y6 else false then y7 else false then y8 else false then y9 else false then y10 else false then y11 else false then y12 else false then y13 else false then y14 else false then y15 else false then y16 else false then y17 else false then y18 else false then bif bif bif bif bif bif bif bif y19 then y20 else false then y21 else false then y22 else false then y23 else false then y24 else false then y25 else false then y26 else false then y27 else false else false then y36.2==4 else false then y38.2==0 else false then(y38.1.list.length:Int)==64 else false then y40.2==8 else false then y41.2==8 else false then y43.2==2 else false then y44.2==2 else false then y45.2==2 else false then y46.2==2 else false then y47.2==8 else false then y48.2==8 else false then y49.2==8 else false then y50.2==0 else false then y50.1 else false then y53==0 else false then y54==8 else false) (Ev n ()) (default:Bool)) fun y55=>
 some (bif bif bif bif bif bif bif bif bif bif bif bif bif bif bif bif bif bif bif bif bif bif bif bif bif bif bif bif bif bif bif bif bif bif bif y1 then y2 else false then y3 else false then y4 else false then y5 else false then y6 else false then y7 else false then y8 else false then y9 else false then y10 else false then y11 else false then y12 else false then y13 else false then y14 else false then y15 else false then y16 else false then y17 else false then y18 else false then bif bif bif bif bif bif bif bif y19 then y20 else false then y21 else false then y22 else false then y23 else false then y24 else false then y25 else false then y26 else false then y27 else false else false then y36.2==4 else false then y38.2==0 else false then(y38.1.list.length:Int)==64 else false then y40.2==8 else false then y41.2==8 else false then y43.2==2 else false then y44.2==2 else false then y45.2==2 else false then y46.2==2 else false then y47.2==8 else false then y48.2==8 else false then y49.2==8 else false then y50.2==0 else false then y50.1 else false then y53==0 else false then y54==8 else false then y55 else false)
theorem IM(n:Nat)(x:Unit):Le (yD n x) (Ep x):=by unfold yD Ep;exact(.bind (zT n _) fun _=>(.bind (.cond (zT n _)) fun _=>(.bind (.cond (zT n _)) fun _=>(.bind (.cond (zT n _)) fun _=>(.bind (.cond (zT n _)) fun _=>(.bind (.cond (zT n _)) fun _=>(.bind (.cond (zT n _)) fun _=>(.bind (.cond (zT n _)) fun _=>(.bind (.cond (zT n _)) fun _=>(.bind (.cond (zT n _)) fun _=>(.bind (.cond (zT n _)) fun _=>(.bind (.cond (zT n _)) fun _=>(.bind (.cond (zT n _)) fun _=>(.bind (.cond (zT n _)) fun _=>(.bind (.cond (zT n _)) fun _=>(.bind (.cond (zT n _)) fun _=>(.bind (.cond (zT n _)) fun _=>(.bind (.cond (zT n _)) fun _=>(.bind (Zd n _) fun _=>(.bind (.cond (Zd n _)) fun _=>(.bind (.cond (Zd n _)) fun _=>(.bind (.cond (Zd n _)) fun _=>(.bind (.cond (Zd n _)) fun _=>(.bind (.cond (Zd n _)) fun _=>(.bind (.cond (Zd n _)) fun _=>(.bind (.cond (Zd n _)) fun _=>(.bind (.cond (Zd n _)) fun _=>(.loop (fun _=>(.bif (.bind .rfl fun _=>(.bind (qG n _) fun _=>(.bind (Uw n _) fun _=>(.bif .rfl .rfl)))) .rfl)) fun _=>(.loop (fun _=>(.bif (.need .rfl) .rfl)) fun _=>(.bind (qG n _) fun _=>(.bind (oo n _) fun _=>(.need (.bind (qG n _) fun _=>(.bind (oo n _) fun _=>(.bind (qG n _) fun _=>(.bind (oo n _) fun _=>(.bind (Uw n _) fun _=>(.bind (qG n _) fun _=>(.bind (QI n _) fun _=>(.bind (QI n _) fun _=>(.bind (QI n _) fun _=>(.bind (QI n _) fun _=>(.bind (QI n _) fun _=>(.bind (tu n _) fun _=>(.bind (yB n _) fun _=>(.bind (QI n _) fun _=>(.loop (fun _=>(.bif .rfl .rfl)) fun _=>(.bind (Z5 n _) fun _=>(.bind (Z5 n _) fun _=>(.bind (.cond (aL n _)) fun _=> .rfl))))))))))))))))))))))))))))))))))))))))))))))))))
end
end Go.Lv.VT
