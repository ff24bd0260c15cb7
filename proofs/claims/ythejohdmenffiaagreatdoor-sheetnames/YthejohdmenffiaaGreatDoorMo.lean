/- Texts that compute. -/
import Derived.Test.YthejohdmenffiaaGreatDoorTx
import Derived.Test.YthejohdmenffiaaGreatDoorLf
set_option linter.unusedSimpArgs false
set_option linter.unusedVariables false
namespace Go.Lv.VT
noncomputable section
set_option maxRecDepth 100000
def Qn(n:Nat)(x:za):Option za:=
 ZI n (fun(s1:za)=>
   need (decide (0<=s1.at_)&&decide (s1.at_<=(s1.s.length:Int)))<|
   zb (strings_HasPrefix (List.drop s1.at_.toNat s1.s,[47,42])) fun y2=>
   bif y2 then
    need (decide (0<=w64 (s1.at_+2))&&decide (w64 (s1.at_+2)<=(s1.s.length:Int)))<|
    zb (ae (List.drop (w64 (s1.at_+2)).toNat s1.s,[42,47])) fun y3=>
    bif decide (y3<0)then
     some (LO.ret (⟨s1.s,(s1.s.length:Int)⟩:za))
    else
     some (LO.again (⟨s1.s,w64 (s1.at_+w64 (y3+4))⟩:za))
   else
    some (LO.out s1):za->Option (LO (za) (za) _)) x fun o4=>
 some o4
theorem mH(n:Nat)(x:za):Le (Qn n x) (ZQ x):=by unfold Qn ZQ;exact(.loop (fun _=>(.need (.bind .rfl fun _=>(.bif (.need (.bind .rfl fun _=>(.bif .rfl .rfl))) .rfl)))) fun _=> .rfl)
def ql(n:Nat)(x:za):Option za:=
 ZI n (fun(s1:za)=>
   zb (zk (0,s1)) fun y2=>
   zb (ZO y2) fun y3=>
   bif y3 then
    some (LO.again (⟨s1.s,w64 (s1.at_+1)⟩:za))
   else
    some (LO.out s1):za->Option (LO (za) (za) _)) x fun o4=>
 some o4
theorem QR(n:Nat)(x:za):Le (ql n x) (Zo x):=by unfold ql Zo;exact(.loop (fun _=>(.bind .rfl fun _=>(.bind .rfl fun _=>(.bif .rfl .rfl)))) fun _=> .rfl)
def GA(n:Nat)(x:za):Option (za×List UInt8):=
 zb (zk (0,(⟨x.s,w64 (x.at_+1)⟩:za))) fun y1=>
 bif y1==(-1)then
  zb (QD 65533) fun y2=>
  some ((⟨x.s,w64 (x.at_+1)⟩:za),y2)
 else
  zb (Xe y1) fun y3=>
  bif decide (y3<0)then
   zb (Jc (wu8 y1)) fun y4=>
   need (Zi 0 1 1)<|
   some ((⟨x.s,w64 (w64 (x.at_+1)+1)⟩:za),[y4])
  else
   ZI n (fun(s5:(Int×Int)×za)=>
     bif decide (s5.1.2<6)then
      zb (zk (0,s5.2)) fun y6=>
      zb (Xe y6) fun y7=>
      bif decide (y7<0)then
       some (LO.out (s5.1.1,s5.2))
      else
       some (LO.again ((ibOr IntKind.i64 (Nn IntKind.i64 s5.1.1 4) y7,w64 (s5.1.2+1)),(⟨s5.2.s,w64 (s5.2.at_+1)⟩:za)))
     else
      some (LO.out (s5.1.1,s5.2)):(Int×Int)×za->Option (LO ((Int×Int)×za) (Int×za) _)) ((0,0),(⟨x.s,w64 (x.at_+1)⟩:za)) fun o8=>
   zW (X:=Int×za) (
     zb (zk (0,o8.2)) fun y9=>
     zb (ZO y9) fun y10=>
     bif y10 then
      some (LX.out (o8.1,(⟨o8.2.s,w64 (o8.2.at_+1)⟩:za)))
     else
      some (LX.out (o8.1,o8.2))) fun j11=>
   zW (X:=Int) (
     bif j11.1==0 then
      some (LX.out 65533)
     else
      some (LX.out j11.1)) fun j12=>
   zb (QD (w32 j12)) fun y13=>
   some (j11.2,y13)
theorem WT(n:Nat)(x:za):Le (GA n x) (qA x):=by unfold GA qA;exact(.bind .rfl fun _=>(.bif (.bind .rfl fun _=> .rfl) (.bind .rfl fun _=>(.bif (.bind .rfl fun _=>(.need .rfl)) (.loop (fun _=>(.bif (.bind .rfl fun _=>(.bind .rfl fun _=>(.bif .rfl .rfl))) .rfl)) fun _=>(.join (.bind .rfl fun _=>(.bind .rfl fun _=>(.bif .rfl .rfl))) fun _=>(.join (.bif .rfl .rfl) fun _=>(.bind .rfl fun _=> .rfl))))))))
def ZZ(n:Nat)(x:za×List UInt8):Option (za×List UInt8):=
 zb (zk (0,(⟨x.1.s,w64 (x.1.at_+1)⟩:za))) fun y1=>
 bif y1==(-1)then
  zb (QE (65533,x.2)) fun y2=>
  some ((⟨x.1.s,w64 (x.1.at_+1)⟩:za),y2)
 else
  zb (Xe y1) fun y3=>
  bif decide (y3<0)then
   zb (Jc (wu8 y1)) fun y4=>
   need (Zi x.2.length 1 1)<|
   some ((⟨x.1.s,w64 (w64 (x.1.at_+1)+1)⟩:za),x.2++[y4])
  else
   ZI n (fun(s5:(Int×Int)×za)=>
     bif decide (s5.1.2<6)then
      zb (zk (0,s5.2)) fun y6=>
      zb (Xe y6) fun y7=>
      bif decide (y7<0)then
       some (LO.out (s5.1.1,s5.2))
      else
       some (LO.again ((ibOr IntKind.i64 (Nn IntKind.i64 s5.1.1 4) y7,w64 (s5.1.2+1)),(⟨s5.2.s,w64 (s5.2.at_+1)⟩:za)))
     else
      some (LO.out (s5.1.1,s5.2)):(Int×Int)×za->Option (LO ((Int×Int)×za) (Int×za) _)) ((0,0),(⟨x.1.s,w64 (x.1.at_+1)⟩:za)) fun o8=>
   zW (X:=Int×za×List UInt8) (
     zb (zk (0,o8.2)) fun y9=>
     zb (ZO y9) fun y10=>
     bif y10 then
      some (LX.out (o8.1,(⟨o8.2.s,w64 (o8.2.at_+1)⟩:za),x.2))
     else
      some (LX.out (o8.1,o8.2,x.2))) fun j11=>
   zW (X:=Int×List UInt8) (
     bif j11.1==0 then
      some (LX.out (65533,j11.2.2))
     else
      some (LX.out (j11.1,j11.2.2))) fun j12=>
   zb (QE (w32 j12.1,j12.2)) fun y13=>
   some (j11.2.1,y13)
theorem QT(n:Nat)(x:za×List UInt8):Le (ZZ n x) (Zh x):=by unfold ZZ Zh;exact(.bind .rfl fun _=>(.bif (.bind .rfl fun _=> .rfl) (.bind .rfl fun _=>(.bif (.bind .rfl fun _=>(.need .rfl)) (.loop (fun _=>(.bif (.bind .rfl fun _=>(.bind .rfl fun _=>(.bif .rfl .rfl))) .rfl)) fun _=>(.join (.bind .rfl fun _=>(.bind .rfl fun _=>(.bif .rfl .rfl))) fun _=>(.join (.bif .rfl .rfl) fun _=>(.bind .rfl fun _=> .rfl))))))))
def az(n:Nat)(x:za):Option (zq×za):=
 zb (zk (0,x)) fun y1=>
 ZI n (fun(s2:za×zq×List UInt8)=>
   zb (zk (0,s2.1)) fun y3=>
   bif y3==(-1)then
    some (LO.out (s2.1,s2.2.1,s2.2.2))
   else
    bif y3==y1 then
     some (LO.out ((⟨s2.1.s,w64 (s2.1.at_+1)⟩:za),s2.2.1,s2.2.2))
    else
     bif y3==10 then
      some (LO.ret ((⟨6,[],0,[],false⟩:zq),s2.1))
     else
      zb (zC (y3==92) (zk (1,s2.1)) (default:Int)) fun y4=>
      zb (zC (!(y4==(-1))&&y3==92) (zk (1,s2.1)) (default:Int)) fun y5=>
      bif bif y3==92 then bif y4==(-1)then true else y5==10 else false then
       some (LO.again ((⟨s2.1.s,if(s2.1.s.length:Int)<w64 (s2.1.at_+2)then(s2.1.s.length:Int)else w64 (s2.1.at_+2)⟩:za),s2.2.1,s2.2.2))
      else
       bif y3==92 then
        zb (ZZ n (s2.1,s2.2.2)) fun y6=>
        some (LO.again (y6.1,s2.2.1,y6.2))
       else
        zb (Jc (wu8 y3)) fun y7=>
        need (Zi s2.2.2.length 1 1)<|
        some (LO.again ((⟨s2.1.s,w64 (s2.1.at_+1)⟩:za),s2.2.1,s2.2.2++[y7])):za×zq×List UInt8->Option (LO (za×zq×List UInt8) (za×zq×List UInt8) _)) ((⟨x.s,w64 (x.at_+1)⟩:za),(⟨0,[],0,[],false⟩:zq),[]) fun o8=>
 some ((⟨5,o8.2.2,0,[],false⟩:zq),o8.1)
theorem rR(n:Nat)(x:za):Le (az n x) (Qu x):=by unfold az Qu;exact(.bind .rfl fun _=>(.loop (fun _=>(.bind .rfl fun _=>(.bif .rfl (.bif .rfl (.bif .rfl (.bind .rfl fun _=>(.bind .rfl fun _=>(.bif .rfl (.bif (.bind (QT n _) fun _=> .rfl) (.bind .rfl fun _=>(.need .rfl))))))))))) fun _=> .rfl))
def qE(n:Nat)(x:za):Option (Str×za):=
 ZI n (fun(s1:za×List UInt8)=>
   zb (zk (0,s1.1)) fun y2=>
   zb (Gh y2) fun y3=>
   bif y3 then
    zb (Jc (wu8 y2)) fun y4=>
    need (Zi s1.2.length 1 1)<|
    some (LO.again ((⟨s1.1.s,w64 (s1.1.at_+1)⟩:za),s1.2++[y4]))
   else
    zb (zC (y2 != (-1)) (zS (0,s1.1)) (default:Bool)) fun y5=>
    bif bif y2 != (-1)then y5 else false then
     zb (ZZ n (s1.1,s1.2)) fun y6=>
     some (LO.again (y6.1,y6.2))
    else
     some (LO.ret (s1.2,s1.1)):za×List UInt8->Option (LO (za×List UInt8) (Unit) _)) (x,[]) fun o7=>
 none
theorem Sr(n:Nat)(x:za):Le (qE n x) (Zq x):=by unfold qE Zq;exact(.loop (fun _=>(.bind .rfl fun _=>(.bind .rfl fun _=>(.bif (.bind .rfl fun _=>(.need .rfl)) (.bind .rfl fun _=>(.bif (.bind (QT n _) fun _=> .rfl) .rfl)))))) fun _=> .none)
def qB(n:Nat)(x:za):Option za:=
 ZI n (fun(s1:za)=>
   zb (zk (0,s1)) fun y2=>
   zb (Z9 y2) fun y3=>
   bif y3 then
    some (LO.again (⟨s1.s,w64 (s1.at_+1)⟩:za))
   else
    some (LO.out s1):za->Option (LO (za) (za) _)) x fun o4=>
 some o4
theorem RA(n:Nat)(x:za):Le (qB n x) (ZG x):=by unfold qB ZG;exact(.loop (fun _=>(.bind .rfl fun _=>(.bind .rfl fun _=>(.bif .rfl .rfl)))) fun _=> .rfl)
def TA(n:Nat)(x:za):Option (Bool×za):=
 zW (X:=za) (
   zb (zk (0,x)) fun y1=>
   bif bif y1==43 then true else y1==45 then
    some (LX.out (⟨x.s,w64 (x.at_+1)⟩:za))
   else
    some (LX.out x)) fun j2=>
 zb (qB n j2) fun y3=>
 zW (X:=Bool×za) (
   zb (zk (0,y3)) fun y4=>
   zb (zC (y4==46) (zk (1,y3)) (default:Int)) fun y5=>
   zb (zC (y4==46) (Z9 y5) (default:Bool)) fun y6=>
   bif bif y4==46 then y6 else false then
    zb (qB n (⟨y3.s,w64 (y3.at_+1)⟩:za)) fun y7=>
    some (LX.out (false,y7))
   else
    some (LX.out (true,y3))) fun j8=>
 zW (X:=Bool×za) (
   zb (zk (0,j8.2)) fun y9=>
   zb (zC (!(y9==101)) (zk (0,j8.2)) (default:Int)) fun y10=>
   bif bif y9==101 then true else y10==69 then
    zW (X:=(Bool×Int)×za) (
      zb (zk (1,j8.2)) fun y11=>
      bif bif y11==43 then true else y11==45 then
       some (LX.out ((j8.1,2),j8.2))
      else
       some (LX.out ((j8.1,1),j8.2))) fun j12=>
    zb (zk (j12.1.2,j12.2)) fun y13=>
    zb (Z9 y13) fun y14=>
    bif y14 then
     zb (qB n (⟨j12.2.s,w64 (j12.2.at_+j12.1.2)⟩:za)) fun y15=>
     some (LX.out (false,y15))
    else
     some (LX.out (j12.1.1,j12.2))
   else
    some (LX.out (j8.1,j8.2))) fun j16=>
 some (j16.1,j16.2)
theorem kS(n:Nat)(x:za):Le (TA n x) (Qf x):=by unfold TA Qf;exact(.join (.bind .rfl fun _=>(.bif .rfl .rfl)) fun _=>(.bind (RA n _) fun _=>(.join (.bind .rfl fun _=>(.bind .rfl fun _=>(.bind .rfl fun _=>(.bif (.bind (RA n _) fun _=> .rfl) .rfl)))) fun _=>(.join (.bind .rfl fun _=>(.bind .rfl fun _=>(.bif (.join (.bind .rfl fun _=>(.bif .rfl .rfl)) fun _=>(.bind .rfl fun _=>(.bind .rfl fun _=>(.bif (.bind (RA n _) fun _=> .rfl) .rfl)))) .rfl))) fun _=> .rfl))))
def Gz(n:Nat)(x:Str):Option Int:=
 zb (geti x 0) fun y1=>
 zb (Sg (x,[43,45])) fun y2=>
 zW (X:=Str×Int) (
   zb (Jk (y2,[101,69])) fun y3=>
   bif decide (y3>=0)then
    need (decide (0<=w64 (y3+1))&&decide (w64 (y3+1)<=(y2.length:Int)))<|
    zb (Sg (List.drop (w64 (y3+1)).toNat y2,[43,45])) fun y4=>
    need (decide (y4.length<=maxLen))<|
    ZI n (fun(s5:Int×Int)=>
      bif decide (s5.2<(y4.length:Int))then
       need (decide (0<=s5.2)&&decide (s5.2<(y4.length:Int)))<|
       zb y4[s5.2.toNat]? fun y6=>
       some (LO.again (if 1048576<w64 (w64 (10*s5.1)+w64 (wu8 ((y6.toNat:Int) - 48)))then 1048576 else w64 (w64 (10*s5.1)+w64 (wu8 ((y6.toNat:Int) - 48))),w64 (s5.2+1)))
      else
       some (LO.out s5.1):Int×Int->Option (LO (Int×Int) (Int) _)) (0,0) fun o7=>
    zW (X:=Str×Int×Int) (
      zb (geti y2 (w64 (y3+1))) fun y8=>
      bif (y8.toNat:Int)==45 then
       some (LX.out (y2,3,w64 (0 - o7)))
      else
       some (LX.out (y2,3,o7))) fun j9=>
    need (decide (0<=y3)&&decide (y3<=(j9.1.length:Int)))<|
    some (LX.out (List.take y3.toNat j9.1,w64 (j9.2.1+j9.2.2)))
   else
    some (LX.out (y2,3))) fun j10=>
 zb (cutF (j10.1,[46])) fun y11=>
 need (Bd y11.1.length y11.2.1.length)<|
 zW (X:=Str×Int) (
   bif decide (w64 (j10.2 - (y11.2.1.length:Int))<0)then
    need (decide (0<=(if w64 (((y11.1++y11.2.1).length:Int)+w64 (j10.2 - (y11.2.1.length:Int)))>0 then w64 (((y11.1++y11.2.1).length:Int)+w64 (j10.2 - (y11.2.1.length:Int)))else 0))&&decide ((if w64 (((y11.1++y11.2.1).length:Int)+w64 (j10.2 - (y11.2.1.length:Int)))>0 then w64 (((y11.1++y11.2.1).length:Int)+w64 (j10.2 - (y11.2.1.length:Int)))else 0)<=((y11.1++y11.2.1).length:Int)))<|
    some (LX.out (List.take (if w64 (((y11.1++y11.2.1).length:Int)+w64 (j10.2 - (y11.2.1.length:Int)))>0 then w64 (((y11.1++y11.2.1).length:Int)+w64 (j10.2 - (y11.2.1.length:Int)))else 0).toNat (y11.1++y11.2.1),w64 (j10.2 - (y11.2.1.length:Int))))
   else
    some (LX.out (y11.1++y11.2.1,w64 (j10.2 - (y11.2.1.length:Int))))) fun j12=>
 need (decide (j12.1.length<=maxLen))<|
 ZI n (fun(s13:Int×Int)=>
   bif decide (s13.2<(j12.1.length:Int))then
    need (decide (0<=s13.2)&&decide (s13.2<(j12.1.length:Int)))<|
    zb j12.1[s13.2.toNat]? fun y14=>
    some (LO.again (if 1000000000000<w64 (w64 (10*s13.1)+w64 (wu8 ((y14.toNat:Int) - 48)))then 1000000000000 else w64 (w64 (10*s13.1)+w64 (wu8 ((y14.toNat:Int) - 48))),w64 (s13.2+1)))
   else
    some (LO.out s13.1):Int×Int->Option (LO (Int×Int) (Int) _)) (0,0) fun o15=>
 ZI n (fun(s16:Int×Int)=>
   bif bif bif decide (s16.1>0)then decide (s16.2>0)else false then decide (s16.2<1000000000000)else false then
    some (LO.again (w64 (s16.1 - 1),if 1000000000000<w64 (10*s16.2)then 1000000000000 else w64 (10*s16.2)))
   else
    some (LO.out s16.2):Int×Int->Option (LO (Int×Int) (Int) _)) (j12.2,o15) fun o17=>
 zW (X:=Int) (
   bif (y1.toNat:Int)==45 then
    some (LX.out (w64 (0 - o17)))
   else
    some (LX.out o17)) fun j18=>
 some j18
theorem iR(n:Nat)(x:Str):Le (Gz n x) (um x):=by unfold Gz um;exact(.bind .rfl fun _=>(.bind .rfl fun _=>(.join (.bind .rfl fun _=>(.bif (.need (.bind .rfl fun _=>(.need (.loop (fun _=>(.bif (.need (.bind .rfl fun _=> .rfl)) .rfl)) fun _=>(.join (.bind .rfl fun _=>(.bif .rfl .rfl)) fun _=>(.need .rfl)))))) .rfl)) fun _=>(.bind .rfl fun _=>(.need (.join (.bif (.need .rfl) .rfl) fun _=>(.need (.loop (fun _=>(.bif (.need (.bind .rfl fun _=> .rfl)) .rfl)) fun _=>(.loop (fun _=>(.bif .rfl .rfl)) fun _=>(.join (.bif .rfl .rfl) fun _=> .rfl))))))))))
def SA(n:Nat)(x:za):Option (zq×za):=
 zb (TA n x) fun y1=>
 need (decide (0<=x.at_)&&(decide (x.at_<=y1.2.at_)&&decide (y1.2.at_<=(y1.2.s.length:Int))))<|
 zb (Gz n (List.drop x.at_.toNat (List.take y1.2.at_.toNat y1.2.s))) fun y2=>
 zW (X:=za×zq×zq) (
   zb (Zm (0,y1.2)) fun y3=>
   bif y3 then
    zb (qE n y1.2) fun y4=>
    some (LX.out (y4.2,(⟨0,[],0,[],false⟩:zq),(⟨12,[],y2,y4.1,y1.1⟩:zq)))
   else
    zb (zk (0,y1.2)) fun y5=>
    bif y5==37 then
     some (LX.out ((⟨y1.2.s,w64 (y1.2.at_+1)⟩:za),(⟨0,[],0,[],false⟩:zq),(⟨11,[],y2,[],false⟩:zq)))
    else
     some (LX.out (y1.2,(⟨0,[],0,[],false⟩:zq),(⟨10,[],y2,[],y1.1⟩:zq)))) fun j6=>
 some (j6.2.2,j6.1)
theorem jS(n:Nat)(x:za):Le (SA n x) (Qg x):=by unfold SA Qg;exact(.bind (kS n _) fun _=>(.need (.bind (iR n _) fun _=>(.join (.bind .rfl fun _=>(.bif (.bind (Sr n _) fun _=> .rfl) (.bind .rfl fun _=>(.bif .rfl .rfl)))) fun _=> .rfl))))
def Zr(n:Nat)(x:Str):Option Str:=
 need (decide (x.length<=maxLen))<|
 ZI n (fun(s1:Int×List UInt8)=>
   bif decide (s1.1<(x.length:Int))then
    zW (X:=Int×List UInt8) (
      need (decide (0<=s1.1)&&decide (s1.1<(s1.2.length:Int)))<|
      zb s1.2[s1.1.toNat]? fun y2=>
      bif bif decide (65<=(y2.toNat:Int))then decide ((y2.toNat:Int)<=90)else false then
       need (decide (0<=s1.1)&&decide (s1.1<(s1.2.length:Int)))<|
       zb s1.2[s1.1.toNat]? fun y3=>
       need (decide (0<=s1.1)&&decide (s1.1<(s1.2.length:Int)))<|
       zb s1.2[s1.1.toNat]? fun y4=>
       zb (Jc (ibOr IntKind.u8 (y3.toNat:Int) 32)) fun y5=>
       some (LX.out (s1.1,List.set s1.2 s1.1.toNat y5))
      else
       some (LX.out (s1.1,s1.2))) fun j6=>
    some (LO.again (w64 (j6.1+1),j6.2))
   else
    some (LO.out s1.2):Int×List UInt8->Option (LO (Int×List UInt8) (List UInt8) _)) (0,x) fun o7=>
 some o7
theorem Zw(n:Nat)(x:Str):Le (Zr n x) (Za x):=by unfold Zr Za;exact(.need (.loop (fun _=>(.bif (.join (.need (.bind .rfl fun _=>(.bif (.need (.bind .rfl fun _=>(.need (.bind .rfl fun _=>(.bind .rfl fun _=> .rfl))))) .rfl))) fun _=> .rfl) .rfl)) fun _=> .rfl))
def qV(n:Nat)(x:Str×Str):Option Bool:=
 zb (Zr n x.1) fun y1=>
 zb (Zr n x.2) fun y2=>
 some (y1==y2)
theorem QA(n:Nat)(x:Str×Str):Le (qV n x) (Zy x):=by unfold qV Zy;exact(.bind (Zw n _) fun _=>(.bind (Zw n _) fun _=> .rfl))
def QP(n:Nat)(x:za):Option (zq×za):=
 ZI n (fun(s1:za×zq)=>
   zb (zk (0,s1.1)) fun y2=>
   bif y2==(-1)then
    some (LO.ret ((⟨8,[],0,[],false⟩:zq),s1.1))
   else
    zb (zS (0,s1.1)) fun y3=>
    bif y3 then
     zb (GA n s1.1) fun y4=>
     some (LO.again (y4.1,s1.2))
    else
     zb (geti s1.1.s (w64 (w64 (s1.1.at_+1) - 1))) fun y5=>
     bif (y5.toNat:Int)==41 then
      some (LO.ret ((⟨8,[],0,[],false⟩:zq),(⟨s1.1.s,w64 (s1.1.at_+1)⟩:za)))
     else
      some (LO.again ((⟨s1.1.s,w64 (s1.1.at_+1)⟩:za),s1.2)):za×zq->Option (LO (za×zq) (Unit) _)) (x,(⟨0,[],0,[],false⟩:zq)) fun o6=>
 none
theorem xz(n:Nat)(x:za):Le (QP n x) (qR x):=by unfold QP qR;exact(.loop (fun _=>(.bind .rfl fun _=>(.bif .rfl (.bind .rfl fun _=>(.bif (.bind (WT n _) fun _=> .rfl) (.bind .rfl fun _=>(.bif .rfl .rfl))))))) fun _=> .none)
def Hz(n:Nat)(x:za):Option (zq×za):=
 zb (ql n x) fun y1=>
 ZI n (fun(s2:za×zq×List UInt8)=>
   zb (zk (0,s2.1)) fun y3=>
   zW (X:=Int×za×zq×List UInt8) (
     zb (ZO y3) fun y4=>
     bif y4 then
      zb (ql n s2.1) fun y5=>
      zb (zk (0,y5)) fun y6=>
      bif bif y6 != 41 then y6 != (-1)else false then
       zb (QP n y5) fun y7=>
       some (LX.ret (LO.ret (y7.1,y7.2)))
      else
       some (LX.out (y6,y5,s2.2.1,s2.2.2))
     else
      some (LX.out (y3,s2.1,s2.2.1,s2.2.2))) fun j8=>
   bif j8.1==(-1)then
    some (LO.ret ((⟨7,j8.2.2.2,0,[],false⟩:zq),j8.2.1))
   else
    bif j8.1==41 then
     some (LO.ret ((⟨7,j8.2.2.2,0,[],false⟩:zq),(⟨j8.2.1.s,w64 (j8.2.1.at_+1)⟩:za)))
    else
     zb (zC (!(bif bif bif bif j8.1==34 then true else j8.1==39 then true else j8.1==40 then true else decide (j8.1<=8)then true else j8.1==11)) (QC (j8.1,14,31)) (default:Bool)) fun y9=>
     bif bif bif bif bif bif bif j8.1==34 then true else j8.1==39 then true else j8.1==40 then true else decide (j8.1<=8)then true else j8.1==11 then true else y9 then true else j8.1==127 then
      zb (QP n j8.2.1) fun y10=>
      some (LO.ret (y10.1,y10.2))
     else
      bif j8.1 != 92 then
       zb (Jc (wu8 j8.1)) fun y11=>
       need (Zi j8.2.2.2.length 1 1)<|
       some (LO.again ((⟨j8.2.1.s,w64 (j8.2.1.at_+1)⟩:za),j8.2.2.1,j8.2.2.2++[y11]))
      else
       zb (zS (0,j8.2.1)) fun y12=>
       bif y12 then
        zb (ZZ n (j8.2.1,j8.2.2.2)) fun y13=>
        some (LO.again (y13.1,j8.2.2.1,y13.2))
       else
        zb (QP n j8.2.1) fun y14=>
        some (LO.ret (y14.1,y14.2)):za×zq×List UInt8->Option (LO (za×zq×List UInt8) (Unit) _)) (y1,(⟨0,[],0,[],false⟩:zq),[]) fun o15=>
 none
theorem jR(n:Nat)(x:za):Le (Hz n x) (wm x):=by unfold Hz wm;exact(.bind (QR n _) fun _=>(.loop (fun _=>(.bind .rfl fun _=>(.join (.bind .rfl fun _=>(.bif (.bind (QR n _) fun _=>(.bind .rfl fun _=>(.bif (.bind (xz n _) fun _=> .rfl) .rfl))) .rfl)) fun _=>(.bif .rfl (.bif .rfl (.bind .rfl fun _=>(.bif (.bind (xz n _) fun _=> .rfl) (.bif (.bind .rfl fun _=>(.need .rfl)) (.bind .rfl fun _=>(.bif (.bind (QT n _) fun _=> .rfl) (.bind (xz n _) fun _=> .rfl))))))))))) fun _=> .none))
def oz(n:Nat)(x:za):Option (zq×za):=
 zb (qE n x) fun y1=>
 zb (zk (0,y1.2)) fun y2=>
 bif y2 != 40 then
  some ((⟨1,y1.1,0,[],false⟩:zq),y1.2)
 else
  zW (X:=za×zq) (
    zb (qV n (y1.1,[117,114,108])) fun y3=>
    bif y3 then
     zb (ql n (⟨y1.2.s,w64 (y1.2.at_+1)⟩:za)) fun y4=>
     zb (zk (0,y4)) fun y5=>
     bif bif y5 != 34 then y5 != 39 else false then
      zb (Hz n (⟨y1.2.s,w64 (y1.2.at_+1)⟩:za)) fun y6=>
      some (LX.ret (y6.1,y6.2))
     else
      some (LX.out ((⟨y1.2.s,w64 (y1.2.at_+1)⟩:za),(⟨0,[],0,[],false⟩:zq)))
    else
     some (LX.out ((⟨y1.2.s,w64 (y1.2.at_+1)⟩:za),(⟨0,[],0,[],false⟩:zq)))) fun j7=>
  some ((⟨2,y1.1,0,[],false⟩:zq),j7.1)
theorem yR(n:Nat)(x:za):Le (oz n x) (QQ x):=by unfold oz QQ;exact(.bind (Sr n _) fun _=>(.bind .rfl fun _=>(.bif .rfl (.join (.bind (QA n _) fun _=>(.bif (.bind (QR n _) fun _=>(.bind .rfl fun _=>(.bif (.bind (jR n _) fun _=> .rfl) .rfl))) .rfl)) fun _=> .rfl))))
def rz(n:Nat)(x:za):Option (zq×za):=
 zb (zk (0,x)) fun y1=>
 need (decide (0<=x.at_)&&decide (x.at_<=(x.s.length:Int)))<|
 zb (ZO y1) fun y2=>
 bif y2 then
  zb (ql n x) fun y3=>
  some ((⟨13,[],0,[],false⟩:zq),y3)
 else
  bif bif y1==34 then true else y1==39 then
   zb (az n x) fun y4=>
   some (y4.1,y4.2)
  else
   zb (zC (y1==35) (zk (1,x)) (default:Int)) fun y5=>
   zb (zC (y1==35) (Gh y5) (default:Bool)) fun y6=>
   zb (zC (!y6&&y1==35) (zS (1,x)) (default:Bool)) fun y7=>
   bif bif y1==35 then bif y6 then true else y7 else false then
    zb (Zm (1,x)) fun y8=>
    zb (qE n (⟨x.s,w64 (x.at_+1)⟩:za)) fun y9=>
    some ((⟨4,y9.1,0,[],y8⟩:zq),y9.2)
   else
    zb (Jr x) fun y10=>
    bif y10 then
     zb (SA n x) fun y11=>
     some (y11.1,y11.2)
    else
     zb (strings_HasPrefix (List.drop x.at_.toNat x.s,[45,45,62])) fun y12=>
     bif y12 then
      some ((⟨15,[],0,[],false⟩:zq),(⟨x.s,w64 (x.at_+3)⟩:za))
     else
      zb (strings_HasPrefix (List.drop x.at_.toNat x.s,[60,33,45,45])) fun y13=>
      bif y13 then
       some ((⟨14,[],0,[],false⟩:zq),(⟨x.s,w64 (x.at_+4)⟩:za))
      else
       zb (zC (y1==64) (Zm (1,x)) (default:Bool)) fun y14=>
       bif bif y1==64 then y14 else false then
        zb (qE n (⟨x.s,w64 (x.at_+1)⟩:za)) fun y15=>
        some ((⟨3,y15.1,0,[],false⟩:zq),y15.2)
       else
        zb (Zm (0,x)) fun y16=>
        bif y16 then
         zb (oz n x) fun y17=>
         some (y17.1,y17.2)
        else
         zb (strings_IndexByte ([58,59,44,91,93,40,41,123,125],wu8 y1)) fun y18=>
         bif decide (y18>=0)then
          some ((⟨wu8 (16+wu8 y18),[],0,[],false⟩:zq),(⟨x.s,w64 (x.at_+1)⟩:za))
         else
          need (decide (1<=((List.drop x.at_.toNat x.s).length:Int)))<|
          some ((⟨9,List.take 1 (List.drop x.at_.toNat x.s),0,[],false⟩:zq),(⟨x.s,w64 (x.at_+1)⟩:za))
theorem ER(n:Nat)(x:za):Le (rz n x) (jm x):=by unfold rz jm;exact(.bind .rfl fun _=>(.need (.bind .rfl fun _=>(.bif (.bind (QR n _) fun _=> .rfl) (.bif (.bind (rR n _) fun _=> .rfl) (.bind .rfl fun _=>(.bind .rfl fun _=>(.bind .rfl fun _=>(.bif (.bind .rfl fun _=>(.bind (Sr n _) fun _=> .rfl)) (.bind .rfl fun _=>(.bif (.bind (jS n _) fun _=> .rfl) (.bind .rfl fun _=>(.bif .rfl (.bind .rfl fun _=>(.bif .rfl (.bind .rfl fun _=>(.bif (.bind (Sr n _) fun _=> .rfl) (.bind .rfl fun _=>(.bif (.bind (yR n _) fun _=> .rfl) (.bind .rfl fun _=>(.bif .rfl (.need .rfl))))))))))))))))))))))
def Vx(n:Nat)(x:Str):Option (Int×List zq):=
 zb (xh x) fun y1=>
 bif y1.2 != 0 then
  some (y1.2,[])
 else
  zb (Qn n (⟨y1.1,0⟩:za)) fun y2=>
  ZI n (fun(s3:Int×List zq×za)=>
    bif decide (s3.2.2.at_<(y1.1.length:Int))then
     bif decide (w64 (s3.1+1)>1500)then
      some (LO.ret (4,s3.2.1))
     else
      zb (rz n s3.2.2) fun y4=>
      zb (tq ((y4.1,s3.2.2.at_,y4.2.at_),s3.2.1)) fun y5=>
      zb (Qn n y4.2) fun y6=>
      some (LO.again (w64 (s3.1+1),y5,y6))
    else
     some (LO.out (s3.2.1,s3.2.2)):Int×List zq×za->Option (LO (Int×List zq×za) (List zq×za) _)) (0,[],y2) fun o7=>
  some (0,o7.1)
theorem WP(n:Nat)(x:Str):Le (Vx n x) (Kl x):=by unfold Vx Kl;exact(.bind .rfl fun _=>(.bif .rfl (.bind (mH n _) fun _=>(.loop (fun _=>(.bif (.bif .rfl (.bind (ER n _) fun _=>(.bind .rfl fun _=>(.bind (mH n _) fun _=> .rfl)))) .rfl)) fun _=> .rfl))))
def ni(n:Nat)(x:Str):Option (List zq×Int):=
 zb (Vx n x) fun y1=>
 bif y1.1 != 0 then
  some ([],y1.1)
 else
  some (y1.2,0)
theorem Ar(n:Nat)(x:Str):Le (ni n x) (af x):=by unfold ni af;exact(.bind (WP n _) fun _=>(.bif .rfl .rfl))
def uz(n:Nat)(x:Int×List UInt8):Option Int:=
 ZI n (fun(s1:Int)=>
   bif decide (s1<(x.2.length:Int))then
    need (decide (0<=s1)&&decide (s1<(x.2.length:Int)))<|
    zb x.2[s1.toNat]? fun y2=>
    bif x.1==(y2.toNat:Int)then
     some (LO.ret s1)
    else
     some (LO.again (w64 (s1+1)))
   else
    some (LO.out ()):Int->Option (LO (Int) (Unit) _)) 0 fun o3=>
 some (-1)
theorem FR(n:Nat)(x:Int×List UInt8):Le (uz n x) (lm x):=by unfold uz lm;exact(.loop (fun _=>(.bif (.need (.bind .rfl fun _=>(.bif .rfl .rfl))) .rfl)) fun _=> .rfl)
def VA(n:Nat)(x:Int×List UInt8):Option Bool:=
 zb (uz n (x.1,x.2)) fun y1=>
 some (decide (y1>=0))
theorem nS(n:Nat)(x:Int×List UInt8):Le (VA n x) (Qc x):=by unfold VA Qc;exact(.bind (FR n _) fun _=> .rfl)
def Vy(n:Nat)(x:ze×List UInt8):Option Bool:=
 zb (VA n (x.1.token.kind,x.2)) fun y1=>
 some y1
theorem UQ(n:Nat)(x:ze×List UInt8):Le (Vy n x) (Ul x):=by unfold Vy Ul;exact(.bind (nS n _) fun _=> .rfl)
def KA(n:Nat)(x:List ze×List UInt8):Option Int:=
 ZI n (fun(s1:Int)=>
   bif decide (s1<(x.1.length:Int))then
    zb (geti x.1 s1) fun y2=>
    zb (Vy n ((⟨y2.token,y2.list⟩:ze),x.2)) fun y3=>
    bif y3 then
     some (LO.ret s1)
    else
     some (LO.again (w64 (s1+1)))
   else
    some (LO.out ()):Int->Option (LO (Int) (Unit) _)) 0 fun o4=>
 some (-1)
theorem SS(n:Nat)(x:List ze×List UInt8):Le (KA n x) (qJ x):=by unfold KA qJ;exact(.loop (fun _=>(.bif (.bind .rfl fun _=>(.bind (UQ n _) fun _=>(.bif .rfl .rfl))) .rfl)) fun _=> .rfl)
def Mx(n:Nat)(x:List ze×List UInt8):Option (List ze×List ze):=
 zb (KA n (x.1,x.2)) fun y1=>
 bif decide (y1<0)then
  some (x.1,[])
 else
  need (decide (0<=y1)&&decide (y1<=(x.1.length:Int)))<|
  need (decide (0<=y1)&&decide (y1<=(x.1.length:Int)))<|
  some (List.take y1.toNat x.1,List.drop y1.toNat x.1)
theorem OP(n:Nat)(x:List ze×List UInt8):Le (Mx n x) (El x):=by unfold Mx El;exact(.bind (SS n _) fun _=>(.bif .rfl (.need (.need .rfl))))
def sw(n:Nat)(qX:List ze×Int->Option zP)(x:List ze×Int):Option zP:=
 ZI n (fun(s1:Int×zP)=>
   bif decide (s1.1<(x.1.length:Int))then
    zW (X:=Int×zP) (
      zb (geti x.1 s1.1) fun y2=>
      zb (Af y2.token.kind) fun y3=>
      zW (X:=zP) (
        bif bif bif x.2 != 0 then y2.token.kind==x.2 else false then true else bif y3==0 then decide ((y2.list.length:Int)>0)else false then
         some (LX.out (⟨s1.2.depth,w64 (s1.2.tokens+1),true⟩:zP))
        else
         some (LX.out (⟨s1.2.depth,w64 (s1.2.tokens+1),s1.2.bad⟩:zP))) fun j4=>
      bif y3==0 then
       some (LX.out (s1.1,j4))
      else
       zb (qX (y2.list,y3)) fun y5=>
       some (LX.out (s1.1,(⟨if w64 (y5.depth+1)>j4.depth then w64 (y5.depth+1)else j4.depth,w64 (w64 (j4.tokens+y5.tokens)+1),bif j4.bad then true else y5.bad⟩:zP)))) fun j6=>
    some (LO.again (w64 (j6.1+1),j6.2))
   else
    some (LO.out s1.2):Int×zP->Option (LO (Int×zP) (zP) _)) (0,(⟨0,0,false⟩:zP)) fun o7=>
 some o7
def vv(n:Nat):List ze×Int->Option zP:=Nc (sw n) n
theorem JO(n:Nat)(qX nest_look':List ze×Int->Option zP)(h_nest_look: ∀z,Le (qX z) (nest_look' z))(x:List ze×Int):Le (sw n qX x) (ik nest_look' x):=by unfold sw ik;exact(.loop (fun _=>(.bif (.join (.bind .rfl fun _=>(.bind .rfl fun _=>(.join (.bif .rfl .rfl) fun _=>(.bif .rfl (.bind (h_nest_look _) fun _=> .rfl))))) fun _=> .rfl) .rfl)) fun _=> .rfl)
theorem WE(n:Nat)(x:List ze×Int):Le (vv n x) (qX x):=Le.rec (fun S S' h x=>JO n S S' h x) n x
def bf(n:Nat)(x:List ze):Option Int:=
 zb (vv n (x,0)) fun y1=>
 bif decide (y1.depth>16)then
  some 20
 else
  bif decide (y1.tokens>1500)then
   some 4
  else
   bif y1.bad then
    some 8
   else
    some 0
theorem Ph(n:Nat)(x:List ze):Le (bf n x) (qc x):=by unfold bf qc;exact(.bind (WE n _) fun _=>(.bif .rfl (.bif .rfl (.bif .rfl .rfl))))
def Zd(n:Nat)(x:zh):Option (Bool×zh):=
 ZI n (fun(s1:zh)=>
   zb (zH (0,s1)) fun y2=>
   bif y2.kind==13 then
    some (LO.again (⟨s1.v,w64 (s1.at_+1)⟩:zh))
   else
    some (LO.out s1):zh->Option (LO (zh) (zh) _)) x fun o3=>
 some (decide (o3.at_>x.at_),o3)
theorem Zk(n:Nat)(x:zh):Le (Zd n x) (zX x):=by unfold Zd zX;exact(.loop (fun _=>(.bind .rfl fun _=>(.bif .rfl .rfl))) fun _=> .rfl)
def Mr(n:Nat)(x:zh):Option (Int×zh):=
 ZI n (fun(s1:Int×zh)=>
   bif decide (s1.1<3)then
    need (decide (0<=s1.1)&&(decide (s1.1<=w64 (s1.1+1))&&decide (w64 (s1.1+1)<=3)))<|
    zb (Zf (List.drop s1.1.toNat (List.take (w64 (s1.1+1)).toNat ([62,43,126]:Str)),s1.2)) fun y2=>
    bif y2.1 then
     zb (Zd n y2.2) fun y3=>
     some (LO.ret (wu8 (2+wu8 s1.1),y3.2))
    else
     some (LO.again (w64 (s1.1+1),y2.2))
   else
    some (LO.out s1.2):Int×zh->Option (LO (Int×zh) (zh) _)) (0,x) fun o4=>
 some (0,o4)
theorem TH(n:Nat)(x:zh):Le (Mr n x) (qN x):=by unfold Mr qN;exact(.loop (fun _=>(.bif (.need (.bind .rfl fun _=>(.bif (.bind (Zk n _) fun _=> .rfl) .rfl))) .rfl)) fun _=> .rfl)
def Ay(n:Nat)(x:List ze):Option (zA×Bool):=
 zb (Zd n (⟨x,0⟩:zh)) fun y1=>
 zb (zH (0,y1.2)) fun y2=>
 zb (Zr n y2.text) fun y3=>
 zb (zH (0,y1.2)) fun y4=>
 bif y4.kind != 1 then
  some ((⟨3,y3,0,[],false,(⟨0,0⟩:VAnb),false,[]⟩:zA),false)
 else
  zb (Zd n (⟨y1.2.v,w64 (y1.2.at_+1)⟩:zh)) fun y5=>
  zb (Zj y5.2) fun y6=>
  bif y6 then
   some ((⟨3,y3,0,[],false,(⟨0,0⟩:VAnb),false,[]⟩:zA),true)
  else
   zW (X:=(Int×Str×Int×Str×Bool×Int×Int×Bool)×zh×(Int×Str×Int×Str×Bool×Int×Int×Bool)) (
     zb (Zf ([61],y5.2)) fun y7=>
     bif y7.1 then
      some (LX.out ((0,[],0,[],false,0,0,false),y7.2,(3,y3,1,[],false,0,0,false)))
     else
      zb (zH (0,y7.2)) fun y8=>
      zb (ae ([126,124,94,36,42],y8.text)) fun y9=>
      bif bif y8.kind != 9 then true else decide (y9<0)then
       some (LX.ret ((⟨3,y3,0,[],false,(⟨0,0⟩:VAnb),false,[]⟩:zA),false))
      else
       zb (Zf ([61],(⟨y7.2.v,w64 (y7.2.at_+1)⟩:zh))) fun y10=>
       bif !y10.1 then
        some (LX.ret ((⟨3,y3,0,[],false,(⟨0,0⟩:VAnb),false,[]⟩:zA),false))
       else
        some (LX.out ((0,[],0,[],false,0,0,false),y10.2,(3,y3,wu8 (2+wu8 y9),[],false,0,0,false)))) fun j11=>
   zb (Zd n j11.2.1) fun y12=>
   zb (zH (0,y12.2)) fun y13=>
   bif bif y13.kind != 1 then y13.kind != 5 else false then
    some ((⟨j11.2.2.1,j11.2.2.2.1,j11.2.2.2.2.1,j11.2.2.2.2.2.1,j11.2.2.2.2.2.2.1,(⟨j11.2.2.2.2.2.2.2.1,j11.2.2.2.2.2.2.2.2.1⟩:VAnb),j11.2.2.2.2.2.2.2.2.2,[]⟩:zA),false)
   else
    zb (Zd n (⟨y12.2.v,w64 (y12.2.at_+1)⟩:zh)) fun y14=>
    zb (zH (0,y14.2)) fun y15=>
    bif y15.kind==1 then
     zb (Zd n (⟨y14.2.v,w64 (y14.2.at_+1)⟩:zh)) fun y16=>
     zb (qV n (y15.text,[105])) fun y17=>
     zb (Zj y16.2) fun y18=>
     zb (zC (!y17&&y18) (qV n (y15.text,[115])) (default:Bool)) fun y19=>
     some ((⟨j11.2.2.1,j11.2.2.2.1,j11.2.2.2.2.1,y13.text,y17,(⟨j11.2.2.2.2.2.2.2.1,j11.2.2.2.2.2.2.2.2.1⟩:VAnb),j11.2.2.2.2.2.2.2.2.2,[]⟩:zA),bif y18 then bif y17 then true else y19 else false)
    else
     zb (Zj y14.2) fun y20=>
     some ((⟨j11.2.2.1,j11.2.2.2.1,j11.2.2.2.2.1,y13.text,j11.2.2.2.2.2.2.1,(⟨j11.2.2.2.2.2.2.2.1,j11.2.2.2.2.2.2.2.2.1⟩:VAnb),j11.2.2.2.2.2.2.2.2.2,[]⟩:zA),y20)
theorem dP(n:Nat)(x:List ze):Le (Ay n x) (jl x):=by unfold Ay jl;exact(.bind (Zk n _) fun _=>(.bind .rfl fun _=>(.bind (Zw n _) fun _=>(.bind .rfl fun _=>(.bif .rfl (.bind (Zk n _) fun _=>(.bind .rfl fun _=>(.bif .rfl (.join (.bind .rfl fun _=>(.bif .rfl (.bind .rfl fun _=>(.bind .rfl fun _=>(.bif .rfl (.bind .rfl fun _=>(.bif .rfl .rfl))))))) fun _=>(.bind (Zk n _) fun _=>(.bind .rfl fun _=>(.bif .rfl (.bind (Zk n _) fun _=>(.bind .rfl fun _=>(.bif (.bind (Zk n _) fun _=>(.bind (QA n _) fun _=>(.bind .rfl fun _=>(.bind (.cond (QA n _)) fun _=> .rfl)))) (.bind .rfl fun _=> .rfl))))))))))))))))
def Qe(n:Nat)(x:List Str×Str):Option Int:=
 ZI n (fun(s1:Int)=>
   bif decide (s1<(x.1.length:Int))then
    zb (geti x.1 s1) fun y2=>
    bif x.2==y2 then
     some (LO.ret s1)
    else
     some (LO.again (w64 (s1+1)))
   else
    some (LO.out ()):Int->Option (LO (Int) (Unit) _)) 0 fun o3=>
 some (-1)
theorem kz(n:Nat)(x:List Str×Str):Le (Qe n x) (slices_Index_string x):=by unfold Qe slices_Index_string;exact(.loop (fun _=>(.bif (.bind .rfl fun _=>(.bif .rfl .rfl)) .rfl)) fun _=> .rfl)
def yx(n:Nat)(x:Str):Option (zA×Bool):=
 zb (Zr n x) fun y1=>
 bif y1==[102,105,114,115,116,45,99,104,105,108,100]then
  some ((⟨9,[],0,[],false,(⟨0,1⟩:VAnb),false,[]⟩:zA),true)
 else
  bif y1==[108,97,115,116,45,99,104,105,108,100]then
   some ((⟨10,[],0,[],false,(⟨0,1⟩:VAnb),false,[]⟩:zA),true)
  else
   zb (Mh ()) fun y2=>
   zb (Zr n x) fun y3=>
   zb (Qe n (y2,y3)) fun y4=>
   some ((⟨wu8 (4+wu8 (if 0>y4 then 0 else y4)),[],0,[],false,(⟨0,0⟩:VAnb),false,[]⟩:zA),bif decide (y4>=0)then decide (y4<5)else false)
theorem bP(n:Nat)(x:Str):Le (yx n x) (il x):=by unfold yx il;exact(.bind (Zw n _) fun _=>(.bif .rfl (.bif .rfl (.bind .rfl fun _=>(.bind (Zw n _) fun _=>(.bind (kz n _) fun _=> .rfl))))))
def Yy(n:Nat)(x:ze):Option Bool:=
 zb (zC (x.token.kind==1) (qV n (x.token.text,[111,102])) (default:Bool)) fun y1=>
 some (bif x.token.kind==1 then y1 else false)
theorem GQ(n:Nat)(x:ze):Le (Yy n x) (Pm x):=by unfold Yy Pm;exact(.bind (.cond (QA n _)) fun _=> .rfl)
def QX(n:Nat)(x:List ze):Option Int:=
 ZI n (fun(s1:Int)=>
   bif decide (s1<(x.length:Int))then
    zb (geti x s1) fun y2=>
    zb (Yy n (⟨y2.token,y2.list⟩:ze)) fun y3=>
    bif y3 then
     some (LO.ret s1)
    else
     some (LO.again (w64 (s1+1)))
   else
    some (LO.out ()):Int->Option (LO (Int) (Unit) _)) 0 fun o4=>
 some (-1)
theorem KT(n:Nat)(x:List ze):Le (QX n x) (qh x):=by unfold QX qh;exact(.loop (fun _=>(.bif (.bind .rfl fun _=>(.bind (GQ n _) fun _=>(.bif .rfl .rfl))) .rfl)) fun _=> .rfl)
def Uy(n:Nat)(Z7:List ze×List zq->Option (List zq))(x:List ze×List zq):Option (List zq):=
 ZI n (fun(s1:Int×List zq)=>
   bif decide (s1.1<(x.1.length:Int))then
    zW (X:=Int×List zq) (
      zb (geti x.1 s1.1) fun y2=>
      need (Zi s1.2.length 1 56)<|
      zb (Af y2.token.kind) fun y3=>
      bif y3 != 0 then
       zb (Z7 (y2.list,s1.2++[y2.token])) fun y4=>
       need (Zi y4.length 1 56)<|
       some (LX.out (s1.1,y4++[(⟨y3,[],0,[],false⟩:zq)]))
      else
       some (LX.out (s1.1,s1.2++[y2.token]))) fun j5=>
    some (LO.again (w64 (j5.1+1),j5.2))
   else
    some (LO.out s1.2):Int×List zq->Option (LO (Int×List zq) (List zq) _)) (0,x.2) fun o6=>
 some o6
def RF(n:Nat):List ze×List zq->Option (List zq):=Nc (Uy n) n
theorem gP(n:Nat)(Z7 nest_flat_3':List ze×List zq->Option (List zq))(h_nest_flat_3: ∀z,Le (Z7 z) (nest_flat_3' z))(x:List ze×List zq):Le (Uy n Z7 x) (Hm nest_flat_3' x):=by unfold Uy Hm;exact(.loop (fun _=>(.bif (.join (.bind .rfl fun _=>(.need (.bind .rfl fun _=>(.bif (.bind (h_nest_flat_3 _) fun _=>(.need .rfl)) .rfl)))) fun _=> .rfl) .rfl)) fun _=> .rfl)
theorem cO(n:Nat)(x:List ze×List zq):Le (RF n x) (Z7 x):=Le.rec (fun S S' h x=>gP n S S' h x) n x
def uw(n:Nat)(x:List ze):Option (List zq):=
 ZI n (fun(s1:Int×List zq)=>
   bif decide (s1.1<(x.length:Int))then
    zW (X:=Int×List zq) (
      zb (geti x s1.1) fun y2=>
      need (Zi s1.2.length 1 56)<|
      zb (Af y2.token.kind) fun y3=>
      bif y3 != 0 then
       zb (RF n (y2.list,s1.2++[y2.token])) fun y4=>
       need (Zi y4.length 1 56)<|
       some (LX.out (s1.1,y4++[(⟨y3,[],0,[],false⟩:zq)]))
      else
       some (LX.out (s1.1,s1.2++[y2.token]))) fun j5=>
    some (LO.again (w64 (j5.1+1),j5.2))
   else
    some (LO.out s1.2):Int×List zq->Option (LO (Int×List zq) (List zq) _)) (0,[]) fun o6=>
 some o6
theorem dO(n:Nat)(x:List ze):Le (uw n x) (jk x):=by unfold uw jk;exact(.loop (fun _=>(.bif (.join (.bind .rfl fun _=>(.need (.bind .rfl fun _=>(.bif (.bind (cO n _) fun _=>(.need .rfl)) .rfl)))) fun _=> .rfl) .rfl)) fun _=> .rfl)
def Jq(n:Nat)(x:List ze):Option (List zq×Int):=
 zb (bf n x) fun y1=>
 bif y1 != 0 then
  some ([],y1)
 else
  zb (uw n x) fun y2=>
  some (y2,0)
theorem XE(n:Nat)(x:List ze):Le (Jq n x) (lg x):=by unfold Jq lg;exact(.bind (Ph n _) fun _=>(.bif .rfl (.bind (dO n _) fun _=> .rfl)))
def Dr(n:Nat)(x:Str):Option Bool:=
 zb (Nh x) fun y1=>
 zb (zC y1 (Zr n x) (default:Str)) fun y2=>
 some (bif y1 then y2==x else false)
theorem WG(n:Nat)(x:Str):Le (Dr n x) (Lh x):=by unfold Dr Lh;exact(.bind .rfl fun _=>(.bind (.cond (Zw n _)) fun _=> .rfl))
def Dz(n:Nat)(zg:zy×zf->Option Bool)(x:zy×zf):Option Bool:=
 zb (zg ((⟨x.1.tag,x.1.simples⟩:zy),x.2)) fun y1=>
 some (!y1)
theorem iQ(n:Nat)(zg seltext_compound':zy×zf->Option Bool)(h_seltext_compound: ∀z,Le (zg z) (seltext_compound' z))(x:zy×zf):Le (Dz n zg x) (Um seltext_compound' x):=by unfold Dz Um;exact(.bind (h_seltext_compound _) fun _=> .rfl)
def QM(n:Nat)(zg:zy×zf->Option Bool)(x:List zy×zf):Option Int:=
 ZI n (fun(s1:Int)=>
   bif decide (s1<(x.1.length:Int))then
    zb (geti x.1 s1) fun y2=>
    zb (Dz n zg ((⟨y2.tag,y2.simples⟩:zy),x.2)) fun y3=>
    bif y3 then
     some (LO.ret s1)
    else
     some (LO.again (w64 (s1+1)))
   else
    some (LO.out ()):Int->Option (LO (Int) (Unit) _)) 0 fun o4=>
 some (-1)
theorem tT(n:Nat)(zg seltext_compound':zy×zf->Option Bool)(h_seltext_compound: ∀z,Le (zg z) (seltext_compound' z))(x:List zy×zf):Le (QM n zg x) (ZW seltext_compound' x):=by unfold QM ZW;exact(.loop (fun _=>(.bif (.bind .rfl fun _=>(.bind (iQ n _ _ h_seltext_compound _) fun _=>(.bif .rfl .rfl))) .rfl)) fun _=> .rfl)
def qZ(n:Nat)(zg:zy×zf->Option Bool)(x:List zy×zf):Option Bool:=
 zb (QM n zg (x.1,x.2)) fun y1=>
 some (decide (y1>=0))
theorem CU(n:Nat)(zg seltext_compound':zy×zf->Option Bool)(h_seltext_compound: ∀z,Le (zg z) (seltext_compound' z))(x:List zy×zf):Le (qZ n zg x) (Zz seltext_compound' x):=by unfold qZ Zz;exact(.bind (tT n _ _ h_seltext_compound _) fun _=> .rfl)
def Cr(n:Nat)(zg:zy×zf->Option Bool)(x:zw×zf×Bool):Option Bool:=
 bif bif bif bif !(x.2.2==(x.1.lead != 0))then true else decide (x.1.lead>4)then true else w64 ((x.1.combs.length:Int)+1) != (x.1.parts.length:Int)then true else decide ((x.1.parts.length:Int)>64)then
  some false
 else
  ZI n (fun(s1:Int)=>
    bif decide (s1<(x.1.combs.length:Int))then
     zb (geti x.1.combs s1) fun y2=>
     bif bif decide ((y2.toNat:Int)<1)then true else decide ((y2.toNat:Int)>4)then
      some (LO.ret false)
     else
      some (LO.again (w64 (s1+1)))
    else
     some (LO.out ()):Int->Option (LO (Int) (Unit) _)) 0 fun o3=>
  zb (qZ n zg (x.1.parts,x.2.1)) fun y4=>
  some (!y4)
theorem VG(n:Nat)(zg seltext_compound':zy×zf->Option Bool)(h_seltext_compound: ∀z,Le (zg z) (seltext_compound' z))(x:zw×zf×Bool):Le (Cr n zg x) (Kh seltext_compound' x):=by unfold Cr Kh;exact(.bif .rfl (.loop (fun _=>(.bif (.bind .rfl fun _=>(.bif .rfl .rfl)) .rfl)) fun _=>(.bind (CU n _ _ h_seltext_compound _) fun _=> .rfl)))
def Uz(n:Nat)(zg:zy×zf->Option Bool)(x:zw×zf×zA):Option Bool:=
 zb (Cr n zg ((⟨x.1.lead,x.1.parts,x.1.combs⟩:zw),x.2.1,x.2.2.kind==14)) fun y1=>
 some (!y1)
theorem vQ(n:Nat)(zg seltext_compound':zy×zf->Option Bool)(h_seltext_compound: ∀z,Le (zg z) (seltext_compound' z))(x:zw×zf×zA):Le (Uz n zg x) (Tm seltext_compound' x):=by unfold Uz Tm;exact(.bind (VG n _ _ h_seltext_compound _) fun _=> .rfl)
def QW(n:Nat)(zg:zy×zf->Option Bool)(x:List zw×zf×zA):Option Int:=
 ZI n (fun(s1:Int)=>
   bif decide (s1<(x.1.length:Int))then
    zb (geti x.1 s1) fun y2=>
    zb (Uz n zg ((⟨y2.lead,y2.parts,y2.combs⟩:zw),x.2.1,(⟨x.2.2.kind,x.2.2.name,x.2.2.op,x.2.2.value,x.2.2.fold,x.2.2.anb,x.2.2.of_,x.2.2.list⟩:zA))) fun y3=>
    bif y3 then
     some (LO.ret s1)
    else
     some (LO.again (w64 (s1+1)))
   else
    some (LO.out ()):Int->Option (LO (Int) (Unit) _)) 0 fun o4=>
 some (-1)
theorem NT(n:Nat)(zg seltext_compound':zy×zf->Option Bool)(h_seltext_compound: ∀z,Le (zg z) (seltext_compound' z))(x:List zw×zf×zA):Le (QW n zg x) (qg seltext_compound' x):=by unfold QW qg;exact(.loop (fun _=>(.bif (.bind .rfl fun _=>(.bind (vQ n _ _ h_seltext_compound _) fun _=>(.bif .rfl .rfl))) .rfl)) fun _=> .rfl)
def Qq(n:Nat)(zg:zy×zf->Option Bool)(x:List zw×zf×zA):Option Bool:=
 zb (QW n zg (x.1,x.2.1,(⟨x.2.2.kind,x.2.2.name,x.2.2.op,x.2.2.value,x.2.2.fold,x.2.2.anb,x.2.2.of_,x.2.2.list⟩:zA))) fun y1=>
 some (decide (y1>=0))
theorem FU(n:Nat)(zg seltext_compound':zy×zf->Option Bool)(h_seltext_compound: ∀z,Le (zg z) (seltext_compound' z))(x:List zw×zf×zA):Le (Qq n zg x) (ZE seltext_compound' x):=by unfold Qq ZE;exact(.bind (NT n _ _ h_seltext_compound _) fun _=> .rfl)
def iy(n:Nat)(zg:zy×zf->Option Bool)(x:zA×zf):Option Bool:=
 zb (lq (⟨x.1.kind,x.1.name,x.1.op,x.1.value,x.1.fold,x.1.anb,x.1.of_,x.1.list⟩:zA)) fun y1=>
 zW (X:=Unit) (
   bif y1.1 then
    zb (ZH (x.2,x.1.kind)) fun y2=>
    zb (zC (!(bif !y2.2 then true else bif !y1.2 then(x.1.list.length:Int)==0 else false)) (Qq n zg (x.1.list,y2.1,(⟨x.1.kind,x.1.name,x.1.op,x.1.value,x.1.fold,x.1.anb,x.1.of_,x.1.list⟩:zA))) (default:Bool)) fun y3=>
    bif bif bif !y2.2 then true else bif !y1.2 then(x.1.list.length:Int)==0 else false then true else y3 then
     some (LX.ret false)
    else
     some (LX.out ())
   else
    bif decide ((x.1.list.length:Int)>0)then
     some (LX.ret false)
    else
     some (LX.out ())) fun j4=>
 bif bif bif !(x.1.kind==3)then bif bif x.1.op != 0 then true else !(x.1.value==[])then true else x.1.fold else false then true else bif !(bif x.1.kind==9 then true else x.1.kind==10)then bif x.1.of_ then true else !(x.1.anb.a==0&&(x.1.anb.b==0&&true))else false then
  some false
 else
  zW (X:=Bool) (
    bif x.1.kind==1 then
     some (LX.out (x.1.kind==1))
    else
     some (LX.out (x.1.kind==2))) fun j5=>
  bif j5 then
   zb (Nh x.1.name) fun y6=>
   some y6
  else
   bif x.1.kind==3 then
    zb (Dr n x.1.name) fun y7=>
    zb (zC (bif y7 then decide (x.1.op<=6)else false) (mi (x.1.value,400)) (default:Bool)) fun y8=>
    some (bif bif bif y7 then decide (x.1.op<=6)else false then !y8 else false then bif x.1.op != 0 then true else bif x.1.value==[]then !x.1.fold else false else false)
   else
    zb (zC (!(!(bif x.1.kind==9 then true else x.1.kind==10))&&(bif bif x.1.name==[]then decide (x.1.kind>=4)else false then decide (x.1.kind<=14)else false)) (Bq x.1.anb) (default:Int)) fun y9=>
    some (bif bif bif x.1.name==[]then decide (x.1.kind>=4)else false then decide (x.1.kind<=14)else false then bif !(bif x.1.kind==9 then true else x.1.kind==10)then true else y9==0 else false)
theorem BQ(n:Nat)(zg seltext_compound':zy×zf->Option Bool)(h_seltext_compound: ∀z,Le (zg z) (seltext_compound' z))(x:zA×zf):Le (iy n zg x) (ul seltext_compound' x):=by unfold iy ul;exact(.bind .rfl fun _=>(.join (.bif (.bind .rfl fun _=>(.bind (.cond (FU n _ _ h_seltext_compound _)) fun _=>(.bif .rfl .rfl))) (.bif .rfl .rfl)) fun _=>(.bif .rfl (.join (.bif .rfl .rfl) fun _=>(.bif (.bind .rfl fun _=> .rfl) (.bif (.bind (WG n _) fun _=>(.bind .rfl fun _=> .rfl)) (.bind .rfl fun _=> .rfl)))))))
def wz(n:Nat)(zg:zy×zf->Option Bool)(x:zy×zf):Option Bool:=
 zb (zC (bif !(x.1.tag==[])then !(x.1.tag==[42])else false) (Dr n x.1.tag) (default:Bool)) fun y1=>
 bif bif bif bif !(x.1.tag==[])then !(x.1.tag==[42])else false then !y1 else false then true else decide ((x.1.simples.length:Int)>64)then
  some false
 else
  ZI n (fun(s2:Int)=>
    bif decide (s2<(x.1.simples.length:Int))then
     zb (geti x.1.simples s2) fun y3=>
     zb (iy n zg ((⟨y3.kind,y3.name,y3.op,y3.value,y3.fold,y3.anb,y3.of_,y3.list⟩:zA),x.2)) fun y4=>
     bif !y4 then
      some (LO.ret false)
     else
      some (LO.again (w64 (s2+1)))
    else
     some (LO.out ()):Int->Option (LO (Int) (Unit) _)) 0 fun o5=>
  some (bif !(x.1.tag==[])then true else decide ((x.1.simples.length:Int)>0))
def Wz(n:Nat):zy×zf->Option Bool:=Nc (wz n) n
theorem KR(n:Nat)(zg seltext_compound':zy×zf->Option Bool)(h_seltext_compound: ∀z,Le (zg z) (seltext_compound' z))(x:zy×zf):Le (wz n zg x) (om seltext_compound' x):=by unfold wz om;exact(.bind (.cond (WG n _)) fun _=>(.bif .rfl (.loop (fun _=>(.bif (.bind .rfl fun _=>(.bind (BQ n _ _ h_seltext_compound _) fun _=>(.bif .rfl .rfl))) .rfl)) fun _=> .rfl)))
theorem nG(n:Nat)(x:zy×zf):Le (Wz n x) (zg x):=Le.rec (fun S S' h x=>KR n S S' h x) n x
def iw(n:Nat)(zu:List ze×zf×Bool×Bool->Option (List zw×Bool))(x:zA×List ze×zf):Option (zA×Bool):=
 zb (QX n x.2.1) fun y1=>
 zW (X:=List ze×zA×(Int×Str×Int×Str×Bool×Int×Int×Bool)) (
   bif decide (y1>=0)then
    zb (ZH (x.2.2,x.1.kind)) fun y2=>
    need (decide (0<=w64 (y1+1))&&decide (w64 (y1+1)<=(x.2.1.length:Int)))<|
    zb (zu (List.drop (w64 (y1+1)).toNat x.2.1,y2.1,false,false)) fun y3=>
    bif bif !y2.2 then true else !y3.2 then
     some (LX.ret ((⟨x.1.kind,x.1.name,x.1.op,x.1.value,x.1.fold,x.1.anb,x.1.of_,x.1.list⟩:zA),false))
    else
     need (decide (0<=y1)&&decide (y1<=(x.2.1.length:Int)))<|
     some (LX.out (List.take y1.toNat x.2.1,(⟨x.1.kind,x.1.name,x.1.op,x.1.value,x.1.fold,x.1.anb,true,y3.1⟩:zA),(0,[],0,[],false,0,0,false)))
   else
    some (LX.out (x.2.1,(⟨x.1.kind,x.1.name,x.1.op,x.1.value,x.1.fold,x.1.anb,x.1.of_,x.1.list⟩:zA),(0,[],0,[],false,0,0,false)))) fun j4=>
 zb (Jq n j4.1) fun y5=>
 bif y5.2 != 0 then
  some ((⟨j4.2.1.kind,j4.2.1.name,j4.2.1.op,j4.2.1.value,j4.2.1.fold,j4.2.1.anb,j4.2.1.of_,j4.2.1.list⟩:zA),false)
 else
  zb (Xo y5.1) fun y6=>
  some ((⟨j4.2.1.kind,j4.2.1.name,j4.2.1.op,j4.2.1.value,j4.2.1.fold,y6.1,j4.2.1.of_,j4.2.1.list⟩:zA),y6.2==0)
theorem bO(n:Nat)(zu seltext_parts':List ze×zf×Bool×Bool->Option (List zw×Bool))(h_seltext_parts: ∀z,Le (zu z) (seltext_parts' z))(x:zA×List ze×zf):Le (iw n zu x) (Jl seltext_parts' x):=by unfold iw Jl;exact(.bind (KT n _) fun _=>(.join (.bif (.bind .rfl fun _=>(.need (.bind (h_seltext_parts _) fun _=>(.bif .rfl (.need .rfl))))) .rfl) fun _=>(.bind (XE n _) fun _=>(.bif .rfl (.bind .rfl fun _=> .rfl)))))
def Vz(n:Nat)(zu:List ze×zf×Bool×Bool->Option (List zw×Bool))(x:Str×List ze×zf):Option (zA×Bool):=
 zb (Mh ()) fun y1=>
 zb (Zr n x.1) fun y2=>
 zb (Qe n (y1,y2)) fun y3=>
 bif decide (y3<5)then
  some ((⟨0,[],0,[],false,(⟨0,0⟩:VAnb),false,[]⟩:zA),false)
 else
  bif decide (wu8 (4+wu8 y3)<=10)then
   zb (iw n zu ((⟨wu8 (4+wu8 y3),[],0,[],false,(⟨0,0⟩:VAnb),false,[]⟩:zA),x.2.1,x.2.2)) fun y4=>
   some ((⟨y4.1.kind,y4.1.name,y4.1.op,y4.1.value,y4.1.fold,y4.1.anb,y4.1.of_,y4.1.list⟩:zA),y4.2)
  else
   zb (ZH (x.2.2,wu8 (4+wu8 y3))) fun y5=>
   bif !y5.2 then
    some ((⟨wu8 (4+wu8 y3),[],0,[],false,(⟨0,0⟩:VAnb),false,[]⟩:zA),false)
   else
    zb (zu (x.2.1,y5.1,wu8 (4+wu8 y3)==14,decide (wu8 (4+wu8 y3)<=12))) fun y6=>
    some ((⟨wu8 (4+wu8 y3),[],0,[],false,(⟨0,0⟩:VAnb),false,y6.1⟩:zA),y6.2)
theorem wQ(n:Nat)(zu seltext_parts':List ze×zf×Bool×Bool->Option (List zw×Bool))(h_seltext_parts: ∀z,Le (zu z) (seltext_parts' z))(x:Str×List ze×zf):Le (Vz n zu x) (Dn seltext_parts' x):=by unfold Vz Dn;exact(.bind .rfl fun _=>(.bind (Zw n _) fun _=>(.bind (kz n _) fun _=>(.bif .rfl (.bif (.bind (bO n _ _ h_seltext_parts _) fun _=> .rfl) (.bind .rfl fun _=>(.bif .rfl (.bind (h_seltext_parts _) fun _=> .rfl))))))))
def NA(n:Nat)(zu:List ze×zf×Bool×Bool->Option (List zw×Bool))(x:zf×zh):Option ((List zA×Bool)×zh):=
 ZI n (fun(s1:zh×List zA)=>
   zb (zH (1,s1.1)) fun y2=>
   zW (X:=Bool×zh×List zA×zA) (
     zb (zH (0,s1.1)) fun y3=>
     bif y3.kind==4 then
      some (LX.out (y3.flag,(⟨s1.1.v,w64 (s1.1.at_+1)⟩:zh),s1.2,(⟨1,y3.text,0,[],false,(⟨0,0⟩:VAnb),false,[]⟩:zA)))
     else
      bif bif y3.kind==9 then y3.text==[46]else false then
       some (LX.out (y2.kind==1,(⟨s1.1.v,w64 (s1.1.at_+2)⟩:zh),s1.2,(⟨2,y2.text,0,[],false,(⟨0,0⟩:VAnb),false,[]⟩:zA)))
      else
       bif y3.kind==19 then
        zb (qO (0,s1.1)) fun y4=>
        zb (Ay n y4) fun y5=>
        some (LX.out (y5.2,(⟨s1.1.v,w64 (s1.1.at_+1)⟩:zh),s1.2,(⟨y5.1.kind,y5.1.name,y5.1.op,y5.1.value,y5.1.fold,y5.1.anb,y5.1.of_,y5.1.list⟩:zA)))
       else
        bif y3.kind==16 then
         zW (X:=Bool×zh×zA) (
           bif y2.kind==1 then
            zb (yx n y2.text) fun y6=>
            some (LX.out (y6.2,s1.1,(⟨y6.1.kind,y6.1.name,y6.1.op,y6.1.value,y6.1.fold,y6.1.anb,y6.1.of_,y6.1.list⟩:zA)))
           else
            bif y2.kind==2 then
             zb (qO (1,s1.1)) fun y7=>
             zb (Vz n zu (y2.text,y7,x.1)) fun y8=>
             some (LX.out (y8.2,s1.1,(⟨y8.1.kind,y8.1.name,y8.1.op,y8.1.value,y8.1.fold,y8.1.anb,y8.1.of_,y8.1.list⟩:zA)))
            else
             some (LX.out (false,s1.1,(⟨0,[],0,[],false,(⟨0,0⟩:VAnb),false,[]⟩:zA)))) fun j9=>
         some (LX.out (j9.1,(⟨j9.2.1.v,w64 (j9.2.1.at_+2)⟩:zh),s1.2,(⟨j9.2.2.kind,j9.2.2.name,j9.2.2.op,j9.2.2.value,j9.2.2.fold,j9.2.2.anb,j9.2.2.of_,j9.2.2.list⟩:zA)))
        else
         some (LX.ret (LO.ret ((s1.2,true),s1.1)))) fun j10=>
   bif !j10.1 then
    some (LO.ret (([],false),j10.2.1))
   else
    need (Zi j10.2.2.1.length 1 104)<|
    some (LO.again (j10.2.1,j10.2.2.1++[(⟨j10.2.2.2.kind,j10.2.2.2.name,j10.2.2.2.op,j10.2.2.2.value,j10.2.2.2.fold,j10.2.2.2.anb,j10.2.2.2.of_,j10.2.2.2.list⟩:zA)])):zh×List zA->Option (LO (zh×List zA) (Unit) _)) (x.2,[]) fun o11=>
 none
theorem VS(n:Nat)(zu seltext_parts':List ze×zf×Bool×Bool->Option (List zw×Bool))(h_seltext_parts: ∀z,Le (zu z) (seltext_parts' z))(x:zf×zh):Le (NA n zu x) (qI seltext_parts' x):=by unfold NA qI;exact(.loop (fun _=>(.bind .rfl fun _=>(.join (.bind .rfl fun _=>(.bif .rfl (.bif .rfl (.bif (.bind .rfl fun _=>(.bind (dP n _) fun _=> .rfl)) (.bif (.join (.bif (.bind (bP n _) fun _=> .rfl) (.bif (.bind .rfl fun _=>(.bind (wQ n _ _ h_seltext_parts _) fun _=> .rfl)) .rfl)) fun _=> .rfl) .rfl))))) fun _=>(.bif .rfl (.need .rfl))))) fun _=> .none)
def Jz(n:Nat)(zu:List ze×zf×Bool×Bool->Option (List zw×Bool))(x:List ze×zf×Bool):Option (zw×Bool):=
 zb (Zd n (⟨x.1,0⟩:zh)) fun y1=>
 zW (X:=Int×zh×Int) (
   bif x.2.2 then
    zb (Mr n y1.2) fun y2=>
    bif y2.1==0 then
     some (LX.out (0,y2.2,1))
    else
     some (LX.out (0,y2.2,y2.1))
   else
    some (LX.out (0,y1.2,0))) fun j3=>
 zW (X:=Int×zh×Int) (
   some (LX.out (j3.1,j3.2.1,j3.2.2))) fun j4=>
 ZI n (fun(s5:Int×zh×Int×List zy×List UInt8)=>
   zW (X:=Int×zh×Int×List zy×List UInt8×Str) (
     zb (zH (0,s5.2.1)) fun y6=>
     bif y6.kind==1 then
      zb (Zr n y6.text) fun y7=>
      some (LX.out (s5.1,(⟨s5.2.1.v,w64 (s5.2.1.at_+1)⟩:zh),s5.2.2.1,s5.2.2.2.1,s5.2.2.2.2,y7))
     else
      zb (Zf ([42],s5.2.1)) fun y8=>
      bif y8.1 then
       some (LX.out (s5.1,y8.2,s5.2.2.1,s5.2.2.2.1,s5.2.2.2.2,[42]))
      else
       some (LX.out (s5.1,y8.2,s5.2.2.1,s5.2.2.2.1,s5.2.2.2.2,[]))) fun j9=>
   zb (NA n zu (x.2.1,j9.2.1)) fun y10=>
   zb (zC (!(!y10.1.2)) (Wz n ((⟨j9.2.2.2.2.2,y10.1.1⟩:zy),x.2.1)) (default:Bool)) fun y11=>
   bif bif !y10.1.2 then true else !y11 then
    some (LO.ret ((⟨j9.2.2.1,j9.2.2.2.1,j9.2.2.2.2.1⟩:zw),false))
   else
    need (Zi j9.2.2.2.1.length 1 40)<|
    zb (Zd n y10.2) fun y12=>
    zb (Zj y12.2) fun y13=>
    bif y13 then
     some (LO.out (j9.1,y12.2,j9.2.2.1,j9.2.2.2.1++[(⟨j9.2.2.2.2.2,y10.1.1⟩:zy)],j9.2.2.2.2.1))
    else
     zb (Mr n y12.2) fun y14=>
     zW (X:=Int×Int×Int×List zy×List UInt8) (
       bif bif y14.1==0 then !y12.1 else false then
        some (LX.ret (LO.ret ((⟨j9.2.2.1,j9.2.2.2.1++[(⟨j9.2.2.2.2.2,y10.1.1⟩:zy)],j9.2.2.2.2.1⟩:zw),false)))
       else
        bif y14.1==0 then
         some (LX.out (1,j9.1,j9.2.2.1,j9.2.2.2.1++[(⟨j9.2.2.2.2.2,y10.1.1⟩:zy)],j9.2.2.2.2.1))
        else
         some (LX.out (y14.1,j9.1,j9.2.2.1,j9.2.2.2.1++[(⟨j9.2.2.2.2.2,y10.1.1⟩:zy)],j9.2.2.2.2.1))) fun j15=>
     zb (Jc j15.1) fun y16=>
     need (Zi j15.2.2.2.2.length 1 1)<|
     some (LO.again (j15.2.1,y14.2,j15.2.2.1,j15.2.2.2.1,j15.2.2.2.2++[y16])):Int×zh×Int×List zy×List UInt8->Option (LO (Int×zh×Int×List zy×List UInt8) (Int×zh×Int×List zy×List UInt8) _)) (j4.1,j4.2.1,j4.2.2,[],[]) fun o17=>
 some ((⟨o17.2.2.1,o17.2.2.2.1,o17.2.2.2.2⟩:zw),decide ((o17.2.2.2.1.length:Int)<=64))
theorem mR(n:Nat)(zu seltext_parts':List ze×zf×Bool×Bool->Option (List zw×Bool))(h_seltext_parts: ∀z,Le (zu z) (seltext_parts' z))(x:List ze×zf×Bool):Le (Jz n zu x) (Bn seltext_parts' x):=by unfold Jz Bn;exact(.bind (Zk n _) fun _=>(.join (.bif (.bind (TH n _) fun _=>(.bif .rfl .rfl)) .rfl) fun _=>(.join .rfl fun _=>(.loop (fun _=>(.join (.bind .rfl fun _=>(.bif (.bind (Zw n _) fun _=> .rfl) (.bind .rfl fun _=>(.bif .rfl .rfl)))) fun _=>(.bind (VS n _ _ h_seltext_parts _) fun _=>(.bind (.cond (nG n _)) fun _=>(.bif .rfl (.need (.bind (Zk n _) fun _=>(.bind .rfl fun _=>(.bif .rfl (.bind (TH n _) fun _=>(.join (.bif .rfl (.bif .rfl .rfl)) fun _=>(.bind .rfl fun _=>(.need .rfl))))))))))))) fun _=> .rfl))))
def Ez(n:Nat)(zu:List ze×zf×Bool×Bool->Option (List zw×Bool))(x:List ze×zf×Bool×Bool):Option (List zw×Bool):=
 ZI n (fun(s1:(Int×Int)×List zw)=>
   bif decide (s1.1.2<w64 ((x.1.length:Int)+1))then
    zW (X:=(Int×Int)×List zw) (
      zb (zC (decide (s1.1.2<(x.1.length:Int))) (geti x.1 s1.1.2) (default:ze)) fun y2=>
      bif bif decide (s1.1.2<(x.1.length:Int))then y2.token.kind != 18 else false then
       some (LX.out ((s1.1.1,s1.1.2),s1.2))
      else
       zW (X:=List zw) (
         need (decide (0<=s1.1.1)&&(decide (s1.1.1<=s1.1.2)&&decide (s1.1.2<=(x.1.length:Int))))<|
         zb (Jz n zu (List.drop s1.1.1.toNat (List.take s1.1.2.toNat x.1),x.2.1,x.2.2.1)) fun y3=>
         bif y3.2 then
          need (Zi s1.2.length 1 56)<|
          some (LX.out (s1.2++[(⟨y3.1.lead,y3.1.parts,y3.1.combs⟩:zw)]))
         else
          bif !x.2.2.2 then
           some (LX.ret (LX.ret (LO.ret ([],false))))
          else
           some (LX.out s1.2)) fun j4=>
       some (LX.out ((w64 (s1.1.2+1),s1.1.2),j4))) fun j5=>
    some (LO.again ((j5.1.1,w64 (j5.1.2+1)),j5.2))
   else
    some (LO.out s1.2):(Int×Int)×List zw->Option (LO ((Int×Int)×List zw) (List zw) _)) ((0,0),[]) fun o6=>
 some (o6,true)
def JG(n:Nat):List ze×zf×Bool×Bool->Option (List zw×Bool):=Nc (Ez n) n
theorem EQ(n:Nat)(zu seltext_parts':List ze×zf×Bool×Bool->Option (List zw×Bool))(h_seltext_parts: ∀z,Le (zu z) (seltext_parts' z))(x:List ze×zf×Bool×Bool):Le (Ez n zu x) (Vm seltext_parts' x):=by unfold Ez Vm;exact(.loop (fun _=>(.bif (.join (.bind .rfl fun _=>(.bif .rfl (.join (.need (.bind (mR n _ _ h_seltext_parts _) fun _=>(.bif (.need .rfl) (.bif .rfl .rfl)))) fun _=> .rfl))) fun _=> .rfl) .rfl)) fun _=> .rfl)
theorem WQ(n:Nat)(x:List ze×zf×Bool×Bool):Le (JG n x) (zu x):=Le.rec (fun S S' h x=>EQ n S S' h x) n x
def Fz(n:Nat)(Zl:List zw->Option Int)(x:List zw):Option Int:=
 ZI n (fun(s1:Int×Int)=>
   bif decide (s1.2<(x.length:Int))then
    zb (geti x s1.2) fun y2=>
    ZI n (fun(s3:Int×Int)=>
      bif decide (s3.2<(y2.parts.length:Int))then
       zb (geti y2.parts s3.2) fun y4=>
       ZI n (fun(s5:Int×Int)=>
         bif decide (s5.2<(y4.simples.length:Int))then
          zb (geti y4.simples s5.2) fun y6=>
          zb (Zl y6.list) fun y7=>
          some (LO.again (w64 (s5.1+y7),w64 (s5.2+1)))
         else
          some (LO.out s5.1):Int×Int->Option (LO (Int×Int) (Int) _)) (s3.1,0) fun o8=>
       some (LO.again (o8,w64 (s3.2+1)))
      else
       some (LO.out s3.1):Int×Int->Option (LO (Int×Int) (Int) _)) (s1.1,0) fun o9=>
    some (LO.again (o9,w64 (s1.2+1)))
   else
    some (LO.out s1.1):Int×Int->Option (LO (Int×Int) (Int) _)) ((x.length:Int),0) fun o10=>
 some o10
def ay(n:Nat):List zw->Option Int:=Nc (Fz n) n
theorem FQ(n:Nat)(Zl seltext_count':List zw->Option Int)(h_seltext_count: ∀z,Le (Zl z) (seltext_count' z))(x:List zw):Le (Fz n Zl x) (Wm seltext_count' x):=by unfold Fz Wm;exact(.loop (fun _=>(.bif (.bind .rfl fun _=>(.loop (fun _=>(.bif (.bind .rfl fun _=>(.loop (fun _=>(.bif (.bind .rfl fun _=>(.bind (h_seltext_count _) fun _=> .rfl)) .rfl)) fun _=> .rfl)) .rfl)) fun _=> .rfl)) .rfl)) fun _=> .rfl)
theorem XG(n:Nat)(x:List zw):Le (ay n x) (Zl x):=Le.rec (fun S S' h x=>FQ n S S' h x) n x
def Yw(n:Nat)(x:List ze):Option (List zw×Int):=
 zb (bf n x) fun y1=>
 bif y1 != 0 then
  some ([],y1)
 else
  zb (JG n (x,(⟨0,false⟩:zf),false,false)) fun y2=>
  bif !y2.2 then
   some ([],12)
  else
   zb (ay n y2.1) fun y3=>
   bif decide (y3>64)then
    some ([],4)
   else
    some (y2.1,0)
theorem yN(n:Nat)(x:List ze):Le (Yw n x) (Pk x):=by unfold Yw Pk;exact(.bind (Ph n _) fun _=>(.bif .rfl (.bind (WQ n _) fun _=>(.bif .rfl (.bind (XG n _) fun _=>(.bif .rfl .rfl))))))
def xG(n:Nat)(x:List ze):Option (List ze):=need (Zi 0 x.length 80) (some x)
theorem GR(n:Nat)(x):Le (xG n x) (Er x):=by
 cases x with
 |nil=> intro y hy;show both (some []) (some [])=some y;unfold both;rw[Ma rfl];exact hy
 |cons a r=>exact .rfl
def ow(n:Nat)(qG:List ze->Option (List ze))(x:List ze):Option (List ze):=
 zb (xG n x) fun y1=>
 ZI n (fun(s2:Int×List ze)=>
   bif decide (s2.1<(y1.length:Int))then
    need (decide (0<=s2.1)&&decide (s2.1<(s2.2.length:Int)))<|
    zb s2.2[s2.1.toNat]? fun y3=>
    zb (qG y3.list) fun y4=>
    need (decide (0<=s2.1)&&decide (s2.1<(s2.2.length:Int)))<|
    zb s2.2[s2.1.toNat]? fun y5=>
    some (LO.again (w64 (s2.1+1),List.set s2.2 s2.1.toNat (⟨y5.token,y4⟩:ze)))
   else
    some (LO.out s2.2):Int×List ze->Option (LO (Int×List ze) (List ze) _)) (0,y1) fun o6=>
 some o6
def Iq(n:Nat):List ze->Option (List ze):=Nc (ow n) n
theorem FO(n:Nat)(qG nest_twin':List ze->Option (List ze))(h_nest_twin: ∀z,Le (qG z) (nest_twin' z))(x:List ze):Le (ow n qG x) (ek nest_twin' x):=by unfold ow ek;exact(.bind (GR n _) fun _=>(.loop (fun _=>(.bif (.need (.bind .rfl fun _=>(.bind (h_nest_twin _) fun _=>(.need (.bind .rfl fun _=> .rfl))))) .rfl)) fun _=> .rfl))
theorem Mw(n:Nat)(x:List ze):Le (Iq n x) (qG x):=Le.rec (fun S S' h x=>FO n S S' h x) n x
def ll(n:Nat)(x:List ze×Int):Option (List (List ze)×Int):=
 zb (bf n x.1) fun y1=>
 bif y1 != 0 then
  some ([],y1)
 else
  bif bif decide (x.2<1)then true else decide (x.2>24)then
   some ([],2)
  else
   ZI n (fun(s2:(Int×Int)×List (List ze))=>
     bif decide (s2.1.2<(x.1.length:Int))then
      zW (X:=(Int×Int)×List (List ze)) (
        zb (geti x.1 s2.1.2) fun y3=>
        bif y3.token.kind==x.2 then
         need (decide (0<=s2.1.1)&&(decide (s2.1.1<=s2.1.2)&&(decide (s2.1.2<=s2.1.2)&&decide (s2.1.2<=(x.1.length:Int))))&&decide (s2.1.2=s2.1.2))<|
         zb (Iq n (List.drop s2.1.1.toNat (List.take s2.1.2.toNat x.1))) fun y4=>
         need (Zi s2.2.length 1 24)<|
         some (LX.out ((w64 (s2.1.2+1),s2.1.2),s2.2++[y4]))
        else
         some (LX.out ((s2.1.1,s2.1.2),s2.2))) fun j5=>
      some (LO.again ((j5.1.1,w64 (j5.1.2+1)),j5.2))
     else
      some (LO.out (s2.1.1,s2.2)):(Int×Int)×List (List ze)->Option (LO ((Int×Int)×List (List ze)) (Int×List (List ze)) _)) ((0,0),[]) fun o6=>
   need (decide (0<=o6.1)&&decide (o6.1<=(x.1.length:Int)))<|
   zb (Iq n (List.drop o6.1.toNat x.1)) fun y7=>
   need (Zi o6.2.length 1 24)<|
   some (o6.2++[y7],0)
theorem ww(n:Nat)(x:List ze×Int):Le (ll n x) (Uf x):=by unfold ll Uf;exact(.bind (Ph n _) fun _=>(.bif .rfl (.bif .rfl (.loop (fun _=>(.bif (.join (.bind .rfl fun _=>(.bif (.need (.bind (Mw n _) fun _=>(.need .rfl))) .rfl)) fun _=> .rfl) .rfl)) fun _=>(.need (.bind (Mw n _) fun _=>(.need .rfl)))))))
def Dl(n:Nat)(x:List ze):Option (List ze):=
 ZI n (fun(s1:List ze)=>
   zb (zC (decide ((s1.length:Int)>0)) (geti s1 0) (default:ze)) fun y2=>
   zb (zC (decide ((s1.length:Int)>0)) (qo ((⟨y2.token,y2.list⟩:ze),13)) (default:Bool)) fun y3=>
   bif bif decide ((s1.length:Int)>0)then y3 else false then
    need (decide (1<=(s1.length:Int)))<|
    some (LO.again (List.drop 1 s1))
   else
    some (LO.out s1):List ze->Option (LO (List ze) (List ze) _)) x fun o4=>
 some o4
theorem Ow(n:Nat)(x:List ze):Le (Dl n x) (og x):=by unfold Dl og;exact(.loop (fun _=>(.bind .rfl fun _=>(.bind .rfl fun _=>(.bif (.need .rfl) .rfl)))) fun _=> .rfl)
def Wl(n:Nat)(x:List ze):Option (List ze):=
 ZI n (fun(s1:List ze)=>
   zb (zC (decide ((s1.length:Int)>0)) (geti s1 (w64 ((s1.length:Int) - 1))) (default:ze)) fun y2=>
   zb (zC (decide ((s1.length:Int)>0)) (qo ((⟨y2.token,y2.list⟩:ze),13)) (default:Bool)) fun y3=>
   bif bif decide ((s1.length:Int)>0)then y3 else false then
    need (decide (0<=w64 ((s1.length:Int) - 1))&&decide (w64 ((s1.length:Int) - 1)<=(s1.length:Int)))<|
    some (LO.again (List.take (w64 ((s1.length:Int) - 1)).toNat s1))
   else
    some (LO.out s1):List ze->Option (LO (List ze) (List ze) _)) x fun o4=>
 some o4
theorem yw(n:Nat)(x:List ze):Le (Wl n x) (ug x):=by unfold Wl ug;exact(.loop (fun _=>(.bind .rfl fun _=>(.bind .rfl fun _=>(.bif (.need .rfl) .rfl)))) fun _=> .rfl)
def nk(n:Nat)(x:List ze):Option (List ze×Int):=
 zb (bf n x) fun y1=>
 bif y1 != 0 then
  some ([],y1)
 else
  ZI n (fun(s2:Int)=>
    zb (zC (decide (s2<(x.length:Int))) (Vi (s2,x)) (default:Bool)) fun y3=>
    bif bif decide (s2<(x.length:Int))then y3 else false then
     some (LO.again (w64 (s2+1)))
    else
     some (LO.out s2):Int->Option (LO (Int) (Int) _)) 0 fun o4=>
  ZI n (fun(s5:Int)=>
    zb (zC (decide (o4<s5)) (Vi (w64 (s5 - 1),x)) (default:Bool)) fun y6=>
    bif bif decide (o4<s5)then y6 else false then
     some (LO.again (w64 (s5 - 1)))
    else
     some (LO.out s5):Int->Option (LO (Int) (Int) _)) (x.length:Int) fun o7=>
  need (decide (0<=o4)&&(decide (o4<=o7)&&(decide (o7<=o7)&&decide (o7<=(x.length:Int))))&&decide (o7=o7))<|
  zb (Iq n (List.drop o4.toNat (List.take o7.toNat x))) fun y8=>
  some (y8,0)
theorem Nw(n:Nat)(x:List ze):Le (nk n x) (Pf x):=by unfold nk Pf;exact(.bind (Ph n _) fun _=>(.bif .rfl (.loop (fun _=>(.bind .rfl fun _=>(.bif .rfl .rfl))) fun _=>(.loop (fun _=>(.bind .rfl fun _=>(.bif .rfl .rfl))) fun _=>(.need (.bind (Mw n _) fun _=> .rfl))))))
def Tw(n:Nat)(x:Str):Option Bool:=
 zb (zC (!(bif x==[]then true else decide ((x.length:Int)>64))) (strings_IndexByte (x,0)) (default:Int)) fun y1=>
 bif bif bif x==[]then true else decide ((x.length:Int)>64)then true else decide (y1>=0)then
  some false
 else
  zb (strings_HasPrefix (x,[45,45])) fun y2=>
  bif y2 then
   some (!(x==[45,45]))
  else
   zb (Zr n x) fun y3=>
   some (x==y3)
theorem CO(n:Nat)(x:Str):Le (Tw n x) (Yk x):=by unfold Tw Yk;exact(.bind .rfl fun _=>(.bif .rfl (.bind .rfl fun _=>(.bif .rfl (.bind (Zw n _) fun _=> .rfl)))))
def Pw(n:Nat)(x:List zq):Option Int:=
 zb (geti x 0) fun y1=>
 bif bif y1.kind==9 then y1.text==[92]else false then
  zb (Kg ((1,13),x)) fun y2=>
  bif !y2 then
   some 0
  else
   some 2
 else
  zb (zC (y1.kind==2) (qV n (y1.text,[117,114,108])) (default:Bool)) fun y3=>
  bif bif y1.kind==2 then y3 else false then
   zW (X:=Int) (
     zb (Kg ((1,13),x)) fun y4=>
     bif y4 then
      some (LX.out 2)
     else
      some (LX.out 1)) fun j5=>
   zb (Kg ((j5,5),x)) fun y6=>
   bif !y6 then
    some 0
   else
    some (w64 (j5+1))
  else
   some 1
theorem AO(n:Nat)(x:List zq):Le (Pw n x) (Sk x):=by unfold Pw Sk;exact(.bind .rfl fun _=>(.bif (.bind .rfl fun _=>(.bif .rfl .rfl)) (.bind (.cond (QA n _)) fun _=>(.bif (.join (.bind .rfl fun _=>(.bif .rfl .rfl)) fun _=>(.bind .rfl fun _=>(.bif .rfl .rfl))) .rfl))))
def Sw(n:Nat)(x:List zq):Option Int:=
 bif decide ((x.length:Int)>1500)then
  some 4
 else
  ZI n (fun(s1:Int)=>
    bif decide (s1<(x.length:Int))then
     zb (geti x s1) fun y2=>
     zb (Pp y2) fun y3=>
     need (decide (0<=s1)&&decide (s1<=(x.length:Int))|| !(!(!y3)))<|
     zb (zC (!(!y3)) (Pw n (List.drop s1.toNat x)) (default:Int)) fun y4=>
     bif bif !y3 then true else y4==0 then
      some (LO.ret 8)
     else
      some (LO.again (w64 (s1+1)))
    else
     some (LO.out ()):Int->Option (LO (Int) (Unit) _)) 0 fun o5=>
  some 0
theorem BO(n:Nat)(x:List zq):Le (Sw n x) (Uk x):=by unfold Sw Uk;exact(.bif .rfl (.loop (fun _=>(.bif (.bind .rfl fun _=>(.bind .rfl fun _=>(.need (.bind (.cond (AO n _)) fun _=>(.bif .rfl .rfl))))) .rfl)) fun _=> .rfl))
def ky(n:Nat)(zD:List ze->Option Bool)(x:ze):Option Bool:=
 zb (qo ((⟨x.token,x.list⟩:ze),20)) fun y1=>
 zb (zC (!y1) (qo ((⟨x.token,x.list⟩:ze),22)) (default:Bool)) fun y2=>
 zb (zC (!(bif y1 then true else y2)) (qo ((⟨x.token,x.list⟩:ze),24)) (default:Bool)) fun y3=>
 zb (zC (!(bif bif y1 then true else y2 then true else y3)) (zD x.list) (default:Bool)) fun y4=>
 some (bif bif bif y1 then true else y2 then true else y3 then true else y4)
theorem CQ(n:Nat)(zD decl_closers':List ze->Option Bool)(h_decl_closers: ∀z,Le (zD z) (decl_closers' z))(x:ze):Le (ky n zD x) (Em decl_closers' x):=by unfold ky Em;exact(.bind .rfl fun _=>(.bind .rfl fun _=>(.bind .rfl fun _=>(.bind (.cond (h_decl_closers _)) fun _=> .rfl))))
def QY(n:Nat)(zD:List ze->Option Bool)(x:List ze):Option Int:=
 ZI n (fun(s1:Int)=>
   bif decide (s1<(x.length:Int))then
    zb (geti x s1) fun y2=>
    zb (ky n zD (⟨y2.token,y2.list⟩:ze)) fun y3=>
    bif y3 then
     some (LO.ret s1)
    else
     some (LO.again (w64 (s1+1)))
   else
    some (LO.out ()):Int->Option (LO (Int) (Unit) _)) 0 fun o4=>
 some (-1)
theorem FT(n:Nat)(zD decl_closers':List ze->Option Bool)(h_decl_closers: ∀z,Le (zD z) (decl_closers' z))(x:List ze):Le (QY n zD x) (qi decl_closers' x):=by unfold QY qi;exact(.loop (fun _=>(.bif (.bind .rfl fun _=>(.bind (CQ n _ _ h_decl_closers _) fun _=>(.bif .rfl .rfl))) .rfl)) fun _=> .rfl)
def QL(n:Nat)(zD:List ze->Option Bool)(x:List ze):Option Bool:=
 zb (QY n zD x) fun y1=>
 some (decide (y1>=0))
theorem uT(n:Nat)(zD decl_closers':List ze->Option Bool)(h_decl_closers: ∀z,Le (zD z) (decl_closers' z))(x:List ze):Le (QL n zD x) (ZV decl_closers' x):=by unfold QL ZV;exact(.bind (FT n _ _ h_decl_closers _) fun _=> .rfl)
def jy(n:Nat)(zD:List ze->Option Bool)(x:List ze):Option Bool:=
 zb (QL n zD x) fun y1=>
 some y1
def lF(n:Nat):List ze->Option Bool:=Nc (jy n) n
theorem JQ(n:Nat)(zD decl_closers':List ze->Option Bool)(h_decl_closers: ∀z,Le (zD z) (decl_closers' z))(x:List ze):Le (jy n zD x) (Dm decl_closers' x):=by unfold jy Dm;exact(.bind (uT n _ _ h_decl_closers _) fun _=> .rfl)
theorem eP(n:Nat)(x:List ze):Le (lF n x) (zD x):=Le.rec (fun S S' h x=>JQ n S S' h x) n x
def QZ(n:Nat)(x:List ze):Option Int:=
 ZI n (fun(s1:Int)=>
   bif decide (s1<(x.length:Int))then
    zb (geti x s1) fun y2=>
    zb (Uq (⟨y2.token,y2.list⟩:ze)) fun y3=>
    bif y3 then
     some (LO.ret s1)
    else
     some (LO.again (w64 (s1+1)))
   else
    some (LO.out ()):Int->Option (LO (Int) (Unit) _)) 0 fun o4=>
 some (-1)
theorem DT(n:Nat)(x:List ze):Le (QZ n x) (qj x):=by unfold QZ qj;exact(.loop (fun _=>(.bif (.bind .rfl fun _=>(.bind .rfl fun _=>(.bif .rfl .rfl))) .rfl)) fun _=> .rfl)
def Qr(n:Nat)(x:List ze):Option Bool:=
 zb (QZ n x) fun y1=>
 some (decide (y1>=0))
theorem JU(n:Nat)(x:List ze):Le (Qr n x) (ZF x):=by unfold Qr ZF;exact(.bind (DT n _) fun _=> .rfl)
def Xl(n:Nat)(x:zV):Option Int:=
 zb (Jq n x.value) fun y1=>
 zb (Tw n x.name) fun y2=>
 zb (zC (!(bif !y2 then true else y1.2 != 0)) (Sw n y1.1) (default:Int)) fun y3=>
 zb (zC (!(bif bif !y2 then true else y1.2 != 0 then true else y3 != 0)) (lF n x.value) (default:Bool)) fun y4=>
 bif bif bif bif !y2 then true else y1.2 != 0 then true else y3 != 0 then true else y4 then
  some 8
 else
  zb (Qr n x.value) fun y5=>
  bif y5 then
   some 8
  else
   zb (zC ((x.value.length:Int)==0) (strings_HasPrefix (x.name,[45,45])) (default:Bool)) fun y6=>
   zb (zC (decide ((x.value.length:Int)>0)&& !(bif (x.value.length:Int)==0 then !y6 else false)) (geti x.value 0) (default:ze)) fun y7=>
   zb (zC (decide ((x.value.length:Int)>0)&& !(bif (x.value.length:Int)==0 then !y6 else false)) (qo ((⟨y7.token,y7.list⟩:ze),13)) (default:Bool)) fun y8=>
   zb (zC (!y8&&(decide ((x.value.length:Int)>0)&& !(bif (x.value.length:Int)==0 then !y6 else false))) (geti x.value (w64 ((x.value.length:Int) - 1))) (default:ze)) fun y9=>
   zb (zC (!y8&&(decide ((x.value.length:Int)>0)&& !(bif (x.value.length:Int)==0 then !y6 else false))) (qo ((⟨y9.token,y9.list⟩:ze),13)) (default:Bool)) fun y10=>
   bif bif bif (x.value.length:Int)==0 then !y6 else false then true else bif decide ((x.value.length:Int)>0)then bif y8 then true else y10 else false then
    some 8
   else
    some 0
theorem Dx(n:Nat)(x:zV):Le (Xl n x) (Yf x):=by unfold Xl Yf;exact(.bind (XE n _) fun _=>(.bind (CO n _) fun _=>(.bind (.cond (BO n _)) fun _=>(.bind (.cond (eP n _)) fun _=>(.bif .rfl (.bind (JU n _) fun _=>(.bif .rfl (.bind .rfl fun _=>(.bind .rfl fun _=>(.bind .rfl fun _=>(.bind .rfl fun _=>(.bind .rfl fun _=>(.bif .rfl .rfl)))))))))))))
def Cq(n:Nat)(x:List ze):Option (zV×Bool):=
 zb (Dl n x) fun y1=>
 zb (Wl n y1) fun y2=>
 zb (zC (!((y2.length:Int)==0)) (geti y2 0) (default:ze)) fun y3=>
 zb (zC (!((y2.length:Int)==0)) (qo ((⟨y3.token,y3.list⟩:ze),1)) (default:Bool)) fun y4=>
 bif bif (y2.length:Int)==0 then true else !y4 then
  some ((⟨[],[],false⟩:zV),false)
 else
  zb (geti y2 0) fun y5=>
  zW (X:=List ze×(Str×Bool)×(Str×Bool)) (
    zb (strings_HasPrefix (y5.token.text,[45,45])) fun y6=>
    bif !y6 then
     zb (Zr n y5.token.text) fun y7=>
     some (LX.out (y2,([],false),(y7,false)))
    else
     some (LX.out (y2,([],false),(y5.token.text,false)))) fun j8=>
  need (decide (1<=(j8.1.length:Int)))<|
  zb (Dl n (List.drop 1 j8.1)) fun y9=>
  zb (zC (!((y9.length:Int)==0)) (geti y9 0) (default:ze)) fun y10=>
  zb (zC (!((y9.length:Int)==0)) (qo ((⟨y10.token,y10.list⟩:ze),16)) (default:Bool)) fun y11=>
  bif bif (y9.length:Int)==0 then true else !y11 then
   some ((⟨[],[],false⟩:zV),false)
  else
   need (decide (1<=(y9.length:Int)))<|
   zb (Dl n (List.drop 1 y9)) fun y12=>
   zW (X:=List ze×(Str×Bool)×(Str×Bool)) (
     zb (zC (decide (w64 ((y12.length:Int) - 1)>0)) (geti y12 (w64 ((y12.length:Int) - 1))) (default:ze)) fun y13=>
     zb (zC (decide (w64 ((y12.length:Int) - 1)>0)) (qo ((⟨y13.token,y13.list⟩:ze),1)) (default:Bool)) fun y14=>
     zb (zC (bif decide (w64 ((y12.length:Int) - 1)>0)then y14 else false) (geti y12 (w64 ((y12.length:Int) - 1))) (default:ze)) fun y15=>
     zb (zC (bif decide (w64 ((y12.length:Int) - 1)>0)then y14 else false) (qV n (y15.token.text,[105,109,112,111,114,116,97,110,116])) (default:Bool)) fun y16=>
     bif bif bif decide (w64 ((y12.length:Int) - 1)>0)then y14 else false then y16 else false then
      need (decide (0<=w64 ((y12.length:Int) - 1))&&decide (w64 ((y12.length:Int) - 1)<=(y12.length:Int)))<|
      zb (Wl n (List.take (w64 ((y12.length:Int) - 1)).toNat y12)) fun y17=>
      zb (zC (decide ((y17.length:Int)>0)) (geti y17 (w64 ((y17.length:Int) - 1))) (default:ze)) fun y18=>
      zb (zC (decide ((y17.length:Int)>0)) (Pi (⟨y18.token,y18.list⟩:ze)) (default:Bool)) fun y19=>
      bif bif decide ((y17.length:Int)>0)then y19 else false then
       need (decide (0<=w64 ((y17.length:Int) - 1))&&decide (w64 ((y17.length:Int) - 1)<=(y17.length:Int)))<|
       zb (Wl n (List.take (w64 ((y17.length:Int) - 1)).toNat y17)) fun y20=>
       some (LX.out (y20,(j8.2.1.1,j8.2.1.2),(j8.2.2.1,true)))
      else
       some (LX.out (y12,(j8.2.1.1,j8.2.1.2),(j8.2.2.1,j8.2.2.2)))
     else
      some (LX.out (y12,(j8.2.1.1,j8.2.1.2),(j8.2.2.1,j8.2.2.2)))) fun j21=>
   zb (nk n j21.1) fun y22=>
   zb (zC (!(y22.2 != 0)) (Xl n (⟨j21.2.2.1,y22.1,j21.2.2.2⟩:zV)) (default:Int)) fun y23=>
   bif bif y22.2 != 0 then true else y23 != 0 then
    some ((⟨[],[],false⟩:zV),false)
   else
    some ((⟨j21.2.2.1,y22.1,j21.2.2.2⟩:zV),true)
theorem xD(n:Nat)(x:List ze):Le (Cq n x) (kg x):=by unfold Cq kg;exact(.bind (Ow n _) fun _=>(.bind (yw n _) fun _=>(.bind .rfl fun _=>(.bind .rfl fun _=>(.bif .rfl (.bind .rfl fun _=>(.join (.bind .rfl fun _=>(.bif (.bind (Zw n _) fun _=> .rfl) .rfl)) fun _=>(.need (.bind (Ow n _) fun _=>(.bind .rfl fun _=>(.bind .rfl fun _=>(.bif .rfl (.need (.bind (Ow n _) fun _=>(.join (.bind .rfl fun _=>(.bind .rfl fun _=>(.bind .rfl fun _=>(.bind (.cond (QA n _)) fun _=>(.bif (.need (.bind (yw n _) fun _=>(.bind .rfl fun _=>(.bind .rfl fun _=>(.bif (.need (.bind (yw n _) fun _=> .rfl)) .rfl))))) .rfl))))) fun _=>(.bind (Nw n _) fun _=>(.bind (.cond (Dx n _)) fun _=>(.bif .rfl .rfl))))))))))))))))))
def Jv(n:Nat)(x:List ze):Option (List zV×Int):=
 zb (ll n (x,17)) fun y1=>
 bif y1.2 != 0 then
  some ([],y1.2)
 else
  ZI n (fun(s2:Int×List zV)=>
    bif decide (s2.1<(y1.1.length:Int))then
     zW (X:=Int×List zV) (
       zb (geti y1.1 s2.1) fun y3=>
       zb (Cq n y3) fun y4=>
       bif bif y4.2 then decide ((s2.2.length:Int)<32)else false then
        need (Zi s2.2.length 1 48)<|
        some (LX.out (s2.1,s2.2++[y4.1]))
       else
        some (LX.out (s2.1,s2.2))) fun j5=>
     some (LO.again (w64 (j5.1+1),j5.2))
    else
     some (LO.out s2.2):Int×List zV->Option (LO (Int×List zV) (List zV) _)) (0,[]) fun o6=>
  some (o6,0)
theorem PM(n:Nat)(x:List ze):Le (Jv n x) (Xj x):=by unfold Jv Xj;exact(.bind (ww n _) fun _=>(.bif .rfl (.loop (fun _=>(.bif (.join (.bind .rfl fun _=>(.bind (xD n _) fun _=>(.bif (.need .rfl) .rfl))) fun _=> .rfl) .rfl)) fun _=> .rfl)))
def Ox(n:Nat)(x:List ze×List ze):Option (zL×Bool):=
 zb (Yw n x.1) fun y1=>
 bif y1.2 != 0 then
  some ((⟨0,[],[],(⟨0,[],0,(⟨[],[],false⟩:zV),[]⟩:zt),[],[]⟩:zL),false)
 else
  zb (Jv n x.2) fun y2=>
  some ((⟨1,y1.1,y2.1,(⟨0,[],0,(⟨[],[],false⟩:zV),[]⟩:zt),[],[]⟩:zL),y2.2==0)
theorem PP(n:Nat)(x:List ze×List ze):Le (Ox n x) (Gl x):=by unfold Ox Gl;exact(.bind (yN n _) fun _=>(.bif .rfl (.bind (PM n _) fun _=> .rfl)))
def IA(n:Nat)(x:List Str):Option Int:=
 ZI n (fun(s1:Int)=>
   bif decide (s1<(x.length:Int))then
    need (decide (0<=s1)&&decide (s1<(x.length:Int)))<|
    zb x[s1.toNat]? fun y2=>
    zb (Uh y2) fun y3=>
    bif y3 then
     some (LO.ret s1)
    else
     some (LO.again (w64 (s1+1)))
   else
    some (LO.out ()):Int->Option (LO (Int) (Unit) _)) 0 fun o4=>
 some (-1)
theorem XT(n:Nat)(x:List Str):Le (IA n x) (qz x):=by unfold IA qz;exact(.loop (fun _=>(.bif (.need (.bind .rfl fun _=>(.bind .rfl fun _=>(.bif .rfl .rfl)))) .rfl)) fun _=> .rfl)
def Qx(n:Nat)(x:List Str):Option Bool:=
 zb (IA n x) fun y1=>
 some (decide (y1>=0))
theorem eT(n:Nat)(x:List Str):Le (Qx n x) (ZK x):=by unfold Qx ZK;exact(.bind (XT n _) fun _=> .rfl)
def Px(n:Nat)(x:List Str):Option Bool:=
 zb (zC (bif decide ((x.length:Int)>0)then decide ((x.length:Int)<=16)else false) (Qx n x) (default:Bool)) fun y1=>
 some (bif bif decide ((x.length:Int)>0)then decide ((x.length:Int)<=16)else false then !y1 else false)
theorem XO(n:Nat)(x:List Str):Le (Px n x) (Hl x):=by unfold Px Hl;exact(.bind (.cond (eT n _)) fun _=> .rfl)
def Ww(n:Nat)(x:List ze):Option (List Str×Bool):=
 zb (nk n x) fun y1=>
 bif bif y1.2 != 0 then true else Int.tmod (y1.1.length:Int) 2==0 then
  some ([],false)
 else
  ZI n (fun(s2:Int×List Str)=>
    bif decide (s2.1<(y1.1.length:Int))then
     zW (X:=Int×List Str) (
       zb (geti y1.1 s2.1) fun y3=>
       bif Int.tmod s2.1 2==1 then
        bif bif y3.token.kind != 9 then true else !(y3.token.text==[46])then
         some (LX.ret (LO.ret ([],false)))
        else
         some (LX.out (s2.1,s2.2))
       else
        bif y3.token.kind != 1 then
         some (LX.ret (LO.ret ([],false)))
        else
         need (Zi s2.2.length 1 16)<|
         some (LX.out (s2.1,s2.2++[y3.token.text]))) fun j4=>
     some (LO.again (w64 (j4.1+1),j4.2))
    else
     some (LO.out s2.2):Int×List Str->Option (LO (Int×List Str) (List Str) _)) (0,[]) fun o5=>
  zb (Px n o5) fun y6=>
  some (o5,y6)
theorem xN(n:Nat)(x:List ze):Le (Ww n x) (ak x):=by unfold Ww ak;exact(.bind (Nw n _) fun _=>(.bif .rfl (.loop (fun _=>(.bif (.join (.bind .rfl fun _=>(.bif (.bif .rfl .rfl) (.bif .rfl (.need .rfl)))) fun _=> .rfl) .rfl)) fun _=>(.bind (XO n _) fun _=> .rfl))))
def iq(n:Nat)(x:List ze×Bool):Option (zL×Bool):=
 zb (ll n (x.1,18)) fun y1=>
 bif bif y1.2 != 0 then true else decide ((y1.1.length:Int)>64)then
  some ((⟨0,[],[],(⟨0,[],0,(⟨[],[],false⟩:zV),[]⟩:zt),[],[]⟩:zL),false)
 else
  zW (X:=(Int×Int×Str×Int×Str×Bool)×(Int×Int×Str×Int×Str×Bool)) (
    bif x.2 then
     zb (nk n x.1) fun y2=>
     bif (y2.1.length:Int)==0 then
      some (LX.ret ((⟨4,[],[],(⟨0,[],0,(⟨[],[],false⟩:zV),[]⟩:zt),[],[]⟩:zL),true))
     else
      some (LX.out ((0,0,[],0,[],false),(4,0,[],0,[],false)))
    else
     some (LX.out ((0,0,[],0,[],false),(5,0,[],0,[],false)))) fun j3=>
  ZI n (fun(s4:Int×(Int×Int×Str×Int×Str×Bool)×(Int×Int×Str×Int×Str×Bool)×List (List Str))=>
    bif decide (s4.1<(y1.1.length:Int))then
     zb (geti y1.1 s4.1) fun y5=>
     zb (Ww n y5) fun y6=>
     bif !y6.2 then
      some (LO.ret ((⟨0,[],[],(⟨0,[],0,(⟨[],[],false⟩:zV),[]⟩:zt),[],[]⟩:zL),false))
     else
      need (Zi s4.2.2.2.length 1 24)<|
      some (LO.again (w64 (s4.1+1),(s4.2.1.1,s4.2.1.2.1,s4.2.1.2.2.1,s4.2.1.2.2.2.1,s4.2.1.2.2.2.2.1,s4.2.1.2.2.2.2.2),(s4.2.2.1.1,s4.2.2.1.2.1,s4.2.2.1.2.2.1,s4.2.2.1.2.2.2.1,s4.2.2.1.2.2.2.2.1,s4.2.2.1.2.2.2.2.2),s4.2.2.2++[y6.1]))
    else
     some (LO.out ((s4.2.1.1,s4.2.1.2.1,s4.2.1.2.2.1,s4.2.1.2.2.2.1,s4.2.1.2.2.2.2.1,s4.2.1.2.2.2.2.2),(s4.2.2.1.1,s4.2.2.1.2.1,s4.2.2.1.2.2.1,s4.2.2.1.2.2.2.1,s4.2.2.1.2.2.2.2.1,s4.2.2.1.2.2.2.2.2),s4.2.2.2)):Int×(Int×Int×Str×Int×Str×Bool)×(Int×Int×Str×Int×Str×Bool)×List (List Str)->Option (LO (Int×(Int×Int×Str×Int×Str×Bool)×(Int×Int×Str×Int×Str×Bool)×List (List Str)) ((Int×Int×Str×Int×Str×Bool)×(Int×Int×Str×Int×Str×Bool)×List (List Str)) _)) (0,(j3.1.1,j3.1.2.1,j3.1.2.2.1,j3.1.2.2.2.1,j3.1.2.2.2.2.1,j3.1.2.2.2.2.2),(j3.2.1,j3.2.2.1,j3.2.2.2.1,j3.2.2.2.2.1,j3.2.2.2.2.2.1,j3.2.2.2.2.2.2),[]) fun o7=>
  some ((⟨o7.2.1.1,[],[],(⟨o7.2.1.2.1,o7.2.1.2.2.1,o7.2.1.2.2.2.1,(⟨o7.2.1.2.2.2.2.1,[],o7.2.1.2.2.2.2.2⟩:zV),[]⟩:zt),o7.2.2,[]⟩:zL),bif !x.2 then true else(o7.2.2.length:Int)==1)
theorem gF(n:Nat)(x:List ze×Bool):Le (iq n x) (Dh x):=by unfold iq Dh;exact(.bind (ww n _) fun _=>(.bif .rfl (.join (.bif (.bind (Nw n _) fun _=>(.bif .rfl .rfl)) .rfl) fun _=>(.loop (fun _=>(.bif (.bind .rfl fun _=>(.bind (xN n _) fun _=>(.bif .rfl (.need .rfl)))) .rfl)) fun _=> .rfl))))
def zK(n:Nat)(x:zm):Option (Bool×zm):=
 ZI n (fun(s1:zm)=>
   zb (zN s1) fun y2=>
   bif y2==13 then
    zb (zO s1) fun y3=>
    some (LO.again y3.2)
   else
    some (LO.out s1):zm->Option (LO (zm) (zm) _)) x fun o4=>
 some (decide ((o4.v.length:Int)<(x.v.length:Int)),o4)
theorem zM(n:Nat)(x:zm):Le (zK n x) (zJ x):=by unfold zK zJ;exact(.loop (fun _=>(.bind .rfl fun _=>(.bif (.bind .rfl fun _=> .rfl) .rfl))) fun _=> .rfl)
def qw(n:Nat)(x:List Str×zm):Option (Str×zm):=
 ZI n (fun(s1:Int×zm)=>
   bif decide (s1.1<(x.1.length:Int))then
    zb (geti x.1 s1.1) fun y2=>
    zb (zN s1.2) fun y3=>
    zb (zC (y3==1) (geti s1.2.v 0) (default:ze)) fun y4=>
    zb (zC (y3==1) (qV n (y4.token.text,y2)) (default:Bool)) fun y5=>
    bif bif y3==1 then y5 else false then
     zb (zO s1.2) fun y6=>
     some (LO.ret (y2,y6.2))
    else
     some (LO.again (w64 (s1.1+1),s1.2))
   else
    some (LO.out s1.2):Int×zm->Option (LO (Int×zm) (zm) _)) (0,x.2) fun o7=>
 some ([],o7)
theorem QH(n:Nat)(x:List Str×zm):Le (qw n x) (Zt x):=by unfold qw Zt;exact(.loop (fun _=>(.bif (.bind .rfl fun _=>(.bind .rfl fun _=>(.bind .rfl fun _=>(.bind (.cond (QA n _)) fun _=>(.bif (.bind .rfl fun _=> .rfl) .rfl))))) .rfl)) fun _=> .rfl)
def LA(n:Nat)(x:List Str×Str):Option Bool:=
 zb (Qe n (x.1,x.2)) fun y1=>
 some (decide (y1>=0))
theorem TS(n:Nat)(x:List Str×Str):Le (LA n x) (slices_Contains_string x):=by unfold LA slices_Contains_string;exact(.bind (kz n _) fun _=> .rfl)
def Yq(n:Nat)(x:Str):Option Bool:=
 zb (LA n ([[],[97,110,100],[111,114],[110,111,116],[111,110,108,121]],x)) fun y1=>
 zb (zC (bif !y1 then decide ((x.length:Int)<=64)else false) (Zr n x) (default:Str)) fun y2=>
 zb (zC (bif bif !y1 then decide ((x.length:Int)<=64)else false then y2==x else false) (strings_IndexByte (x,0)) (default:Int)) fun y3=>
 some (bif bif bif !y1 then decide ((x.length:Int)<=64)else false then y2==x else false then decide (y3<0)else false)
theorem kF(n:Nat)(x:Str):Le (Yq n x) (Fh x):=by unfold Yq Fh;exact(.bind (TS n _) fun _=>(.bind (.cond (Zw n _)) fun _=>(.bind .rfl fun _=> .rfl)))
def Fx(n:Nat)(x:List Int):Option Int:=
 ZI n (fun(s1:Int)=>
   bif decide (s1<(x.length:Int))then
    zb (geti x s1) fun y2=>
    bif bif decide (y2<(-1000000000000))then true else decide (y2>1000000000000)then
     some (LO.ret 8)
    else
     some (LO.again (w64 (s1+1)))
   else
    some (LO.out ()):Int->Option (LO (Int) (Unit) _)) 0 fun o3=>
 some 0
theorem fO(n:Nat)(x:List Int):Le (Fx n x) (Al x):=by unfold Fx Al;exact(.loop (fun _=>(.bif (.bind .rfl fun _=>(.bif .rfl .rfl)) .rfl)) fun _=> .rfl)
def Xq(n:Nat)(x:Int):Option Int:=
 zb (Fx n [x]) fun y1=>
 some y1
theorem jF(n:Nat)(x:Int):Le (Xq n x) (Eh x):=by unfold Xq Eh;exact(.bind (fO n _) fun _=> .rfl)
def Q6(n:Nat)(x:zm):Option ((zt×Bool)×zm):=
 zb (zN x) fun y1=>
 bif y1 != 21 then
  some (((⟨0,[],0,(⟨[],[],false⟩:zV),[]⟩:zt),false),x)
 else
  zb (zO x) fun y2=>
  zb (zK n (⟨y2.1.list⟩:zm)) fun y3=>
  zW (X:=(Int×Str×Int×Str×Bool)×zm×(Int×Str×Int×Str×Bool)) (
    zb (qw n ([[109,105,110,45,119,105,100,116,104],[109,97,120,45,119,105,100,116,104]],y3.2)) fun y4=>
    bif y4.1==[]then
     some (LX.ret (((⟨5,[],0,(⟨[],[],false⟩:zV),[]⟩:zt),false),y2.2))
    else
     bif y4.1==[109,97,120,45,119,105,100,116,104]then
      some (LX.out ((0,[],0,[],false),y4.2,(6,[],0,[],false)))
     else
      some (LX.out ((0,[],0,[],false),y4.2,(5,[],0,[],false)))) fun j5=>
  zb (zK n j5.2.1) fun y6=>
  zb (zN y6.2) fun y7=>
  bif y7 != 16 then
   some (((⟨j5.2.2.1,j5.2.2.2.1,j5.2.2.2.2.1,(⟨j5.2.2.2.2.2.1,[],j5.2.2.2.2.2.2⟩:zV),[]⟩:zt),false),y2.2)
  else
   zb (zO y6.2) fun y8=>
   zb (zK n y8.2) fun y9=>
   zb (zN y9.2) fun y10=>
   zb (zC (y10 != 12) (zN y9.2) (default:Int)) fun y11=>
   bif bif y10 != 12 then y11 != 10 else false then
    some (((⟨j5.2.2.1,j5.2.2.2.1,j5.2.2.2.2.1,(⟨j5.2.2.2.2.2.1,[],j5.2.2.2.2.2.2⟩:zV),[]⟩:zt),false),y2.2)
   else
    zb (zO y9.2) fun y12=>
    zb (zK n y12.2) fun y13=>
    zb (zC (y12.1.token.kind==12) (qV n (y12.1.token.unit,[112,120])) (default:Bool)) fun y14=>
    zb (zC (bif bif bif y12.1.token.kind==12 then y14 else false then true else bif y12.1.token.kind==10 then y12.1.token.num==0 else false then decide (y12.1.token.num>=0)else false) (Xq n y12.1.token.num) (default:Int)) fun y15=>
    some (((⟨j5.2.2.1,j5.2.2.2.1,y12.1.token.num,(⟨j5.2.2.2.2.2.1,[],j5.2.2.2.2.2.2⟩:zV),[]⟩:zt),bif bif bif bif bif y12.1.token.kind==12 then y14 else false then true else bif y12.1.token.kind==10 then y12.1.token.num==0 else false then decide (y12.1.token.num>=0)else false then y15==0 else false then(y13.2.v.length:Int)==0 else false),y2.2)
theorem UH(n:Nat)(x:zm):Le (Q6 n x) (qL x):=by unfold Q6 qL;exact(.bind .rfl fun _=>(.bif .rfl (.bind .rfl fun _=>(.bind (zM n _) fun _=>(.join (.bind (QH n _) fun _=>(.bif .rfl (.bif .rfl .rfl))) fun _=>(.bind (zM n _) fun _=>(.bind .rfl fun _=>(.bif .rfl (.bind .rfl fun _=>(.bind (zM n _) fun _=>(.bind .rfl fun _=>(.bind .rfl fun _=>(.bif .rfl (.bind .rfl fun _=>(.bind (zM n _) fun _=>(.bind (.cond (QA n _)) fun _=>(.bind (.cond (jF n _)) fun _=> .rfl)))))))))))))))))
def Pz(n:Nat)(x:zm):Option ((zt×Bool)×zm):=
 zb (zK n x) fun y1=>
 zb (qw n ([[110,111,116],[111,110,108,121]],y1.2)) fun y2=>
 zb (zK n y2.2) fun y3=>
 zW (X:=zm×(Int×Str×Int×Str×Bool)×(Int×Str×Int×Str×Bool)×List zt) (
   zb (zN y3.2) fun y4=>
   bif y4==1 then
    zb (zO y3.2) fun y5=>
    zb (Zr n y5.1.token.text) fun y6=>
    zb (Yq n y6) fun y7=>
    bif !y7 then
     some (LX.ret (((⟨1,[],0,(⟨[],[],false⟩:zV),[]⟩:zt),false),y5.2))
    else
     need (Zi 0 1 104)<|
     some (LX.out (y5.2,(0,[],0,[],false),(1,[],0,[],false),[(⟨4,y6,0,(⟨[],[],false⟩:zV),[]⟩:zt)]))
   else
    zb (Q6 n y3.2) fun y8=>
    bif bif !y8.1.2 then true else !(y2.1==[])then
     some (LX.ret (((⟨1,[],0,(⟨[],[],false⟩:zV),[]⟩:zt),false),y8.2))
    else
     need (Zi 0 1 104)<|
     some (LX.out (y8.2,(0,[],0,[],false),(1,[],0,[],false),[(⟨y8.1.1.kind,y8.1.1.name,y8.1.1.num,y8.1.1.decl,y8.1.1.list⟩:zt)]))) fun j9=>
 zb (zK n j9.1) fun y10=>
 ZI n (fun(s11:zm×(Int×Str×Int×Str×Bool)×(Int×Str×Int×Str×Bool)×List zt)=>
   bif decide ((s11.1.v.length:Int)>0)then
    zb (qw n ([[97,110,100]],s11.1)) fun y12=>
    bif y12.1==[]then
     some (LO.ret (((⟨s11.2.2.1.1,s11.2.2.1.2.1,s11.2.2.1.2.2.1,(⟨s11.2.2.1.2.2.2.1,[],s11.2.2.1.2.2.2.2⟩:zV),s11.2.2.2⟩:zt),false),y12.2))
    else
     zb (zK n y12.2) fun y13=>
     zb (Q6 n y13.2) fun y14=>
     bif !y14.1.2 then
      some (LO.ret (((⟨s11.2.2.1.1,s11.2.2.1.2.1,s11.2.2.1.2.2.1,(⟨s11.2.2.1.2.2.2.1,[],s11.2.2.1.2.2.2.2⟩:zV),s11.2.2.2⟩:zt),false),y14.2))
     else
      need (Zi s11.2.2.2.length 1 104)<|
      zb (zK n y14.2) fun y15=>
      some (LO.again (y15.2,(s11.2.1.1,s11.2.1.2.1,s11.2.1.2.2.1,s11.2.1.2.2.2.1,s11.2.1.2.2.2.2),(s11.2.2.1.1,s11.2.2.1.2.1,s11.2.2.1.2.2.1,s11.2.2.1.2.2.2.1,s11.2.2.1.2.2.2.2),s11.2.2.2++[(⟨y14.1.1.kind,y14.1.1.name,y14.1.1.num,y14.1.1.decl,y14.1.1.list⟩:zt)]))
   else
    some (LO.out (s11.1,(s11.2.1.1,s11.2.1.2.1,s11.2.1.2.2.1,s11.2.1.2.2.2.1,s11.2.1.2.2.2.2),(s11.2.2.1.1,s11.2.2.1.2.1,s11.2.2.1.2.2.1,s11.2.2.1.2.2.2.1,s11.2.2.1.2.2.2.2),s11.2.2.2)):zm×(Int×Str×Int×Str×Bool)×(Int×Str×Int×Str×Bool)×List zt->Option (LO (zm×(Int×Str×Int×Str×Bool)×(Int×Str×Int×Str×Bool)×List zt) (zm×(Int×Str×Int×Str×Bool)×(Int×Str×Int×Str×Bool)×List zt) _)) (y10.2,(j9.2.1.1,j9.2.1.2.1,j9.2.1.2.2.1,j9.2.1.2.2.2.1,j9.2.1.2.2.2.2),(j9.2.2.1.1,j9.2.2.1.2.1,j9.2.2.1.2.2.1,j9.2.2.1.2.2.2.1,j9.2.2.1.2.2.2.2),j9.2.2.2) fun o16=>
 zW (X:=(Int×Str×Int×Str×Bool)×(Int×Str×Int×Str×Bool×List zt)) (
   bif y2.1==[110,111,116]then
    some (LX.out ((o16.2.1.1,o16.2.1.2.1,o16.2.1.2.2.1,o16.2.1.2.2.2.1,o16.2.1.2.2.2.2),(3,[],0,[],false,[(⟨o16.2.2.1.1,o16.2.2.1.2.1,o16.2.2.1.2.2.1,(⟨o16.2.2.1.2.2.2.1,[],o16.2.2.1.2.2.2.2⟩:zV),o16.2.2.2⟩:zt)])))
   else
    some (LX.out ((o16.2.1.1,o16.2.1.2.1,o16.2.1.2.2.1,o16.2.1.2.2.2.1,o16.2.1.2.2.2.2),(o16.2.2.1.1,o16.2.2.1.2.1,o16.2.2.1.2.2.1,o16.2.2.1.2.2.2.1,o16.2.2.1.2.2.2.2,o16.2.2.2)))) fun j17=>
 some (((⟨j17.2.1,j17.2.2.1,j17.2.2.2.1,(⟨j17.2.2.2.2.1,[],j17.2.2.2.2.2.1⟩:zV),j17.2.2.2.2.2.2⟩:zt),true),o16.1)
theorem IR(n:Nat)(x:zm):Le (Pz n x) (dm x):=by unfold Pz dm;exact(.bind (zM n _) fun _=>(.bind (QH n _) fun _=>(.bind (zM n _) fun _=>(.join (.bind .rfl fun _=>(.bif (.bind .rfl fun _=>(.bind (Zw n _) fun _=>(.bind (kF n _) fun _=>(.bif .rfl (.need .rfl))))) (.bind (UH n _) fun _=>(.bif .rfl (.need .rfl))))) fun _=>(.bind (zM n _) fun _=>(.loop (fun _=>(.bif (.bind (QH n _) fun _=>(.bif .rfl (.bind (zM n _) fun _=>(.bind (UH n _) fun _=>(.bif .rfl (.need (.bind (zM n _) fun _=> .rfl))))))) .rfl)) fun _=>(.join (.bif .rfl .rfl) fun _=> .rfl)))))))
def Wq(n:Nat)(x:List ze):Option (zt×Int):=
 zb (ll n (x,18)) fun y1=>
 bif y1.2 != 0 then
  some ((⟨0,[],0,(⟨[],[],false⟩:zV),[]⟩:zt),y1.2)
 else
  zW (X:=Int×Str×Int×Str×Bool) (
    bif (y1.1.length:Int)==1 then
     zb (zK n (⟨x⟩:zm)) fun y2=>
     bif (y2.2.v.length:Int)==0 then
      some (LX.ret ((⟨1,[],0,(⟨[],[],false⟩:zV),[]⟩:zt),0))
     else
      some (LX.out (0,[],0,[],false))
    else
     some (LX.out (0,[],0,[],false))) fun j3=>
  bif decide ((y1.1.length:Int)>64)then
   some ((⟨0,[],0,(⟨[],[],false⟩:zV),[]⟩:zt),4)
  else
   ZI n (fun(s4:Int×(Int×Str×Int×Str×Bool)×List zt)=>
     bif decide (s4.1<(y1.1.length:Int))then
      zb (geti y1.1 s4.1) fun y5=>
      zb (Pz n (⟨y5⟩:zm)) fun y6=>
      zW (X:=(Int×Str×Int×Str×Bool)×List zt×zt) (
        bif !y6.1.2 then
         some (LX.out ((s4.2.1.1,s4.2.1.2.1,s4.2.1.2.2.1,s4.2.1.2.2.2.1,s4.2.1.2.2.2.2),s4.2.2,(⟨3,[],0,(⟨[],[],false⟩:zV),[(⟨1,[],0,(⟨[],[],false⟩:zV),[(⟨4,[97,108,108],0,(⟨[],[],false⟩:zV),[]⟩:zt)]⟩:zt)]⟩:zt)))
        else
         some (LX.out ((s4.2.1.1,s4.2.1.2.1,s4.2.1.2.2.1,s4.2.1.2.2.2.1,s4.2.1.2.2.2.2),s4.2.2,(⟨y6.1.1.kind,y6.1.1.name,y6.1.1.num,y6.1.1.decl,y6.1.1.list⟩:zt)))) fun j7=>
      need (Zi j7.2.1.length 1 104)<|
      some (LO.again (w64 (s4.1+1),(j7.1.1,j7.1.2.1,j7.1.2.2.1,j7.1.2.2.2.1,j7.1.2.2.2.2),j7.2.1++[(⟨j7.2.2.kind,j7.2.2.name,j7.2.2.num,j7.2.2.decl,j7.2.2.list⟩:zt)]))
     else
      some (LO.out ((s4.2.1.1,s4.2.1.2.1,s4.2.1.2.2.1,s4.2.1.2.2.2.1,s4.2.1.2.2.2.2),s4.2.2)):Int×(Int×Str×Int×Str×Bool)×List zt->Option (LO (Int×(Int×Str×Int×Str×Bool)×List zt) ((Int×Str×Int×Str×Bool)×List zt) _)) (0,(2,[],0,[],false),[]) fun o8=>
   some ((⟨o8.1.1,o8.1.2.1,o8.1.2.2.1,(⟨o8.1.2.2.2.1,[],o8.1.2.2.2.2⟩:zV),o8.2⟩:zt),0)
theorem mE(n:Nat)(x:List ze):Le (Wq n x) (xg x):=by unfold Wq xg;exact(.bind (ww n _) fun _=>(.bif .rfl (.join (.bif (.bind (zM n _) fun _=>(.bif .rfl .rfl)) .rfl) fun _=>(.bif .rfl (.loop (fun _=>(.bif (.bind .rfl fun _=>(.bind (IR n _) fun _=>(.join (.bif .rfl .rfl) fun _=>(.need .rfl)))) .rfl)) fun _=> .rfl)))))
def Xv(n:Nat)(x:List ze):Option (zV×Bool×Int):=
 zb (bf n x) fun y1=>
 bif y1 != 0 then
  some ((⟨[],[],false⟩:zV),false,y1)
 else
  zb (Cq n x) fun y2=>
  some (y2.1,y2.2,0)
theorem MN(n:Nat)(x:List ze):Le (Xv n x) (sj x):=by unfold Xv sj;exact(.bind (Ph n _) fun _=>(.bif .rfl (.bind (xD n _) fun _=> .rfl)))
def Q7(n:Nat)(zG:zm->Option ((zt×Bool)×zm))(x:zm):Option ((zt×Bool)×zm):=
 zb (zN x) fun y1=>
 bif y1==2 then
  zb (zO x) fun y2=>
  some (((⟨8,[],0,(⟨[],[],false⟩:zV),[]⟩:zt),true),y2.2)
 else
  bif y1==21 then
   zb (zO x) fun y3=>
   zb (Xv n y3.1.list) fun y4=>
   bif bif y4.2.2==0 then y4.2.1 else false then
    some (((⟨7,[],0,y4.1,[]⟩:zt),true),y3.2)
   else
    zb (zG (⟨y3.1.list⟩:zm)) fun y5=>
    bif y5.1.2 then
     some (((⟨y5.1.1.kind,y5.1.1.name,y5.1.1.num,y5.1.1.decl,y5.1.1.list⟩:zt),true),y3.2)
    else
     some (((⟨8,[],0,(⟨[],[],false⟩:zV),[]⟩:zt),true),y3.2)
  else
   some (((⟨8,[],0,(⟨[],[],false⟩:zV),[]⟩:zt),false),x)
theorem Oz(n:Nat)(zG cond_reader_told':zm->Option ((zt×Bool)×zm))(h_cond_reader_told: ∀z,Le (zG z) (cond_reader_told' z))(x:zm):Le (Q7 n zG x) (Qo cond_reader_told' x):=by unfold Q7 Qo;exact(.bind .rfl fun _=>(.bif (.bind .rfl fun _=> .rfl) (.bif (.bind .rfl fun _=>(.bind (MN n _) fun _=>(.bif .rfl (.bind (h_cond_reader_told _) fun _=>(.bif .rfl .rfl))))) .rfl)))
def yz(n:Nat)(zG:zm->Option ((zt×Bool)×zm))(x:zm):Option ((zt×Bool)×zm):=
 zb (zK n x) fun y1=>
 zb (qw n ([[110,111,116]],y1.2)) fun y2=>
 bif !(y2.1==[])then
  zb (zK n y2.2) fun y3=>
  zb (Q7 n zG y3.2) fun y4=>
  zb (zK n y4.2) fun y5=>
  some (((⟨3,[],0,(⟨[],[],false⟩:zV),[(⟨y4.1.1.kind,y4.1.1.name,y4.1.1.num,y4.1.1.decl,y4.1.1.list⟩:zt)]⟩:zt),bif bif y4.1.2 then y3.1 else false then(y5.2.v.length:Int)==0 else false),y5.2)
 else
  zb (Q7 n zG y2.2) fun y6=>
  bif !y6.1.2 then
   some (((⟨y6.1.1.kind,y6.1.1.name,y6.1.1.num,y6.1.1.decl,y6.1.1.list⟩:zt),false),y6.2)
  else
   zb (zK n y6.2) fun y7=>
   bif (y7.2.v.length:Int)==0 then
    some (((⟨y6.1.1.kind,y6.1.1.name,y6.1.1.num,y6.1.1.decl,y6.1.1.list⟩:zt),true),y7.2)
   else
    ZI n (fun(s8:Bool×zm×(Int×Str×Int×Str×Bool)×(Int×Str×Int×Str×Bool)×List zt)=>
      bif decide ((s8.2.1.v.length:Int)>0)then
       zb (qw n ([[97,110,100],[111,114]],s8.2.1)) fun y9=>
       bif bif bif (bif y9.1==[97,110,100]then 1 else bif y9.1==[111,114]then 2 else(0:Int))==0 then true else !s8.1 then true else bif s8.2.2.2.1.1 != 0 then s8.2.2.2.1.1 != (bif y9.1==[97,110,100]then 1 else bif y9.1==[111,114]then 2 else(0:Int))else false then
        some (LO.ret (((⟨s8.2.2.2.1.1,s8.2.2.2.1.2.1,s8.2.2.2.1.2.2.1,(⟨s8.2.2.2.1.2.2.2.1,[],s8.2.2.2.1.2.2.2.2⟩:zV),s8.2.2.2.2⟩:zt),false),y9.2))
       else
        zb (zK n y9.2) fun y10=>
        zb (Q7 n zG y10.2) fun y11=>
        bif bif !y10.1 then true else !y11.1.2 then
         some (LO.ret (((⟨bif y9.1==[97,110,100]then 1 else bif y9.1==[111,114]then 2 else(0:Int),s8.2.2.2.1.2.1,s8.2.2.2.1.2.2.1,(⟨s8.2.2.2.1.2.2.2.1,[],s8.2.2.2.1.2.2.2.2⟩:zV),s8.2.2.2.2⟩:zt),false),y11.2))
        else
         need (Zi s8.2.2.2.2.length 1 104)<|
         zb (zK n y11.2) fun y12=>
         some (LO.again (y12.1,y12.2,(s8.2.2.1.1,s8.2.2.1.2.1,s8.2.2.1.2.2.1,s8.2.2.1.2.2.2.1,s8.2.2.1.2.2.2.2),(bif y9.1==[97,110,100]then 1 else bif y9.1==[111,114]then 2 else(0:Int),s8.2.2.2.1.2.1,s8.2.2.2.1.2.2.1,s8.2.2.2.1.2.2.2.1,s8.2.2.2.1.2.2.2.2),s8.2.2.2.2++[(⟨y11.1.1.kind,y11.1.1.name,y11.1.1.num,y11.1.1.decl,y11.1.1.list⟩:zt)]))
      else
       some (LO.out (s8.2.1,(s8.2.2.1.1,s8.2.2.1.2.1,s8.2.2.1.2.2.1,s8.2.2.1.2.2.2.1,s8.2.2.1.2.2.2.2),(s8.2.2.2.1.1,s8.2.2.2.1.2.1,s8.2.2.2.1.2.2.1,s8.2.2.2.1.2.2.2.1,s8.2.2.2.1.2.2.2.2),s8.2.2.2.2)):Bool×zm×(Int×Str×Int×Str×Bool)×(Int×Str×Int×Str×Bool)×List zt->Option (LO (Bool×zm×(Int×Str×Int×Str×Bool)×(Int×Str×Int×Str×Bool)×List zt) (zm×(Int×Str×Int×Str×Bool)×(Int×Str×Int×Str×Bool)×List zt) _)) (y7.1,y7.2,(0,[],0,[],false),(0,[],0,[],false),[(⟨y6.1.1.kind,y6.1.1.name,y6.1.1.num,y6.1.1.decl,y6.1.1.list⟩:zt)]) fun o13=>
    some (((⟨o13.2.2.1.1,o13.2.2.1.2.1,o13.2.2.1.2.2.1,(⟨o13.2.2.1.2.2.2.1,[],o13.2.2.1.2.2.2.2⟩:zV),o13.2.2.2⟩:zt),true),o13.1)
def wG(n:Nat):zm->Option ((zt×Bool)×zm):=Nc (yz n) n
theorem MR(n:Nat)(zG cond_reader_told':zm->Option ((zt×Bool)×zm))(h_cond_reader_told: ∀z,Le (zG z) (cond_reader_told' z))(x:zm):Le (yz n zG x) (Q8 cond_reader_told' x):=by unfold yz Q8;exact(.bind (zM n _) fun _=>(.bind (QH n _) fun _=>(.bif (.bind (zM n _) fun _=>(.bind (Oz n _ _ h_cond_reader_told _) fun _=>(.bind (zM n _) fun _=> .rfl))) (.bind (Oz n _ _ h_cond_reader_told _) fun _=>(.bif .rfl (.bind (zM n _) fun _=>(.bif .rfl (.loop (fun _=>(.bif (.bind (QH n _) fun _=>(.bif .rfl (.bind (zM n _) fun _=>(.bind (Oz n _ _ h_cond_reader_told _) fun _=>(.bif .rfl (.need (.bind (zM n _) fun _=> .rfl))))))) .rfl)) fun _=> .rfl))))))))
theorem yQ(n:Nat)(x:zm):Le (wG n x) (zG x):=Le.rec (fun S S' h x=>MR n S S' h x) n x
def ol(n:Nat)(x:List ze):Option (Int×Int):=
 zb (bf n x) fun y1=>
 bif y1 != 0 then
  some (0,y1)
 else
  zb (vv n (x,0)) fun y2=>
  some (y2.depth,0)
theorem xw(n:Nat)(x:List ze):Le (ol n x) (Vf x):=by unfold ol Vf;exact(.bind (Ph n _) fun _=>(.bif .rfl (.bind (WE n _) fun _=> .rfl)))
def Ky(n:Nat)(QF:zt×Int->Option ((Int×Bool)×Int))(x:zt×Int):Option ((Int×Bool)×Int):=
 bif decide (w64 (x.2+1)>1500)then
  some ((0,false),w64 (x.2+1))
 else
  bif x.1.kind==7 then
   zb (ol n x.1.decl.value) fun y1=>
   zb (zC (bif bif bif (x.1.list.length:Int)==0 then x.1.name==[]else false then x.1.num==0 else false then y1.2==0 else false) (Xl n x.1.decl) (default:Int)) fun y2=>
   some ((w64 (y1.1+1),bif bif bif bif (x.1.list.length:Int)==0 then x.1.name==[]else false then x.1.num==0 else false then y1.2==0 else false then y2==0 else false),w64 (x.2+1))
  else
   bif x.1.kind==8 then
    zb (zC ((x.1.list.length:Int)==0) (qW (⟨x.1.kind,x.1.name,x.1.num,x.1.decl,x.1.list⟩:zt)) (default:Bool)) fun y3=>
    some ((1,bif (x.1.list.length:Int)==0 then y3 else false),w64 (x.2+1))
   else
    zW (X:=Bool) (
      bif x.1.kind==3 then
       some (LX.out (x.1.kind==3))
      else
       bif x.1.kind==1 then
        some (LX.out (x.1.kind==1))
       else
        some (LX.out (x.1.kind==2))) fun j4=>
    bif j4 then
     zb (qW (⟨x.1.kind,x.1.name,x.1.num,x.1.decl,x.1.list⟩:zt)) fun y5=>
     bif bif bif !y5 then true else bif x.1.kind==3 then(x.1.list.length:Int) != 1 else false then true else bif x.1.kind != 3 then decide ((x.1.list.length:Int)<2)else false then
      some ((0,false),w64 (x.2+1))
     else
      ZI n (fun(s6:(Int×Int)×Int)=>
        bif decide (s6.1.2<(x.1.list.length:Int))then
         zb (geti x.1.list s6.1.2) fun y7=>
         zb (QF ((⟨y7.kind,y7.name,y7.num,y7.decl,y7.list⟩:zt),s6.2)) fun y8=>
         bif !y8.1.2 then
          some (LO.ret ((0,false),y8.2))
         else
          zW (X:=Int×Int) (
            zb (Rp (⟨y7.kind,y7.name,y7.num,y7.decl,y7.list⟩:zt)) fun y9=>
            bif !y9 then
             some (LX.out (s6.1.1,w64 (y8.1.1+1)))
            else
             some (LX.out (s6.1.1,y8.1.1))) fun j10=>
          some (LO.again ((if j10.2>j10.1 then j10.2 else j10.1,w64 (s6.1.2+1)),y8.2))
        else
         some (LO.out (s6.1.1,s6.2)):(Int×Int)×Int->Option (LO ((Int×Int)×Int) (Int×Int) _)) ((0,0),w64 (x.2+1)) fun o11=>
      some ((o11.1,true),o11.2)
    else
     some ((0,false),w64 (x.2+1))
def mD(n:Nat):zt×Int->Option ((Int×Bool)×Int):=Nc (Ky n) n
theorem KO(n:Nat)(QF cond_look':zt×Int->Option ((Int×Bool)×Int))(h_cond_look: ∀z,Le (QF z) (cond_look' z))(x:zt×Int):Le (Ky n QF x) (Sl cond_look' x):=by unfold Ky Sl;exact(.bif .rfl (.bif (.bind (xw n _) fun _=>(.bind (.cond (Dx n _)) fun _=> .rfl)) (.bif (.bind .rfl fun _=> .rfl) (.join (.bif .rfl (.bif .rfl .rfl)) fun _=>(.bif (.bind .rfl fun _=>(.bif .rfl (.loop (fun _=>(.bif (.bind .rfl fun _=>(.bind (h_cond_look _) fun _=>(.bif .rfl (.join (.bind .rfl fun _=>(.bif .rfl .rfl)) fun _=> .rfl)))) .rfl)) fun _=> .rfl))) .rfl)))))
theorem oN(n:Nat)(x:zt×Int):Le (mD n x) (QF x):=Le.rec (fun S S' h x=>KO n S S' h x) n x
def Kr(n:Nat)(x:zt):Option Int:=
 zb (mD n ((⟨x.kind,x.name,x.num,x.decl,x.list⟩:zt),0)) fun y1=>
 bif bif !y1.1.2 then true else decide (y1.1.1>16)then
  some 8
 else
  some 0
theorem YH(n:Nat)(x:zt):Le (Kr n x) (qp x):=by unfold Kr qp;exact(.bind (oN n _) fun _=>(.bif .rfl .rfl))
def Br(n:Nat)(x:List ze):Option (zt×Int):=
 zb (bf n x) fun y1=>
 bif y1 != 0 then
  some ((⟨0,[],0,(⟨[],[],false⟩:zV),[]⟩:zt),y1)
 else
  zb (wG n (⟨x⟩:zm)) fun y2=>
  zb (zC (!(!y2.1.2)) (Kr n (⟨y2.1.1.kind,y2.1.1.name,y2.1.1.num,y2.1.1.decl,y2.1.1.list⟩:zt)) (default:Int)) fun y3=>
  bif bif !y2.1.2 then true else y3 != 0 then
   some ((⟨0,[],0,(⟨[],[],false⟩:zV),[]⟩:zt),12)
  else
   some ((⟨y2.1.1.kind,y2.1.1.name,y2.1.1.num,y2.1.1.decl,y2.1.1.list⟩:zt),0)
theorem YG(n:Nat)(x:List ze):Le (Br n x) (Rh x):=by unfold Br Rh;exact(.bind (Ph n _) fun _=>(.bif .rfl (.bind (yQ n _) fun _=>(.bind (.cond (YH n _)) fun _=>(.bif .rfl .rfl)))))
def pz(n:Nat)(x:(Bool×Str×List ze)×zo):Option ((zL×Bool)×zo):=
 zW (X:=Bool×zo×(Int×Int×Str×Int×Str×Bool)×zL) (
   bif bif !x.1.1 then false else false then
    none
   else
    bif bif x.1.1 then x.1.2.1==[108,97,121,101,114]else false then
     zb (iq n (x.1.2.2,false)) fun y1=>
     some (LX.out (y1.2,x.2,(0,0,[],0,[],false),(⟨y1.1.kind,y1.1.selectors,y1.1.decls,(⟨y1.1.cond.kind,y1.1.cond.name,y1.1.cond.num,y1.1.cond.decl,y1.1.cond.list⟩:zt),y1.1.names,y1.1.rules⟩:zL)))
    else
     bif bif bif x.1.1 then x.1.2.1==[109,101,100,105,97]else false then false else false then
      zb (Wq n x.1.2.2) fun y2=>
      some (LX.out (y2.2==0,x.2,(0,0,[],0,[],false),(⟨2,[],[],(⟨y2.1.kind,y2.1.name,y2.1.num,y2.1.decl,y2.1.list⟩:zt),[],[]⟩:zL)))
     else
      bif bif bif x.1.1 then x.1.2.1==[115,117,112,112,111,114,116,115]else false then false else false then
       zb (Br n x.1.2.2) fun y3=>
       some (LX.out (y3.2==0,x.2,(0,0,[],0,[],false),(⟨3,[],[],(⟨y3.1.kind,y3.1.name,y3.1.num,y3.1.decl,y3.1.list⟩:zt),[],[]⟩:zL)))
      else
       some (LX.out (false,x.2,(0,0,[],0,[],false),(⟨0,[],[],(⟨0,[],0,(⟨[],[],false⟩:zV),[]⟩:zt),[],[]⟩:zL)))) fun j4=>
 bif !j4.1 then
  some (((⟨0,[],[],(⟨0,[],0,(⟨[],[],false⟩:zV),[]⟩:zt),[],[]⟩:zL),false),j4.2.1)
 else
  bif bif bif j4.2.2.2.kind==2 then true else j4.2.2.2.kind==3 then true else j4.2.2.2.kind==4 then
   none
  else
   some (((⟨j4.2.2.2.kind,j4.2.2.2.selectors,j4.2.2.2.decls,(⟨j4.2.2.2.cond.kind,j4.2.2.2.cond.name,j4.2.2.2.cond.num,j4.2.2.2.cond.decl,j4.2.2.2.cond.list⟩:zt),j4.2.2.2.names,j4.2.2.2.rules⟩:zL),true),(⟨w64 (j4.2.1.room - 1),j4.2.1.constructs⟩:zo))
theorem BS(n:Nat)(x:(Bool×Str×List ze)×zo):Le (pz n x) (QK x):=by unfold pz QK;exact(.join (.bif .none (.bif (.bind (gF n _) fun _=> .rfl) (.bif (.bind (mE n _) fun _=> .rfl) (.bif (.bind (YG n _) fun _=> .rfl) .rfl)))) fun _=>(.bif .rfl (.bif .none .rfl)))
def Iz(n:Nat)(zF:(List ze×Bool)×zo->Option (List zL×zo))(x:(Bool×Str×List ze×ze)×zo):Option ((zL×Bool)×zo):=
 zW (X:=Bool×zo×(Int×Int×Str×Int×Str×Bool)×zL) (
   bif bif !x.1.1 then true else false then
    zb (Ox n (x.1.2.2.1,x.1.2.2.2.list)) fun y1=>
    some (LX.out (y1.2,x.2,(0,0,[],0,[],false),(⟨y1.1.kind,y1.1.selectors,y1.1.decls,(⟨y1.1.cond.kind,y1.1.cond.name,y1.1.cond.num,y1.1.cond.decl,y1.1.cond.list⟩:zt),y1.1.names,y1.1.rules⟩:zL)))
   else
    bif bif x.1.1 then x.1.2.1==[108,97,121,101,114]else false then
     zb (iq n (x.1.2.2.1,true)) fun y2=>
     some (LX.out (y2.2,x.2,(0,0,[],0,[],false),(⟨y2.1.kind,y2.1.selectors,y2.1.decls,(⟨y2.1.cond.kind,y2.1.cond.name,y2.1.cond.num,y2.1.cond.decl,y2.1.cond.list⟩:zt),y2.1.names,y2.1.rules⟩:zL)))
    else
     bif bif bif x.1.1 then x.1.2.1==[109,101,100,105,97]else false then true else false then
      zb (Wq n x.1.2.2.1) fun y3=>
      some (LX.out (y3.2==0,x.2,(0,0,[],0,[],false),(⟨2,[],[],(⟨y3.1.kind,y3.1.name,y3.1.num,y3.1.decl,y3.1.list⟩:zt),[],[]⟩:zL)))
     else
      bif bif bif x.1.1 then x.1.2.1==[115,117,112,112,111,114,116,115]else false then true else false then
       zb (Br n x.1.2.2.1) fun y4=>
       some (LX.out (y4.2==0,x.2,(0,0,[],0,[],false),(⟨3,[],[],(⟨y4.1.kind,y4.1.name,y4.1.num,y4.1.decl,y4.1.list⟩:zt),[],[]⟩:zL)))
      else
       some (LX.out (false,x.2,(0,0,[],0,[],false),(⟨0,[],[],(⟨0,[],0,(⟨[],[],false⟩:zV),[]⟩:zt),[],[]⟩:zL)))) fun j5=>
 bif !j5.1 then
  some (((⟨0,[],[],(⟨0,[],0,(⟨[],[],false⟩:zV),[]⟩:zt),[],[]⟩:zL),false),j5.2.1)
 else
  zW (X:=zo×(Int×Int×Str×Int×Str×Bool)×zL) (
    bif bif bif j5.2.2.2.kind==2 then true else j5.2.2.2.kind==3 then true else j5.2.2.2.kind==4 then
     zb (zF ((x.1.2.2.2.list,false),(⟨w64 (j5.2.1.room - 1),j5.2.1.constructs⟩:zo))) fun y6=>
     some (LX.out (y6.2,(j5.2.2.1.1,j5.2.2.1.2.1,j5.2.2.1.2.2.1,j5.2.2.1.2.2.2.1,j5.2.2.1.2.2.2.2.1,j5.2.2.1.2.2.2.2.2),(⟨j5.2.2.2.kind,j5.2.2.2.selectors,j5.2.2.2.decls,(⟨j5.2.2.2.cond.kind,j5.2.2.2.cond.name,j5.2.2.2.cond.num,j5.2.2.2.cond.decl,j5.2.2.2.cond.list⟩:zt),j5.2.2.2.names,y6.1⟩:zL)))
    else
     some (LX.out ((⟨w64 (j5.2.1.room - 1),j5.2.1.constructs⟩:zo),(j5.2.2.1.1,j5.2.2.1.2.1,j5.2.2.1.2.2.1,j5.2.2.1.2.2.2.1,j5.2.2.1.2.2.2.2.1,j5.2.2.1.2.2.2.2.2),(⟨j5.2.2.2.kind,j5.2.2.2.selectors,j5.2.2.2.decls,(⟨j5.2.2.2.cond.kind,j5.2.2.2.cond.name,j5.2.2.2.cond.num,j5.2.2.2.cond.decl,j5.2.2.2.cond.list⟩:zt),j5.2.2.2.names,j5.2.2.2.rules⟩:zL)))) fun j7=>
  some (((⟨j7.2.2.kind,j7.2.2.selectors,j7.2.2.decls,(⟨j7.2.2.cond.kind,j7.2.2.cond.name,j7.2.2.cond.num,j7.2.2.cond.decl,j7.2.2.cond.list⟩:zt),j7.2.2.names,j7.2.2.rules⟩:zL),true),j7.1)
theorem kR(n:Nat)(zF sheet_parser_rules':(List ze×Bool)×zo->Option (List zL×zo))(h_sheet_parser_rules: ∀z,Le (zF z) (sheet_parser_rules' z))(x:(Bool×Str×List ze×ze)×zo):Le (Iz n zF x) (ym sheet_parser_rules' x):=by unfold Iz ym;exact(.join (.bif (.bind (PP n _) fun _=> .rfl) (.bif (.bind (gF n _) fun _=> .rfl) (.bif (.bind (mE n _) fun _=> .rfl) (.bif (.bind (YG n _) fun _=> .rfl) .rfl)))) fun _=>(.bif .rfl (.join (.bif (.bind (h_sheet_parser_rules _) fun _=> .rfl) .rfl) fun _=> .rfl)))
def bz(n:Nat)(zF:(List ze×Bool)×zo->Option (List zL×zo))(x:(List ze×Bool)×zo):Option (List zL×zo):=
 ZI n (fun(s1:List ze×zo×List zL)=>
   bif decide ((s1.1.length:Int)>0)then
    zb (Ri s1.1) fun y2=>
    bif bif y2==13 then true else bif x.1.2 then bif y2==14 then true else y2==15 else false then
     need (decide (1<=(s1.1.length:Int)))<|
     some (LO.again (List.drop 1 s1.1,s1.2.1,s1.2.2))
    else
     zW (X:=List ze×zo×List zL) (
       bif x.1.2 then
        some (LX.out (s1.1,(⟨s1.2.1.room,w64 (s1.2.1.constructs+1)⟩:zo),s1.2.2))
       else
        some (LX.out (s1.1,s1.2.1,s1.2.2))) fun j3=>
     zW (X:=(List ze×Str)×zo×List zL×List UInt8) (
       bif y2==3 then
        zb (geti j3.1 0) fun y4=>
        zb (Zr n y4.token.text) fun y5=>
        need (Zi 1 1 1)<|
        need (decide (1<=(j3.1.length:Int)))<|
        some (LX.out ((List.drop 1 j3.1,y5),j3.2.1,j3.2.2,[(23:UInt8),(17:UInt8)]))
       else
        some (LX.out ((j3.1,[]),j3.2.1,j3.2.2,[(23:UInt8)]))) fun j6=>
     zb (Mx n (j6.1.1,j6.2.2.2)) fun y7=>
     zb (Ri y7.2) fun y8=>
     bif y8==23 then
      zb (geti y7.2 0) fun y9=>
      zW (X:=List ze×zo×List zL) (
        bif decide ((y7.2.length:Int)>0)then
         need (decide (1<=(y7.2.length:Int)))<|
         some (LX.out (List.drop 1 y7.2,j6.2.1,j6.2.2.1))
        else
         some (LX.out (y7.2,j6.2.1,j6.2.2.1))) fun j10=>
      bif j10.2.1.room==0 then
       some (LO.again (j10.1,j10.2.1,j10.2.2))
      else
       zb (Iz n zF ((y2==3,j6.1.2,y7.1,y9),j10.2.1)) fun y11=>
       bif y11.1.2 then
        need (Zi j10.2.2.length 1 208)<|
        some (LO.again (j10.1,y11.2,j10.2.2++[(⟨y11.1.1.kind,y11.1.1.selectors,y11.1.1.decls,(⟨y11.1.1.cond.kind,y11.1.1.cond.name,y11.1.1.cond.num,y11.1.1.cond.decl,y11.1.1.cond.list⟩:zt),y11.1.1.names,y11.1.1.rules⟩:zL)]))
       else
        some (LO.again (j10.1,y11.2,j10.2.2))
     else
      zW (X:=List ze×zo×List zL) (
        bif decide ((y7.2.length:Int)>0)then
         need (decide (1<=(y7.2.length:Int)))<|
         some (LX.out (List.drop 1 y7.2,j6.2.1,j6.2.2.1))
        else
         some (LX.out (y7.2,j6.2.1,j6.2.2.1))) fun j12=>
      bif j12.2.1.room==0 then
       some (LO.again (j12.1,j12.2.1,j12.2.2))
      else
       zb (pz n ((y2==3,j6.1.2,y7.1),j12.2.1)) fun y13=>
       bif y13.1.2 then
        need (Zi j12.2.2.length 1 208)<|
        some (LO.again (j12.1,y13.2,j12.2.2++[(⟨y13.1.1.kind,y13.1.1.selectors,y13.1.1.decls,(⟨y13.1.1.cond.kind,y13.1.1.cond.name,y13.1.1.cond.num,y13.1.1.cond.decl,y13.1.1.cond.list⟩:zt),y13.1.1.names,y13.1.1.rules⟩:zL)]))
       else
        some (LO.again (j12.1,y13.2,j12.2.2))
   else
    some (LO.out (s1.2.1,s1.2.2)):List ze×zo×List zL->Option (LO (List ze×zo×List zL) (zo×List zL) _)) (x.1.1,x.2,[]) fun o14=>
 some (o14.2,o14.1)
def vz(n:Nat):(List ze×Bool)×zo->Option (List zL×zo):=Nc (bz n) n
theorem CS(n:Nat)(zF sheet_parser_rules':(List ze×Bool)×zo->Option (List zL×zo))(h_sheet_parser_rules: ∀z,Le (zF z) (sheet_parser_rules' z))(x:(List ze×Bool)×zo):Le (bz n zF x) (Qt sheet_parser_rules' x):=by unfold bz Qt;exact(.loop (fun _=>(.bif (.bind .rfl fun _=>(.bif (.need .rfl) (.join (.bif .rfl .rfl) fun _=>(.join (.bif (.bind .rfl fun _=>(.bind (Zw n _) fun _=>(.need (.need .rfl)))) .rfl) fun _=>(.bind (OP n _) fun _=>(.bind .rfl fun _=>(.bif (.bind .rfl fun _=>(.join (.bif (.need .rfl) .rfl) fun _=>(.bif .rfl (.bind (kR n _ _ h_sheet_parser_rules _) fun _=>(.bif (.need .rfl) .rfl))))) (.join (.bif (.need .rfl) .rfl) fun _=>(.bif .rfl (.bind (BS n _) fun _=>(.bif (.need .rfl) .rfl))))))))))) .rfl)) fun _=> .rfl)
theorem XH(n:Nat)(x:(List ze×Bool)×zo):Le (vz n x) (zF x):=Le.rec (fun S S' h x=>CS n S S' h x) n x
def Pq(n:Nat)(x:Str):Option (List zL×Int):=
 zb (ni n x) fun y1=>
 bif y1.2 != 0 then
  some ([],y1.2)
 else
  zb (parseF y1.1) fun y2=>
  bif y2.2 != 0 then
   some ([],y2.2)
  else
   zb (vz n ((y2.1,true),(⟨64,0⟩:zo))) fun y3=>
   none
theorem SF(n:Nat)(x:Str):Le (Pq n x) (yg x):=by unfold Pq yg;exact(.bind (Ar n _) fun _=>(.bif .rfl (.bind .rfl fun _=>(.bif .rfl (.bind (XH n _) fun _=> .none)))))
def Sq(n:Nat)(x:Str):Option (Qi×Int):=
 zb (Pq n x) fun y1=>
 bif y1.2 != 0 then
  some ((⟨[]⟩:Qi),y1.2)
 else
  some ((⟨y1.1⟩:Qi),0)
theorem VF(n:Nat)(x:Str):Le (Sq n x) (Bh x):=by unfold Sq Bh;exact(.bind (SF n _) fun _=>(.bif .rfl .rfl))
def pq(n:Nat)(x:Str):Option ((List zL×Int)×zo):=
 zb (ni n x) fun y1=>
 bif y1.2 != 0 then
  none
 else
  zb (parseF y1.1) fun y2=>
  bif y2.2 != 0 then
   none
  else
   zb (vz n ((y2.1,true),(⟨64,0⟩:zo))) fun y3=>
   some ((y3.1,0),y3.2)
theorem GG(n:Nat)(x:Str):Le (pq n x) (Ih x):=by unfold pq Ih;exact(.bind (Ar n _) fun _=>(.bif .none (.bind .rfl fun _=>(.bif .none (.bind (XH n _) fun _=> .rfl)))))
def dx(n:Nat)(x:Str):Option (Qi×Int):=
 zb (pq n x) fun y1=>
 bif y1.1.2 != 0 then
  some ((⟨[]⟩:Qi),y1.1.2)
 else
  some ((⟨y1.1.1⟩:Qi),0)
theorem aP(n:Nat)(x:Str):Le (dx n x) (ji x):=by unfold dx ji;exact(.bind (GG n _) fun _=>(.bif .rfl .rfl))
def ZU(n:Nat)(x:Str):Option (Qi×Int):=
 zb (ni n x) fun y1=>
 bif !(y1.2==0)then
  zb (Sq n x) fun z1=>
  some z1
 else
  zb (parseF y1.1) fun y2=>
  bif !(y2.2==0)then
   zb (Sq n x) fun z1=>
   some z1
  else
   zb (dx n x) fun z1=>
   some z1
theorem qx(n:Nat)(x:Str):Le (ZU n x) (Zx x):=by unfold ZU Zx;exact(.bind (Ar n _) fun _=>(.bif (.bind (VF n _) fun _=> .rfl) (.bind .rfl fun _=>(.bif (.bind (VF n _) fun _=> .rfl) (.bind (aP n _) fun _=> .rfl)))))
def QO(n:Nat)(x:List Str):Option Int:=
 ZI n (fun(s1:Int)=>
   bif decide (s1<(x.length:Int))then
    zb (geti x s1) fun y2=>
    zb (Uh y2) fun y3=>
    bif y3 then
     some (LO.ret s1)
    else
     some (LO.again (w64 (s1+1)))
   else
    some (LO.out ()):Int->Option (LO (Int) (Unit) _)) 0 fun o4=>
 some (-1)
theorem nT(n:Nat)(x:List Str):Le (QO n x) (ZY x):=by unfold QO ZY;exact(.loop (fun _=>(.bif (.bind .rfl fun _=>(.bind .rfl fun _=>(.bif .rfl .rfl))) .rfl)) fun _=> .rfl)
def Qb(n:Nat)(x:List Str):Option Bool:=
 zb (QO n x) fun y1=>
 some (decide (y1>=0))
theorem AU(n:Nat)(x:List Str):Le (Qb n x) (ZB x):=by unfold Qb ZB;exact(.bind (nT n _) fun _=> .rfl)
def Wy(n:Nat)(x:List Str):Option Bool:=
 zb (zC (bif decide ((x.length:Int)>0)then decide ((x.length:Int)<=16)else false) (Qb n x) (default:Bool)) fun y1=>
 some (bif bif decide ((x.length:Int)>0)then decide ((x.length:Int)<=16)else false then !y1 else false)
theorem VQ(n:Nat)(x:List Str):Le (Wy n x) (Lm x):=by unfold Wy Lm;exact(.bind (.cond (AU n _)) fun _=> .rfl)
def Yx(n:Nat)(x:List Str):Option Bool:=
 zb (Wy n x) fun y1=>
 some (!y1)
theorem XP(n:Nat)(x:List Str):Le (Yx n x) (Nl x):=by unfold Yx Nl;exact(.bind (VQ n _) fun _=> .rfl)
def QN(n:Nat)(x:List (List Str)):Option Int:=
 ZI n (fun(s1:Int)=>
   bif decide (s1<(x.length:Int))then
    zb (geti x s1) fun y2=>
    zb (Yx n y2) fun y3=>
    bif y3 then
     some (LO.ret s1)
    else
     some (LO.again (w64 (s1+1)))
   else
    some (LO.out ()):Int->Option (LO (Int) (Unit) _)) 0 fun o4=>
 some (-1)
theorem rT(n:Nat)(x:List (List Str)):Le (QN n x) (ZX x):=by unfold QN ZX;exact(.loop (fun _=>(.bif (.bind .rfl fun _=>(.bind (XP n _) fun _=>(.bif .rfl .rfl))) .rfl)) fun _=> .rfl)
def Qa(n:Nat)(x:List (List Str)):Option Bool:=
 zb (QN n x) fun y1=>
 some (decide (y1>=0))
theorem BU(n:Nat)(x:List (List Str)):Le (Qa n x) (ZA x):=by unfold Qa ZA;exact(.bind (rT n _) fun _=> .rfl)
def Tz(n:Nat)(Zn:List zw->Option Int)(x:List zw):Option Int:=
 ZI n (fun(s1:Int×Int)=>
   bif decide (s1.2<(x.length:Int))then
    zb (geti x s1.2) fun y2=>
    ZI n (fun(s3:Int×Int)=>
      bif decide (s3.2<(y2.parts.length:Int))then
       zb (geti y2.parts s3.2) fun y4=>
       ZI n (fun(s5:Int×Int)=>
         bif decide (s5.2<(y4.simples.length:Int))then
          zW (X:=Int×Int) (
            zb (geti y4.simples s5.2) fun y6=>
            bif bif y6.kind==3 then true else bif decide (y6.kind>=9)then !(bif bif bif y6.kind==9 then true else y6.kind==10 then !y6.of_ else false then y6.anb.a==0&&(y6.anb.b==1&&true)else false)else false then
             zb (Zn y6.list) fun y7=>
             some (LX.out (if w64 (y7+1)>s5.1 then w64 (y7+1)else s5.1,s5.2))
            else
             some (LX.out (s5.1,s5.2))) fun j8=>
          some (LO.again (j8.1,w64 (j8.2+1)))
         else
          some (LO.out s5.1):Int×Int->Option (LO (Int×Int) (Int) _)) (s3.1,0) fun o9=>
       some (LO.again (o9,w64 (s3.2+1)))
      else
       some (LO.out s3.1):Int×Int->Option (LO (Int×Int) (Int) _)) (s1.1,0) fun o10=>
    some (LO.again (o10,w64 (s1.2+1)))
   else
    some (LO.out s1.1):Int×Int->Option (LO (Int×Int) (Int) _)) (0,0) fun o11=>
 some o11
def MG(n:Nat):List zw->Option Int:=Nc (Tz n) n
theorem aQ(n:Nat)(Zn sheet_selected':List zw->Option Int)(h_sheet_selected: ∀z,Le (Zn z) (sheet_selected' z))(x:List zw):Le (Tz n Zn x) (Sm sheet_selected' x):=by unfold Tz Sm;exact(.loop (fun _=>(.bif (.bind .rfl fun _=>(.loop (fun _=>(.bif (.bind .rfl fun _=>(.loop (fun _=>(.bif (.join (.bind .rfl fun _=>(.bif (.bind (h_sheet_selected _) fun _=> .rfl) .rfl)) fun _=> .rfl) .rfl)) fun _=> .rfl)) .rfl)) fun _=> .rfl)) .rfl)) fun _=> .rfl)
theorem AQ(n:Nat)(x:List zw):Le (MG n x) (Zn x):=Le.rec (fun S S' h x=>aQ n S S' h x) n x
def Bz(n:Nat)(x:zw):Option Bool:=
 zb (Cr n (Wz n) ((⟨x.lead,x.parts,x.combs⟩:zw),(⟨0,false⟩:zf),false)) fun y1=>
 some (!y1)
theorem XQ(n:Nat)(x:zw):Le (Bz n x) (Xm x):=by unfold Bz Xm;exact(.bind (VG n _ _ (fun z=>nG n z) _) fun _=> .rfl)
def Qy(n:Nat)(x:List zw):Option Int:=
 ZI n (fun(s1:Int)=>
   bif decide (s1<(x.length:Int))then
    zb (geti x s1) fun y2=>
    zb (Bz n (⟨y2.lead,y2.parts,y2.combs⟩:zw)) fun y3=>
    bif y3 then
     some (LO.ret s1)
    else
     some (LO.again (w64 (s1+1)))
   else
    some (LO.out ()):Int->Option (LO (Int) (Unit) _)) 0 fun o4=>
 some (-1)
theorem bT(n:Nat)(x:List zw):Le (Qy n x) (ZL x):=by unfold Qy ZL;exact(.loop (fun _=>(.bif (.bind .rfl fun _=>(.bind (XQ n _) fun _=>(.bif .rfl .rfl))) .rfl)) fun _=> .rfl)
def qQ(n:Nat)(x:List zw):Option Bool:=
 zb (Qy n x) fun y1=>
 some (decide (y1>=0))
theorem EU(n:Nat)(x:List zw):Le (qQ n x) (Zv x):=by unfold qQ Zv;exact(.bind (bT n _) fun _=> .rfl)
def gy(n:Nat)(x:List zw):Option Int:=
 zb (zC (!((x.length:Int)==0)) (qQ n x) (default:Bool)) fun y1=>
 bif bif (x.length:Int)==0 then true else y1 then
  some 8
 else
  zb (ay n x) fun y2=>
  bif decide (y2>64)then
   some 4
  else
   some 0
theorem IQ(n:Nat)(x:List zw):Le (gy n x) (Gm x):=by unfold gy Gm;exact(.bind (.cond (EU n _)) fun _=>(.bif .rfl (.bind (XG n _) fun _=>(.bif .rfl .rfl))))
def Xy(n:Nat)(Z8:zt->Option Int)(x:zt):Option Int:=
 zW (X:=Int) (
   bif bif x.kind==5 then true else x.kind==6 then
    some (LX.out 1)
   else
    some (LX.out 0)) fun j1=>
 ZI n (fun(s2:Int×Int)=>
   bif decide (s2.2<(x.list.length:Int))then
    zb (geti x.list s2.2) fun y3=>
    zb (Z8 (⟨y3.kind,y3.name,y3.num,y3.decl,y3.list⟩:zt)) fun y4=>
    some (LO.again (if y4>s2.1 then y4 else s2.1,w64 (s2.2+1)))
   else
    some (LO.out s2.1):Int×Int->Option (LO (Int×Int) (Int) _)) (j1,0) fun o5=>
 some o5
def JF(n:Nat):zt->Option Int:=Nc (Xy n) n
theorem fP(n:Nat)(Z8 sheet_asked':zt->Option Int)(h_sheet_asked: ∀z,Le (Z8 z) (sheet_asked' z))(x:zt):Le (Xy n Z8 x) (Mm sheet_asked' x):=by unfold Xy Mm;exact(.join (.bif .rfl .rfl) fun _=>(.loop (fun _=>(.bif (.bind .rfl fun _=>(.bind (h_sheet_asked _) fun _=> .rfl)) .rfl)) fun _=> .rfl))
theorem aO(n:Nat)(x:zt):Le (JF n x) (Z8 x):=Le.rec (fun S S' h x=>fP n S S' h x) n x
def Vq(n:Nat)(x:zt):Option Bool:=
 zb (zC (!(x.kind != 1)) (qW (⟨x.kind,x.name,x.num,x.decl,x.list⟩:zt)) (default:Bool)) fun y1=>
 bif bif bif x.kind != 1 then true else !y1 then true else(x.list.length:Int)==0 then
  some false
 else
  ZI n (fun(s2:Int)=>
    bif decide (s2<(x.list.length:Int))then
     zW (X:=Int) (
       zb (geti x.list s2) fun y3=>
       zb (zC (!(decide ((y3.list.length:Int)>0))) (qW (⟨y3.kind,[],0,y3.decl,y3.list⟩:zt)) (default:Bool)) fun y4=>
       bif bif decide ((y3.list.length:Int)>0)then true else !y4 then
        some (LX.ret (LO.ret false))
       else
        bif y3.kind==4 then
         zb (zC (!(bif decide (s2>0)then true else y3.num != 0)) (Yq n y3.name) (default:Bool)) fun y5=>
         bif bif bif decide (s2>0)then true else y3.num != 0 then true else !y5 then
          some (LX.ret (LO.ret false))
         else
          some (LX.out s2)
        else
         zW (X:=Bool) (
           bif y3.kind==5 then
            some (LX.out (y3.kind==5))
           else
            some (LX.out (y3.kind==6))) fun j6=>
         bif j6 then
          zb (zC (!(bif !(y3.name==[])then true else decide (y3.num<0))) (Xq n y3.num) (default:Int)) fun y7=>
          bif bif bif !(y3.name==[])then true else decide (y3.num<0)then true else y7 != 0 then
           some (LX.ret (LO.ret false))
          else
           some (LX.out s2)
         else
          some (LX.ret (LO.ret false))) fun j8=>
     some (LO.again (w64 (j8+1)))
    else
     some (LO.out ()):Int->Option (LO (Int) (Unit) _)) 0 fun o9=>
  some true
theorem jE(n:Nat)(x:zt):Le (Vq n x) (Ti x):=by unfold Vq Ti;exact(.bind .rfl fun _=>(.bif .rfl (.loop (fun _=>(.bif (.join (.bind .rfl fun _=>(.bind .rfl fun _=>(.bif .rfl (.bif (.bind (.cond (kF n _)) fun _=>(.bif .rfl .rfl)) (.join (.bif .rfl .rfl) fun _=>(.bif (.bind (.cond (jF n _)) fun _=>(.bif .rfl .rfl)) .rfl)))))) fun _=> .rfl) .rfl)) fun _=> .rfl)))
def Ew(n:Nat)(x:zt):Option Bool:=
 bif x.kind==3 then
  zb (qW (⟨x.kind,x.name,x.num,x.decl,x.list⟩:zt)) fun y1=>
  zb (zC (bif y1 then(x.list.length:Int)==1 else false) (geti x.list 0) (default:zt)) fun y2=>
  zb (zC (bif y1 then(x.list.length:Int)==1 else false) (Vq n (⟨y2.kind,y2.name,y2.num,y2.decl,y2.list⟩:zt)) (default:Bool)) fun y3=>
  zb (zC (bif bif y1 then(x.list.length:Int)==1 else false then y3 else false) (geti x.list 0) (default:zt)) fun y4=>
  zb (zC (bif bif y1 then(x.list.length:Int)==1 else false then y3 else false) (Dq (⟨y4.kind,y4.name,y4.num,y4.decl,y4.list⟩:zt)) (default:Bool)) fun y5=>
  some (bif bif bif y1 then(x.list.length:Int)==1 else false then y3 else false then y5 else false)
 else
  zb (Vq n (⟨x.kind,x.name,x.num,x.decl,x.list⟩:zt)) fun y6=>
  some y6
theorem sN(n:Nat)(x:zt):Le (Ew n x) (Mk x):=by unfold Ew Mk;exact(.bif (.bind .rfl fun _=>(.bind .rfl fun _=>(.bind (.cond (jE n _)) fun _=>(.bind .rfl fun _=>(.bind .rfl fun _=> .rfl))))) (.bind (jE n _) fun _=> .rfl))
def Sz(n:Nat)(x:zt):Option Bool:=
 zb (Ew n (⟨x.kind,x.name,x.num,x.decl,x.list⟩:zt)) fun y1=>
 some (!y1)
theorem JR(n:Nat)(x:zt):Le (Sz n x) (gm x):=by unfold Sz gm;exact(.bind (sN n _) fun _=> .rfl)
def UA(n:Nat)(x:List zt):Option Int:=
 ZI n (fun(s1:Int)=>
   bif decide (s1<(x.length:Int))then
    zb (geti x s1) fun y2=>
    zb (Sz n (⟨y2.kind,y2.name,y2.num,y2.decl,y2.list⟩:zt)) fun y3=>
    bif y3 then
     some (LO.ret s1)
    else
     some (LO.again (w64 (s1+1)))
   else
    some (LO.out ()):Int->Option (LO (Int) (Unit) _)) 0 fun o4=>
 some (-1)
theorem lS(n:Nat)(x:List zt):Le (UA n x) (Qd x):=by unfold UA Qd;exact(.loop (fun _=>(.bif (.bind .rfl fun _=>(.bind (JR n _) fun _=>(.bif .rfl .rfl))) .rfl)) fun _=> .rfl)
def QV(n:Nat)(x:List zt):Option Bool:=
 zb (UA n x) fun y1=>
 some (decide (y1>=0))
theorem OT(n:Nat)(x:List zt):Le (QV n x) (qf x):=by unfold QV qf;exact(.bind (lS n _) fun _=> .rfl)
def Cz(n:Nat)(x:zt):Option Int:=
 zb (zC (bif bif x.kind==2 then decide ((x.list.length:Int)>0)else false then decide ((x.list.length:Int)<=64)else false) (QV n x.list) (default:Bool)) fun y1=>
 zb (qW (⟨x.kind,x.name,x.num,x.decl,x.list⟩:zt)) fun y2=>
 bif bif !y2 then true else bif !(bif x.kind==1 then(x.list.length:Int)==0 else false)then !(bif bif bif x.kind==2 then decide ((x.list.length:Int)>0)else false then decide ((x.list.length:Int)<=64)else false then !y1 else false)else false then
  some 8
 else
  some 0
theorem YQ(n:Nat)(x:zt):Le (Cz n x) (Rm x):=by unfold Cz Rm;exact(.bind (.cond (OT n _)) fun _=>(.bind .rfl fun _=>(.bif .rfl .rfl)))
def Wx(n:Nat)(qP:zt->Option Int)(x:zt):Option Int:=
 bif x.kind==7 then
  zb (ol n x.decl.value) fun y1=>
  some (w64 (y1.1+1))
 else
  bif x.kind==8 then
   some 1
  else
   ZI n (fun(s2:Int×Int)=>
     bif decide (s2.2<(x.list.length:Int))then
      zb (geti x.list s2.2) fun y3=>
      zb (qP (⟨y3.kind,y3.name,y3.num,y3.decl,y3.list⟩:zt)) fun y4=>
      zW (X:=Int×Int) (
        bif bif y3.kind != 7 then y3.kind != 8 else false then
         some (LX.out (s2.1,w64 (y4+1)))
        else
         some (LX.out (s2.1,y4))) fun j5=>
      some (LO.again (if j5.2>j5.1 then j5.2 else j5.1,w64 (s2.2+1)))
     else
      some (LO.out s2.1):Int×Int->Option (LO (Int×Int) (Int) _)) (0,0) fun o6=>
   some o6
def NE(n:Nat):zt->Option Int:=Nc (Wx n) n
theorem iO(n:Nat)(qP sheet_told':zt->Option Int)(h_sheet_told: ∀z,Le (qP z) (sheet_told' z))(x:zt):Le (Wx n qP x) (Ll sheet_told' x):=by unfold Wx Ll;exact(.bif (.bind (xw n _) fun _=> .rfl) (.bif .rfl (.loop (fun _=>(.bif (.bind .rfl fun _=>(.bind (h_sheet_told _) fun _=>(.join (.bif .rfl .rfl) fun _=> .rfl))) .rfl)) fun _=> .rfl)))
theorem wN(n:Nat)(x:zt):Le (NE n x) (qP x):=Le.rec (fun S S' h x=>iO n S S' h x) n x
def Xx(n:Nat)(qd:List zL->Option zB)(x:List zL):Option zB:=
 ZI n (fun(s1:Int×zB)=>
   bif decide (s1.1<(x.length:Int))then
    zb (geti x s1.1) fun y2=>
    zb (qd y2.rules) fun y3=>
    zb (Qa n y2.names) fun y4=>
    zW (X:=(Int×Bool)×zB×zB) (
      bif y2.kind==1 then
       zb (MG n y2.selectors) fun y5=>
       zb (zC (!(bif y3.bad then true else y4)) (gy n y2.selectors) (default:Int)) fun y6=>
       zb (zC (!(bif bif bif y3.bad then true else y4 then true else y6 != 0 then true else decide ((y2.decls.length:Int)>32))) (Ig (⟨y2.cond.kind,y2.cond.name,y2.cond.num,y2.cond.decl,y2.cond.list⟩:zt)) (default:Bool)) fun y7=>
       ZI n (fun(s8:(Bool×Int)×zB)=>
         bif decide (s8.1.2<(y2.decls.length:Int))then
          zb (geti y2.decls s8.1.2) fun y9=>
          zb (ol n y9.value) fun y10=>
          zb (zC (!(bif s8.1.1 then true else y10.2 != 0)) (Xl n y9) (default:Int)) fun y11=>
          some (LO.again ((bif bif s8.1.1 then true else y10.2 != 0 then true else y11 != 0,w64 (s8.1.2+1)),(⟨s8.2.rules,if y10.1>s8.2.depth then y10.1 else s8.2.depth,s8.2.bad⟩:zB)))
         else
          some (LO.out (s8.1.1,s8.2)):(Bool×Int)×zB->Option (LO ((Bool×Int)×zB) (Bool×zB) _)) ((bif bif bif bif bif y3.bad then true else y4 then true else y6 != 0 then true else decide ((y2.decls.length:Int)>32)then true else !y7 then true else decide (w64 ((y2.names.length:Int)+(y2.rules.length:Int))>0),0),y3) fun o12=>
       some (LX.out ((y5,o12.1),(⟨w64 (s1.2.rules+w64 (y3.rules+1)),s1.2.depth,s1.2.bad⟩:zB),o12.2))
      else
       bif y2.kind==2 then
        zb (JF n (⟨y2.cond.kind,y2.cond.name,y2.cond.num,y2.cond.decl,y2.cond.list⟩:zt)) fun y13=>
        zb (zC (!(bif bif bif y3.bad then true else y4 then true else decide (w64 ((y2.selectors.length:Int)+(y2.decls.length:Int))>0)then true else decide ((y2.names.length:Int)>0))) (Cz n (⟨y2.cond.kind,y2.cond.name,y2.cond.num,y2.cond.decl,y2.cond.list⟩:zt)) (default:Int)) fun y14=>
        some (LX.out ((y13,bif bif bif bif y3.bad then true else y4 then true else decide (w64 ((y2.selectors.length:Int)+(y2.decls.length:Int))>0)then true else decide ((y2.names.length:Int)>0)then true else y14 != 0),(⟨w64 (s1.2.rules+w64 (y3.rules+1)),s1.2.depth,s1.2.bad⟩:zB),y3))
       else
        bif y2.kind==3 then
         zb (NE n (⟨y2.cond.kind,y2.cond.name,y2.cond.num,y2.cond.decl,y2.cond.list⟩:zt)) fun y15=>
         zb (zC (!(bif bif bif y3.bad then true else y4 then true else decide (w64 ((y2.selectors.length:Int)+(y2.decls.length:Int))>0)then true else decide ((y2.names.length:Int)>0))) (Kr n (⟨y2.cond.kind,y2.cond.name,y2.cond.num,y2.cond.decl,y2.cond.list⟩:zt)) (default:Int)) fun y16=>
         some (LX.out ((y15,bif bif bif bif y3.bad then true else y4 then true else decide (w64 ((y2.selectors.length:Int)+(y2.decls.length:Int))>0)then true else decide ((y2.names.length:Int)>0)then true else y16 != 0),(⟨w64 (s1.2.rules+w64 (y3.rules+1)),s1.2.depth,s1.2.bad⟩:zB),y3))
        else
         bif y2.kind==4 then
          zb (zC (!(bif bif bif y3.bad then true else y4 then true else decide (w64 ((y2.selectors.length:Int)+(y2.decls.length:Int))>0)then true else decide ((y2.names.length:Int)>1))) (Ig (⟨y2.cond.kind,y2.cond.name,y2.cond.num,y2.cond.decl,y2.cond.list⟩:zt)) (default:Bool)) fun y17=>
          some (LX.out ((0,bif bif bif bif y3.bad then true else y4 then true else decide (w64 ((y2.selectors.length:Int)+(y2.decls.length:Int))>0)then true else decide ((y2.names.length:Int)>1)then true else !y17),(⟨w64 (s1.2.rules+w64 (y3.rules+1)),s1.2.depth,s1.2.bad⟩:zB),y3))
         else
          bif y2.kind==5 then
           zb (zC (!(bif bif bif bif bif y3.bad then true else y4 then true else decide (w64 ((y2.selectors.length:Int)+(y2.decls.length:Int))>0)then true else decide ((y2.names.length:Int)<1)then true else decide ((y2.names.length:Int)>64)then true else decide ((y2.rules.length:Int)>0))) (Ig (⟨y2.cond.kind,y2.cond.name,y2.cond.num,y2.cond.decl,y2.cond.list⟩:zt)) (default:Bool)) fun y18=>
           some (LX.out ((0,bif bif bif bif bif bif y3.bad then true else y4 then true else decide (w64 ((y2.selectors.length:Int)+(y2.decls.length:Int))>0)then true else decide ((y2.names.length:Int)<1)then true else decide ((y2.names.length:Int)>64)then true else decide ((y2.rules.length:Int)>0)then true else !y18),(⟨w64 (s1.2.rules+w64 (y3.rules+1)),s1.2.depth,s1.2.bad⟩:zB),(⟨y3.rules,(-1),y3.bad⟩:zB)))
          else
           some (LX.out ((0,true),(⟨w64 (s1.2.rules+w64 (y3.rules+1)),s1.2.depth,s1.2.bad⟩:zB),y3))) fun j19=>
    some (LO.again (w64 (s1.1+1),(⟨j19.2.1.rules,if j19.1.1>(if w64 (j19.2.2.depth+1)>j19.2.1.depth then w64 (j19.2.2.depth+1)else j19.2.1.depth)then j19.1.1 else if w64 (j19.2.2.depth+1)>j19.2.1.depth then w64 (j19.2.2.depth+1)else j19.2.1.depth,bif j19.2.1.bad then true else j19.1.2⟩:zB)))
   else
    some (LO.out s1.2):Int×zB->Option (LO (Int×zB) (zB) _)) (0,(⟨0,0,false⟩:zB)) fun o20=>
 some o20
def Xw(n:Nat):List zL->Option zB:=Nc (Xx n) n
theorem jO(n:Nat)(qd sheet_look':List zL->Option zB)(h_sheet_look: ∀z,Le (qd z) (sheet_look' z))(x:List zL):Le (Xx n qd x) (Ml sheet_look' x):=by unfold Xx Ml;exact(.loop (fun _=>(.bif (.bind .rfl fun _=>(.bind (h_sheet_look _) fun _=>(.bind (BU n _) fun _=>(.join (.bif (.bind (AQ n _) fun _=>(.bind (.cond (IQ n _)) fun _=>(.bind .rfl fun _=>(.loop (fun _=>(.bif (.bind .rfl fun _=>(.bind (xw n _) fun _=>(.bind (.cond (Dx n _)) fun _=> .rfl))) .rfl)) fun _=> .rfl)))) (.bif (.bind (aO n _) fun _=>(.bind (.cond (YQ n _)) fun _=> .rfl)) (.bif (.bind (wN n _) fun _=>(.bind (.cond (YH n _)) fun _=> .rfl)) (.bif (.bind .rfl fun _=> .rfl) (.bif (.bind .rfl fun _=> .rfl) .rfl))))) fun _=> .rfl)))) .rfl)) fun _=> .rfl)
theorem TF(n:Nat)(x:List zL):Le (Xw n x) (qd x):=Le.rec (fun S S' h x=>jO n S S' h x) n x
def Rx(n:Nat)(x:List zL):Option Int:=
 zb (Xw n x) fun y1=>
 bif bif bif y1.bad then true else decide (y1.rules>64)then true else decide (y1.depth>16)then
  some 8
 else
  some 0
theorem YO(n:Nat)(x:List zL):Le (Rx n x) (Il x):=by unfold Rx Il;exact(.bind (TF n _) fun _=>(.bif .rfl .rfl))
def Om(n:Nat)(x:Qi):Option Int:=
 zb (Rx n x.rules) fun y1=>
 some y1
theorem Ey(n:Nat)(x:Qi):Le (Om n x) (df x):=by unfold Om df;exact(.bind (YO n _) fun _=> .rfl)
def Zb(n:Nat)(x:Str×List UInt8):Option Bool:=
 zb (ZU n x.1) fun y1=>
 zb (zC (!(bif y1.2 != 0 then true else(y1.1.rules.length:Int) != (x.2.length:Int))) (Om n y1.1) (default:Int)) fun y2=>
 bif bif bif y1.2 != 0 then true else(y1.1.rules.length:Int) != (x.2.length:Int)then true else y2 != 0 then
  some false
 else
  ZI n (fun(s3:Int)=>
    bif decide (s3<(x.2.length:Int))then
     zb (geti y1.1.rules s3) fun y4=>
     zb (geti x.2 s3) fun y5=>
     bif y4.kind != (y5.toNat:Int)then
      some (LO.ret false)
     else
      some (LO.again (w64 (s3+1)))
    else
     some (LO.out ()):Int->Option (LO (Int) (Unit) _)) 0 fun o6=>
  some true
theorem Zc(n:Nat)(x:Str×List UInt8):Le (Zb n x) (Zg x):=by unfold Zb Zg;exact(.bind (qx n _) fun _=>(.bind (.cond (Ey n _)) fun _=>(.bif .rfl (.loop (fun _=>(.bif (.bind .rfl fun _=>(.bind .rfl fun _=>(.bif .rfl .rfl))) .rfl)) fun _=> .rfl))))
def jq(n:Nat)(x:Qi):Option (Int×Int):=
 zb (Xw n x.rules) fun y1=>
 zb (Om n x) fun y2=>
 bif y2 != 0 then
  some (0,y2)
 else
  some (y1.rules,0)
theorem iF(n:Nat)(x:Qi):Le (jq n x) (ai x):=by unfold jq ai;exact(.bind (TF n _) fun _=>(.bind (Ey n _) fun _=>(.bif .rfl .rfl)))
def Rq(n:Nat)(x:Str):Option (zL×Int):=
 zb (Pq n x) fun y1=>
 bif y1.2 != 0 then
  some ((⟨0,[],[],(⟨0,[],0,(⟨[],[],false⟩:zV),[]⟩:zt),[],[]⟩:zL),y1.2)
 else
  none
theorem UF(n:Nat)(x:Str):Le (Rq n x) (Ah x):=by unfold Rq Ah;exact(.bind (SF n _) fun _=>(.bif .rfl .none))
def ax(n:Nat)(x:Str):Option (zL×Int):=
 zb (pq n x) fun y1=>
 bif y1.1.2 != 0 then
  some ((⟨0,[],[],(⟨0,[],0,(⟨[],[],false⟩:zV),[]⟩:zt),[],[]⟩:zL),y1.1.2)
 else
  bif bif (y1.1.1.length:Int) != 1 then true else y1.2.constructs != 1 then
   some ((⟨0,[],[],(⟨0,[],0,(⟨[],[],false⟩:zV),[]⟩:zt),[],[]⟩:zL),12)
  else
   zb (geti y1.1.1 0) fun y2=>
   some ((⟨y2.kind,y2.selectors,y2.decls,(⟨y2.cond.kind,y2.cond.name,y2.cond.num,y2.cond.decl,y2.cond.list⟩:zt),y2.names,y2.rules⟩:zL),0)
theorem YP(n:Nat)(x:Str):Le (ax n x) (di x):=by unfold ax di;exact(.bind (GG n _) fun _=>(.bif .rfl (.bif .rfl (.bind .rfl fun _=> .rfl))))
def QB(n:Nat)(x:Str):Option (zL×Int):=
 zb (ni n x) fun y1=>
 bif !(y1.2==0)then
  zb (Rq n x) fun z1=>
  some z1
 else
  zb (parseF y1.1) fun y2=>
  bif !(y2.2==0)then
   zb (Rq n x) fun z1=>
   some z1
  else
   zb (ax n x) fun z1=>
   some z1
theorem Bj(n:Nat)(x:Str):Le (QB n x) (qY x):=by unfold QB qY;exact(.bind (Ar n _) fun _=>(.bif (.bind (UF n _) fun _=> .rfl) (.bind .rfl fun _=>(.bif (.bind (UF n _) fun _=> .rfl) (.bind (YP n _) fun _=> .rfl)))))
def Ex(n:Nat)(x:Unit):Option Bool:=
 zb (ZU n [97,123,98,58,99,125,32,120,32,121,59,32,100,123,101,58,102,125,32,64,109,101,100,105,97,32,112,114,105,110,116,123,103,123,125,125,32,64,108,97,121,101,114,32,112,46,113,44,32,114,59,32,64,102,111,110,116,45,102,97,99,101,123,125]) fun y1=>
 zb (zC (!(y1.2 != 0)) (Zb n ([97,123,98,58,99,125,32,120,32,121,59,32,100,123,101,58,102,125,32,64,109,101,100,105,97,32,112,114,105,110,116,123,103,123,125,125,32,64,108,97,121,101,114,32,112,46,113,44,32,114,59,32,64,102,111,110,116,45,102,97,99,101,123,125],[(1:UInt8),(2:UInt8),(5:UInt8)])) (default:Bool)) fun y2=>
 zb (zC (!(bif y1.2 != 0 then true else !y2)) (geti y1.1.rules 1) (default:zL)) fun y3=>
 bif bif bif y1.2 != 0 then true else !y2 then true else(y3.rules.length:Int) != 1 then
  some false
 else
  zb (geti y1.1.rules 2) fun y4=>
  zb (zC ((y4.names.length:Int)==2) (geti y4.names 0) (default:List Str)) fun y5=>
  zb (zC (bif (y4.names.length:Int)==2 then(y5.length:Int)==2 else false) (geti y4.names 0) (default:List Str)) fun y6=>
  zb (zC (bif (y4.names.length:Int)==2 then(y5.length:Int)==2 else false) (geti y6 0) (default:Str)) fun y7=>
  zb (zC (bif bif (y4.names.length:Int)==2 then(y5.length:Int)==2 else false then y7==[112]else false) (geti y4.names 0) (default:List Str)) fun y8=>
  zb (zC (bif bif (y4.names.length:Int)==2 then(y5.length:Int)==2 else false then y7==[112]else false) (geti y8 1) (default:Str)) fun y9=>
  zb (zC (bif bif bif (y4.names.length:Int)==2 then(y5.length:Int)==2 else false then y7==[112]else false then y9==[113]else false) (geti y4.names 1) (default:List Str)) fun y10=>
  zb (zC (bif bif bif bif (y4.names.length:Int)==2 then(y5.length:Int)==2 else false then y7==[112]else false then y9==[113]else false then(y10.length:Int)==1 else false) (geti y4.names 1) (default:List Str)) fun y11=>
  zb (zC (bif bif bif bif (y4.names.length:Int)==2 then(y5.length:Int)==2 else false then y7==[112]else false then y9==[113]else false then(y10.length:Int)==1 else false) (geti y11 0) (default:Str)) fun y12=>
  some (bif bif bif bif bif (y4.names.length:Int)==2 then(y5.length:Int)==2 else false then y7==[112]else false then y9==[113]else false then(y10.length:Int)==1 else false then y12==[114]else false)
theorem eO(n:Nat)(x:Unit):Le (Ex n x) (uk x):=by unfold Ex uk;exact(.bind (qx n _) fun _=>(.bind (.cond (Zc n _)) fun _=>(.bind .rfl fun _=>(.bif .rfl (.bind .rfl fun _=>(.bind .rfl fun _=>(.bind .rfl fun _=>(.bind .rfl fun _=>(.bind .rfl fun _=>(.bind .rfl fun _=>(.bind .rfl fun _=>(.bind .rfl fun _=>(.bind .rfl fun _=> .rfl)))))))))))))
def vG(n:Nat)(x:Unit):Option Bool:=
 zb (Zb n ([],[])) fun y1=>
 zb (zC y1 (Zb n ([32,60,33,45,45,32,97,123,125,32,45,45,62,32],[(1:UInt8)])) (default:Bool)) fun y2=>
 zb (zC (bif y1 then y2 else false) (Zb n ([65,44,98,123,99,58,100,59,101,125,102,123],[(1:UInt8),(1:UInt8)])) (default:Bool)) fun y3=>
 zb (zC (bif bif y1 then y2 else false then y3 else false) (Zb n ([64,77,69,68,73,65,123,97,123,125,125,64,115,117,112,112,111,114,116,115,32,40,97,58,98,41,123,125],[(2:UInt8),(3:UInt8)])) (default:Bool)) fun y4=>
 zb (zC (bif bif bif y1 then y2 else false then y3 else false then y4 else false) (Zb n ([64,108,97,121,101,114,123,125,64,108,97,121,101,114,32,97,46,98,32,123,99,123,125,125,32,64,108,97,121,101,114,32,100,59,64,108,97,121,101,114,32,101,44,102],[(4:UInt8),(4:UInt8),(5:UInt8),(5:UInt8)])) (default:Bool)) fun y5=>
 zb (Zb n ([97],[])) fun y6=>
 zb (zC y6 (Zb n ([123,125],[])) (default:Bool)) fun y7=>
 zb (zC (bif y6 then y7 else false) (Zb n ([97,59,98,123,125],[])) (default:Bool)) fun y8=>
 zb (zC (bif bif y6 then y7 else false then y8 else false) (Zb n ([64,109,101,100,105,97,32,112,114,105,110,116,59],[])) (default:Bool)) fun y9=>
 zb (zC (bif bif bif y6 then y7 else false then y8 else false then y9 else false) (Zb n ([64,109,101,100,105,97,32,112,114,105,110,116],[])) (default:Bool)) fun y10=>
 zb (zC (bif bif bif bif y6 then y7 else false then y8 else false then y9 else false then y10 else false) (Zb n ([64,115,117,112,112,111,114,116,115,32,120,123,97,123,125,125],[])) (default:Bool)) fun y11=>
 zb (zC (bif bif bif bif bif y6 then y7 else false then y8 else false then y9 else false then y10 else false then y11 else false) (Zb n ([64,108,97,121,101,114,59],[])) (default:Bool)) fun y12=>
 zb (zC (bif bif bif bif bif bif y6 then y7 else false then y8 else false then y9 else false then y10 else false then y11 else false then y12 else false) (Zb n ([64,108,97,121,101,114,32,97,32,98,59,64,108,97,121,101,114,32,97,44,59,64,108,97,121,101,114,32,97,44,98,123,125,64,108,97,121,101,114,32,46,97,123,125,64,108,97,121,101,114,32,97,46,32,98,59,64,108,97,121,101,114,32,49,59],[])) (default:Bool)) fun y13=>
 zb (zC (bif bif bif bif bif bif bif y6 then y7 else false then y8 else false then y9 else false then y10 else false then y11 else false then y12 else false then y13 else false) (Zb n ([64,105,109,112,111,114,116,32,39,120,39,59,64,120,123,97,123,125,125,98,123,125],[(1:UInt8)])) (default:Bool)) fun y14=>
 zb (zC (bif bif bif bif bif bif bif bif y6 then y7 else false then y8 else false then y9 else false then y10 else false then y11 else false then y12 else false then y13 else false then y14 else false) (Zb n ([97,123,125,125,98,123,125],[(1:UInt8)])) (default:Bool)) fun y15=>
 zb (zC (bif bif bif bif bif bif bif bif bif y6 then y7 else false then y8 else false then y9 else false then y10 else false then y11 else false then y12 else false then y13 else false then y14 else false then y15 else false) (Zb n ([64,109,101,100,105,97,123,45,45,62,32,97,123,125,98,123,125,125],[(2:UInt8)])) (default:Bool)) fun y16=>
 zb (zC (bif bif bif bif bif bif bif bif bif bif y6 then y7 else false then y8 else false then y9 else false then y10 else false then y11 else false then y12 else false then y13 else false then y14 else false then y15 else false then y16 else false) (Zb n ([64,109,101,100,105,97,123,64,120,59,97,123,125,125],[(2:UInt8)])) (default:Bool)) fun y17=>
 zb (zC (bif bif bif bif bif bif bif bif bif bif bif y6 then y7 else false then y8 else false then y9 else false then y10 else false then y11 else false then y12 else false then y13 else false then y14 else false then y15 else false then y16 else false then y17 else false) (Zb n ([64,99,104,97,114,115,101,116,32,34,120,34,32,97,123,125,98,123,125],[(1:UInt8)])) (default:Bool)) fun y18=>
 zb (ZU n [64,109,101,100,105,97,123,45,45,62,32,97,123,125,98,123,125,125]) fun y19=>
 zb (ZU n [64,109,101,100,105,97,123,64,120,59,97,123,125,64,108,97,121,101,114,32,98,59,99,125]) fun y20=>
 zb (zC (!(bif bif bif y19.2 != 0 then true else y20.2 != 0 then true else(y19.1.rules.length:Int) != 1 then true else(y20.1.rules.length:Int) != 1)) (geti y19.1.rules 0) (default:zL)) fun y21=>
 zb (zC (!(bif bif bif bif y19.2 != 0 then true else y20.2 != 0 then true else(y19.1.rules.length:Int) != 1 then true else(y20.1.rules.length:Int) != 1 then true else(y21.rules.length:Int) != 1)) (geti y20.1.rules 0) (default:zL)) fun y22=>
 bif bif bif bif bif bif y19.2 != 0 then true else y20.2 != 0 then true else(y19.1.rules.length:Int) != 1 then true else(y20.1.rules.length:Int) != 1 then true else(y21.rules.length:Int) != 1 then true else(y22.rules.length:Int) != 2 then
  some false
 else
  ZI n (fun(s23:Str×Str×Int)=>
    bif decide (s23.2.2<65)then
     need (Bd s23.1.length ([97,123,125]:Str).length)<|
     need (Bd s23.2.1.length ([64,108,97,121,101,114,123]:Str).length)<|
     some (LO.again (s23.1++([97,123,125]:Str),s23.2.1++([64,108,97,121,101,114,123]:Str),w64 (s23.2.2+1)))
    else
     some (LO.out (s23.1,s23.2.1)):Str×Str×Int->Option (LO (Str×Str×Int) (Str×Str) _)) ([],[],0) fun o24=>
  zb (ZU n o24.1) fun y25=>
  zb (jq n y25.1) fun y26=>
  need (decide (119<=(o24.2.length:Int)))<|
  zb (ZU n (List.take 119 o24.2)) fun y27=>
  need (decide (105<=(o24.2.length:Int)))<|
  need (Bd (List.take 105 o24.2).length ([97,123,98,58,99]:Str).length)<|
  zb (ZU n (List.take 105 o24.2++([97,123,98,58,99]:Str))) fun y28=>
  zb (jq n y28.1) fun y29=>
  need (decide (120<=(o24.1.length:Int)))<|
  need (Bd ([64,108,97,121,101,114,123]:Str).length (List.take 120 o24.1).length)<|
  need (Bd (([64,108,97,121,101,114,123]:Str)++List.take 120 o24.1).length ([125]:Str).length)<|
  need (decide (120<=(o24.1.length:Int)))<|
  need (Bd (([64,108,97,121,101,114,123]:Str)++List.take 120 o24.1++([125]:Str)).length (List.take 120 o24.1).length)<|
  zb (ZU n (([64,108,97,121,101,114,123]:Str)++List.take 120 o24.1++([125]:Str)++List.take 120 o24.1)) fun y30=>
  zb (ZU n (List.replicate (Int.toNat 4001) (0:UInt8))) fun y31=>
  zb (QB n [97,123,125,98,123,125]) fun y32=>
  zb (QB n [97,123,125,32,120]) fun y33=>
  zb (QB n [32,97,123,98,58,99,125,60,33,45,45,32]) fun y34=>
  zb (QB n [64,120,59]) fun y35=>
  zb (QB n []) fun y36=>
  zb (QB n [40,40,40,40,40,40,40,40,40,40,40,40,40,40,40,40,40,40]) fun y37=>
  zb (zC (!((y30.1.rules.length:Int) != 24)) (geti y30.1.rules 0) (default:zL)) fun y38=>
  bif bif (y30.1.rules.length:Int) != 24 then true else(y38.rules.length:Int) != 40 then
   some false
  else
   need (Zi 1 y25.1.rules.length 208)<|
   zb (zC (bif bif bif bif bif bif bif bif bif bif bif bif bif bif bif bif bif bif bif bif bif y1 then y2 else false then y3 else false then y4 else false then y5 else false then bif bif bif bif bif bif bif bif bif bif bif bif y6 then y7 else false then y8 else false then y9 else false then y10 else false then y11 else false then y12 else false then y13 else false then y14 else false then y15 else false then y16 else false then y17 else false then y18 else false else false then y25.2==0 else false then y26.2==0 else false then y26.1==64 else false then y27.2==20 else false then y28.2==0 else false then y29.2==0 else false then y29.1==16 else false then y30.2==0 else false then y31.2==28 else false then y32.2==12 else false then y33.2==12 else false then y34.2==0 else false then y34.1.kind==1 else false then y35.2==12 else false then y36.2==12 else false then y37.2==20 else false) (Om n (⟨[(⟨4,[],[],(⟨0,[],0,(⟨[],[],false⟩:zV),[]⟩:zt),[],[]⟩:zL)]++y25.1.rules⟩:Qi)) (default:Int)) fun y39=>
   zb (zC (bif bif bif bif bif bif bif bif bif bif bif bif bif bif bif bif bif bif bif bif bif bif y1 then y2 else false then y3 else false then y4 else false then y5 else false then bif bif bif bif bif bif bif bif bif bif bif bif y6 then y7 else false then y8 else false then y9 else false then y10 else false then y11 else false then y12 else false then y13 else false then y14 else false then y15 else false then y16 else false then y17 else false then y18 else false else false then y25.2==0 else false then y26.2==0 else false then y26.1==64 else false then y27.2==20 else false then y28.2==0 else false then y29.2==0 else false then y29.1==16 else false then y30.2==0 else false then y31.2==28 else false then y32.2==12 else false then y33.2==12 else false then y34.2==0 else false then y34.1.kind==1 else false then y35.2==12 else false then y36.2==12 else false then y37.2==20 else false then y39==8 else false) (Ex n ()) (default:Bool)) fun y40=>
   some (bif bif bif bif bif bif bif bif bif bif bif bif bif bif bif bif bif bif bif bif bif bif bif y1 then y2 else false then y3 else false then y4 else false then y5 else false then bif bif bif bif bif bif bif bif bif bif bif bif y6 then y7 else false then y8 else false then y9 else false then y10 else false then y11 else false then y12 else false then y13 else false then y14 else false then y15 else false then y16 else false then y17 else false then y18 else false else false then y25.2==0 else false then y26.2==0 else false then y26.1==64 else false then y27.2==20 else false then y28.2==0 else false then y29.2==0 else false then y29.1==16 else false then y30.2==0 else false then y31.2==28 else false then y32.2==12 else false then y33.2==12 else false then y34.2==0 else false then y34.1.kind==1 else false then y35.2==12 else false then y36.2==12 else false then y37.2==20 else false then y39==8 else false then y40 else false)
theorem xQ(n:Nat)(x:Unit):Le (vG n x) (uq x):=by unfold vG uq;exact(.bind (Zc n _) fun _=>(.bind (.cond (Zc n _)) fun _=>(.bind (.cond (Zc n _)) fun _=>(.bind (.cond (Zc n _)) fun _=>(.bind (.cond (Zc n _)) fun _=>(.bind (Zc n _) fun _=>(.bind (.cond (Zc n _)) fun _=>(.bind (.cond (Zc n _)) fun _=>(.bind (.cond (Zc n _)) fun _=>(.bind (.cond (Zc n _)) fun _=>(.bind (.cond (Zc n _)) fun _=>(.bind (.cond (Zc n _)) fun _=>(.bind (.cond (Zc n _)) fun _=>(.bind (.cond (Zc n _)) fun _=>(.bind (.cond (Zc n _)) fun _=>(.bind (.cond (Zc n _)) fun _=>(.bind (.cond (Zc n _)) fun _=>(.bind (.cond (Zc n _)) fun _=>(.bind (qx n _) fun _=>(.bind (qx n _) fun _=>(.bind .rfl fun _=>(.bind .rfl fun _=>(.bif .rfl (.loop (fun _=>(.bif (.need (.need .rfl)) .rfl)) fun _=>(.bind (qx n _) fun _=>(.bind (iF n _) fun _=>(.need (.bind (qx n _) fun _=>(.need (.need (.bind (qx n _) fun _=>(.bind (iF n _) fun _=>(.need (.need (.need (.need (.need (.bind (qx n _) fun _=>(.bind (qx n _) fun _=>(.bind (Bj n _) fun _=>(.bind (Bj n _) fun _=>(.bind (Bj n _) fun _=>(.bind (Bj n _) fun _=>(.bind (Bj n _) fun _=>(.bind (Bj n _) fun _=>(.bind .rfl fun _=>(.bif .rfl (.need (.bind (.cond (Ey n _)) fun _=>(.bind (.cond (eO n _)) fun _=> .rfl))))))))))))))))))))))))))))))))))))))))))))))))))
end
end Go.Lv.VT
