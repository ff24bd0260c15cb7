/- Laws for the plain texts: loops that look for something; bytes. -/
import Derived.Test.YtcdeccnjlkkejaaGreatDoorLf
import Derived.Test.YtcdeccnjlkkejaaGreatDoorTx
set_option linter.unusedSimpArgs false
set_option linter.unusedVariables false
namespace Go.Lv.VT
abbrev big:Nat:=4194304
theorem Ui{i n:Nat}(h:i<n):decide ((i:Int)<(n:Int))=true:=Od (by omega)
theorem FB(n:Nat):decide ((n:Int)<(n:Int))=false:=decide_eq_false (by omega)
theorem oh{i n:Nat}(h:i<n)(hn:n<=big):w64 ((i:Int)+1)=((i+1:Nat):Int):=by rw[w64,Sj (by omega) (by unfold big at hn;omega)];omega
def idxS{α:Type}(p:α->Bool):List α->Int
 |[]=> -1
 |v::l=>bif p v then 0 else bif decide (idxS p l<0)then -1 else idxS p l+1
noncomputable section
set_option maxRecDepth 100000
def ZB(n:Nat)(x:za):Option za:=
 Bf n (fun(s1:za)=>
   need (decide (0<=s1.at_)&&decide (s1.at_<=(s1.s.length:Int)))<|
   ze (strings_HasPrefix (List.drop s1.at_.toNat s1.s,[47,42])) fun y2=>
   bif y2 then
    need (decide (0<=w64 (s1.at_+2))&&decide (w64 (s1.at_+2)<=(s1.s.length:Int)))<|
    ze (Kj (List.drop (w64 (s1.at_+2)).toNat s1.s,[42,47])) fun y3=>
    bif decide (y3<0)then
     some (LO.ret (⟨s1.s,(s1.s.length:Int)⟩:za))
    else
     some (LO.again (⟨s1.s,w64 (s1.at_+w64 (y3+4))⟩:za))
   else
    some (LO.out s1):za->Option (LO (za) (za) _)) x fun o4=>
 some o4
theorem QE(n:Nat)(x:za):Le (ZB n x) (Zf x):=by unfold ZB Zf;exact(.loop (fun _=>(.need (.bind .rfl fun _=>(.bif (.need (.bind .rfl fun _=>(.bif .rfl .rfl))) .rfl)))) fun _=> .rfl)
def Zk(n:Nat)(x:za):Option za:=
 Bf n (fun(s1:za)=>
   ze (zb (0,s1)) fun y2=>
   ze (Zb y2) fun y3=>
   bif y3 then
    some (LO.again (⟨s1.s,w64 (s1.at_+1)⟩:za))
   else
    some (LO.out s1):za->Option (LO (za) (za) _)) x fun o4=>
 some o4
theorem ZU(n:Nat)(x:za):Le (Zk n x) (zG x):=by unfold Zk zG;exact(.loop (fun _=>(.bind .rfl fun _=>(.bind .rfl fun _=>(.bif .rfl .rfl)))) fun _=> .rfl)
def qh(n:Nat)(x:za):Option (za×List UInt8):=
 ze (zb (0,(⟨x.s,w64 (x.at_+1)⟩:za))) fun y1=>
 bif y1==(-1)then
  ze (ZL 65533) fun y2=>
  some ((⟨x.s,w64 (x.at_+1)⟩:za),y2)
 else
  ze (Qj y1) fun y3=>
  bif decide (y3<0)then
   ze (ZZ (wu8 y1)) fun y4=>
   need (zC 0 1 1)<|
   some ((⟨x.s,w64 (w64 (x.at_+1)+1)⟩:za),[y4])
  else
   Bf n (fun(s5:(Int×Int)×za)=>
     bif decide (s5.1.2<6)then
      ze (zb (0,s5.2)) fun y6=>
      ze (Qj y6) fun y7=>
      bif decide (y7<0)then
       some (LO.out (s5.1.1,s5.2))
      else
       some (LO.again ((ibOr IntKind.i64 (Kq IntKind.i64 s5.1.1 4) y7,w64 (s5.1.2+1)),(⟨s5.2.s,w64 (s5.2.at_+1)⟩:za)))
     else
      some (LO.out (s5.1.1,s5.2)):(Int×Int)×za->Option (LO ((Int×Int)×za) (Int×za) _)) ((0,0),(⟨x.s,w64 (x.at_+1)⟩:za)) fun o8=>
   zT (X:=Int×za) (
     ze (zb (0,o8.2)) fun y9=>
     ze (Zb y9) fun y10=>
     bif y10 then
      some (LX.out (o8.1,(⟨o8.2.s,w64 (o8.2.at_+1)⟩:za)))
     else
      some (LX.out (o8.1,o8.2))) fun j11=>
   zT (X:=Int) (
     bif j11.1==0 then
      some (LX.out 65533)
     else
      some (LX.out j11.1)) fun j12=>
   ze (ZL (w32 j12)) fun y13=>
   some (j11.2,y13)
theorem rR(n:Nat)(x:za):Le (qh n x) (Zo x):=by unfold qh Zo;exact(.bind .rfl fun _=>(.bif (.bind .rfl fun _=> .rfl) (.bind .rfl fun _=>(.bif (.bind .rfl fun _=>(.need .rfl)) (.loop (fun _=>(.bif (.bind .rfl fun _=>(.bind .rfl fun _=>(.bif .rfl .rfl))) .rfl)) fun _=>(.join (.bind .rfl fun _=>(.bind .rfl fun _=>(.bif .rfl .rfl))) fun _=>(.join (.bif .rfl .rfl) fun _=>(.bind .rfl fun _=> .rfl))))))))
def Zg(n:Nat)(x:za×List UInt8):Option (za×List UInt8):=
 ze (zb (0,(⟨x.1.s,w64 (x.1.at_+1)⟩:za))) fun y1=>
 bif y1==(-1)then
  ze (ZM (65533,x.2)) fun y2=>
  some ((⟨x.1.s,w64 (x.1.at_+1)⟩:za),y2)
 else
  ze (Qj y1) fun y3=>
  bif decide (y3<0)then
   ze (ZZ (wu8 y1)) fun y4=>
   need (zC x.2.length 1 1)<|
   some ((⟨x.1.s,w64 (w64 (x.1.at_+1)+1)⟩:za),x.2++[y4])
  else
   Bf n (fun(s5:(Int×Int)×za)=>
     bif decide (s5.1.2<6)then
      ze (zb (0,s5.2)) fun y6=>
      ze (Qj y6) fun y7=>
      bif decide (y7<0)then
       some (LO.out (s5.1.1,s5.2))
      else
       some (LO.again ((ibOr IntKind.i64 (Kq IntKind.i64 s5.1.1 4) y7,w64 (s5.1.2+1)),(⟨s5.2.s,w64 (s5.2.at_+1)⟩:za)))
     else
      some (LO.out (s5.1.1,s5.2)):(Int×Int)×za->Option (LO ((Int×Int)×za) (Int×za) _)) ((0,0),(⟨x.1.s,w64 (x.1.at_+1)⟩:za)) fun o8=>
   zT (X:=Int×za×List UInt8) (
     ze (zb (0,o8.2)) fun y9=>
     ze (Zb y9) fun y10=>
     bif y10 then
      some (LX.out (o8.1,(⟨o8.2.s,w64 (o8.2.at_+1)⟩:za),x.2))
     else
      some (LX.out (o8.1,o8.2,x.2))) fun j11=>
   zT (X:=Int×List UInt8) (
     bif j11.1==0 then
      some (LX.out (65533,j11.2.2))
     else
      some (LX.out (j11.1,j11.2.2))) fun j12=>
   ze (ZM (w32 j12.1,j12.2)) fun y13=>
   some (j11.2.1,y13)
theorem ZW(n:Nat)(x:za×List UInt8):Le (Zg n x) (zz x):=by unfold Zg zz;exact(.bind .rfl fun _=>(.bif (.bind .rfl fun _=> .rfl) (.bind .rfl fun _=>(.bif (.bind .rfl fun _=>(.need .rfl)) (.loop (fun _=>(.bif (.bind .rfl fun _=>(.bind .rfl fun _=>(.bif .rfl .rfl))) .rfl)) fun _=>(.join (.bind .rfl fun _=>(.bind .rfl fun _=>(.bif .rfl .rfl))) fun _=>(.join (.bif .rfl .rfl) fun _=>(.bind .rfl fun _=> .rfl))))))))
def qZ(n:Nat)(x:za):Option (zf×za):=
 ze (zb (0,x)) fun y1=>
 Bf n (fun(s2:za×zf×List UInt8)=>
   ze (zb (0,s2.1)) fun y3=>
   bif y3==(-1)then
    some (LO.out (s2.1,s2.2.1,s2.2.2))
   else
    bif y3==y1 then
     some (LO.out ((⟨s2.1.s,w64 (s2.1.at_+1)⟩:za),s2.2.1,s2.2.2))
    else
     bif y3==10 then
      some (LO.ret ((⟨6,[],0,[],false⟩:zf),s2.1))
     else
      ze (zY (y3==92) (zb (1,s2.1)) (default:Int)) fun y4=>
      ze (zY (!(y4==(-1))&&y3==92) (zb (1,s2.1)) (default:Int)) fun y5=>
      bif bif y3==92 then bif y4==(-1)then true else y5==10 else false then
       some (LO.again ((⟨s2.1.s,if(s2.1.s.length:Int)<w64 (s2.1.at_+2)then(s2.1.s.length:Int)else w64 (s2.1.at_+2)⟩:za),s2.2.1,s2.2.2))
      else
       bif y3==92 then
        ze (Zg n (s2.1,s2.2.2)) fun y6=>
        some (LO.again (y6.1,s2.2.1,y6.2))
       else
        ze (ZZ (wu8 y3)) fun y7=>
        need (zC s2.2.2.length 1 1)<|
        some (LO.again ((⟨s2.1.s,w64 (s2.1.at_+1)⟩:za),s2.2.1,s2.2.2++[y7])):za×zf×List UInt8->Option (LO (za×zf×List UInt8) (za×zf×List UInt8) _)) ((⟨x.s,w64 (x.at_+1)⟩:za),(⟨0,[],0,[],false⟩:zf),[]) fun o8=>
 some ((⟨5,o8.2.2,0,[],false⟩:zf),o8.1)
theorem XR(n:Nat)(x:za):Le (qZ n x) (ZH x):=by unfold qZ ZH;exact(.bind .rfl fun _=>(.loop (fun _=>(.bind .rfl fun _=>(.bif .rfl (.bif .rfl (.bif .rfl (.bind .rfl fun _=>(.bind .rfl fun _=>(.bif .rfl (.bif (.bind (ZW n _) fun _=> .rfl) (.bind .rfl fun _=>(.need .rfl))))))))))) fun _=> .rfl))
def Zq(n:Nat)(x:za):Option (Str×za):=
 Bf n (fun(s1:za×List UInt8)=>
   ze (zb (0,s1.1)) fun y2=>
   ze (Qk y2) fun y3=>
   bif y3 then
    ze (ZZ (wu8 y2)) fun y4=>
    need (zC s1.2.length 1 1)<|
    some (LO.again ((⟨s1.1.s,w64 (s1.1.at_+1)⟩:za),s1.2++[y4]))
   else
    ze (zY (y2 != (-1)) (zo (0,s1.1)) (default:Bool)) fun y5=>
    bif bif y2 != (-1)then y5 else false then
     ze (Zg n (s1.1,s1.2)) fun y6=>
     some (LO.again (y6.1,y6.2))
    else
     some (LO.ret (s1.2,s1.1)):za×List UInt8->Option (LO (za×List UInt8) (Unit) _)) (x,[]) fun o7=>
 none
theorem Z6(n:Nat)(x:za):Le (Zq n x) (zK x):=by unfold Zq zK;exact(.loop (fun _=>(.bind .rfl fun _=>(.bind .rfl fun _=>(.bif (.bind .rfl fun _=>(.need .rfl)) (.bind .rfl fun _=>(.bif (.bind (ZW n _) fun _=> .rfl) .rfl)))))) fun _=> .none)
def Zp(n:Nat)(x:za):Option za:=
 Bf n (fun(s1:za)=>
   ze (zb (0,s1)) fun y2=>
   ze (Zi y2) fun y3=>
   bif y3 then
    some (LO.again (⟨s1.s,w64 (s1.at_+1)⟩:za))
   else
    some (LO.out s1):za->Option (LO (za) (za) _)) x fun o4=>
 some o4
theorem qx(n:Nat)(x:za):Le (Zp n x) (zV x):=by unfold Zp zV;exact(.loop (fun _=>(.bind .rfl fun _=>(.bind .rfl fun _=>(.bif .rfl .rfl)))) fun _=> .rfl)
def qN(n:Nat)(x:za):Option (Bool×za):=
 zT (X:=za) (
   ze (zb (0,x)) fun y1=>
   bif bif y1==43 then true else y1==45 then
    some (LX.out (⟨x.s,w64 (x.at_+1)⟩:za))
   else
    some (LX.out x)) fun j2=>
 ze (Zp n j2) fun y3=>
 zT (X:=Bool×za) (
   ze (zb (0,y3)) fun y4=>
   ze (zY (y4==46) (zb (1,y3)) (default:Int)) fun y5=>
   ze (zY (y4==46) (Zi y5) (default:Bool)) fun y6=>
   bif bif y4==46 then y6 else false then
    ze (Zp n (⟨y3.s,w64 (y3.at_+1)⟩:za)) fun y7=>
    some (LX.out (false,y7))
   else
    some (LX.out (true,y3))) fun j8=>
 zT (X:=Bool×za) (
   ze (zb (0,j8.2)) fun y9=>
   ze (zY (!(y9==101)) (zb (0,j8.2)) (default:Int)) fun y10=>
   bif bif y9==101 then true else y10==69 then
    zT (X:=(Bool×Int)×za) (
      ze (zb (1,j8.2)) fun y11=>
      bif bif y11==43 then true else y11==45 then
       some (LX.out ((j8.1,2),j8.2))
      else
       some (LX.out ((j8.1,1),j8.2))) fun j12=>
    ze (zb (j12.1.2,j12.2)) fun y13=>
    ze (Zi y13) fun y14=>
    bif y14 then
     ze (Zp n (⟨j12.2.s,w64 (j12.2.at_+j12.1.2)⟩:za)) fun y15=>
     some (LX.out (false,y15))
    else
     some (LX.out (j12.1.1,j12.2))
   else
    some (LX.out (j8.1,j8.2))) fun j16=>
 some (j16.1,j16.2)
theorem BS(n:Nat)(x:za):Le (qN n x) (Zy x):=by unfold qN Zy;exact(.join (.bind .rfl fun _=>(.bif .rfl .rfl)) fun _=>(.bind (qx n _) fun _=>(.join (.bind .rfl fun _=>(.bind .rfl fun _=>(.bind .rfl fun _=>(.bif (.bind (qx n _) fun _=> .rfl) .rfl)))) fun _=>(.join (.bind .rfl fun _=>(.bind .rfl fun _=>(.bif (.join (.bind .rfl fun _=>(.bif .rfl .rfl)) fun _=>(.bind .rfl fun _=>(.bind .rfl fun _=>(.bif (.bind (qx n _) fun _=> .rfl) .rfl)))) .rfl))) fun _=> .rfl))))
def QR(n:Nat)(x:Str):Option Int:=
 ze (geti x 0) fun y1=>
 ze (si (x,[43,45])) fun y2=>
 zT (X:=Str×Int) (
   ze (wo (y2,[101,69])) fun y3=>
   bif decide (y3>=0)then
    need (decide (0<=w64 (y3+1))&&decide (w64 (y3+1)<=(y2.length:Int)))<|
    ze (si (List.drop (w64 (y3+1)).toNat y2,[43,45])) fun y4=>
    need (decide (y4.length<=maxLen))<|
    Bf n (fun(s5:Int×Int)=>
      bif decide (s5.2<(y4.length:Int))then
       need (decide (0<=s5.2)&&decide (s5.2<(y4.length:Int)))<|
       ze y4[s5.2.toNat]? fun y6=>
       some (LO.again (if 1048576<w64 (w64 (10*s5.1)+w64 (wu8 ((y6.toNat:Int) - 48)))then 1048576 else w64 (w64 (10*s5.1)+w64 (wu8 ((y6.toNat:Int) - 48))),w64 (s5.2+1)))
      else
       some (LO.out s5.1):Int×Int->Option (LO (Int×Int) (Int) _)) (0,0) fun o7=>
    zT (X:=Str×Int×Int) (
      ze (geti y2 (w64 (y3+1))) fun y8=>
      bif (y8.toNat:Int)==45 then
       some (LX.out (y2,3,w64 (0 - o7)))
      else
       some (LX.out (y2,3,o7))) fun j9=>
    need (decide (0<=y3)&&decide (y3<=(j9.1.length:Int)))<|
    some (LX.out (List.take y3.toNat j9.1,w64 (j9.2.1+j9.2.2)))
   else
    some (LX.out (y2,3))) fun j10=>
 ze (cutF (j10.1,[46])) fun y11=>
 need (Bi y11.1.length y11.2.1.length)<|
 zT (X:=Str×Int) (
   bif decide (w64 (j10.2 - (y11.2.1.length:Int))<0)then
    need (decide (0<=(if w64 (((y11.1++y11.2.1).length:Int)+w64 (j10.2 - (y11.2.1.length:Int)))>0 then w64 (((y11.1++y11.2.1).length:Int)+w64 (j10.2 - (y11.2.1.length:Int)))else 0))&&decide ((if w64 (((y11.1++y11.2.1).length:Int)+w64 (j10.2 - (y11.2.1.length:Int)))>0 then w64 (((y11.1++y11.2.1).length:Int)+w64 (j10.2 - (y11.2.1.length:Int)))else 0)<=((y11.1++y11.2.1).length:Int)))<|
    some (LX.out (List.take (if w64 (((y11.1++y11.2.1).length:Int)+w64 (j10.2 - (y11.2.1.length:Int)))>0 then w64 (((y11.1++y11.2.1).length:Int)+w64 (j10.2 - (y11.2.1.length:Int)))else 0).toNat (y11.1++y11.2.1),w64 (j10.2 - (y11.2.1.length:Int))))
   else
    some (LX.out (y11.1++y11.2.1,w64 (j10.2 - (y11.2.1.length:Int))))) fun j12=>
 need (decide (j12.1.length<=maxLen))<|
 Bf n (fun(s13:Int×Int)=>
   bif decide (s13.2<(j12.1.length:Int))then
    need (decide (0<=s13.2)&&decide (s13.2<(j12.1.length:Int)))<|
    ze j12.1[s13.2.toNat]? fun y14=>
    some (LO.again (if 1000000000000<w64 (w64 (10*s13.1)+w64 (wu8 ((y14.toNat:Int) - 48)))then 1000000000000 else w64 (w64 (10*s13.1)+w64 (wu8 ((y14.toNat:Int) - 48))),w64 (s13.2+1)))
   else
    some (LO.out s13.1):Int×Int->Option (LO (Int×Int) (Int) _)) (0,0) fun o15=>
 Bf n (fun(s16:Int×Int)=>
   bif bif bif decide (s16.1>0)then decide (s16.2>0)else false then decide (s16.2<1000000000000)else false then
    some (LO.again (w64 (s16.1 - 1),if 1000000000000<w64 (10*s16.2)then 1000000000000 else w64 (10*s16.2)))
   else
    some (LO.out s16.2):Int×Int->Option (LO (Int×Int) (Int) _)) (j12.2,o15) fun o17=>
 zT (X:=Int) (
   bif (y1.toNat:Int)==45 then
    some (LX.out (w64 (0 - o17)))
   else
    some (LX.out o17)) fun j18=>
 some j18
theorem UR(n:Nat)(x:Str):Le (QR n x) (qD x):=by unfold QR qD;exact(.bind .rfl fun _=>(.bind .rfl fun _=>(.join (.bind .rfl fun _=>(.bif (.need (.bind .rfl fun _=>(.need (.loop (fun _=>(.bif (.need (.bind .rfl fun _=> .rfl)) .rfl)) fun _=>(.join (.bind .rfl fun _=>(.bif .rfl .rfl)) fun _=>(.need .rfl)))))) .rfl)) fun _=>(.bind .rfl fun _=>(.need (.join (.bif (.need .rfl) .rfl) fun _=>(.need (.loop (fun _=>(.bif (.need (.bind .rfl fun _=> .rfl)) .rfl)) fun _=>(.loop (fun _=>(.bif .rfl .rfl)) fun _=>(.join (.bif .rfl .rfl) fun _=> .rfl))))))))))
def qO(n:Nat)(x:za):Option (zf×za):=
 ze (qN n x) fun y1=>
 need (decide (0<=x.at_)&&(decide (x.at_<=y1.2.at_)&&decide (y1.2.at_<=(y1.2.s.length:Int))))<|
 ze (QR n (List.drop x.at_.toNat (List.take y1.2.at_.toNat y1.2.s))) fun y2=>
 zT (X:=za×zf×zf) (
   ze (zF (0,y1.2)) fun y3=>
   bif y3 then
    ze (Zq n y1.2) fun y4=>
    some (LX.out (y4.2,(⟨0,[],0,[],false⟩:zf),(⟨12,[],y2,y4.1,y1.1⟩:zf)))
   else
    ze (zb (0,y1.2)) fun y5=>
    bif y5==37 then
     some (LX.out ((⟨y1.2.s,w64 (y1.2.at_+1)⟩:za),(⟨0,[],0,[],false⟩:zf),(⟨11,[],y2,[],false⟩:zf)))
    else
     some (LX.out (y1.2,(⟨0,[],0,[],false⟩:zf),(⟨10,[],y2,[],y1.1⟩:zf)))) fun j6=>
 some (j6.2.2,j6.1)
theorem yR(n:Nat)(x:za):Le (qO n x) (Zz x):=by unfold qO Zz;exact(.bind (BS n _) fun _=>(.need (.bind (UR n _) fun _=>(.join (.bind .rfl fun _=>(.bif (.bind (Z6 n _) fun _=> .rfl) (.bind .rfl fun _=>(.bif .rfl .rfl)))) fun _=> .rfl))))
def Wu(n:Nat)(x:Str):Option Str:=
 need (decide (x.length<=maxLen))<|
 Bf n (fun(s1:Int×List UInt8)=>
   bif decide (s1.1<(x.length:Int))then
    zT (X:=Int×List UInt8) (
      need (decide (0<=s1.1)&&decide (s1.1<(s1.2.length:Int)))<|
      ze s1.2[s1.1.toNat]? fun y2=>
      bif bif decide (65<=(y2.toNat:Int))then decide ((y2.toNat:Int)<=90)else false then
       need (decide (0<=s1.1)&&decide (s1.1<(s1.2.length:Int)))<|
       ze s1.2[s1.1.toNat]? fun y3=>
       need (decide (0<=s1.1)&&decide (s1.1<(s1.2.length:Int)))<|
       ze s1.2[s1.1.toNat]? fun y4=>
       ze (ZZ (ibOr IntKind.u8 (y3.toNat:Int) 32)) fun y5=>
       some (LX.out (s1.1,List.set s1.2 s1.1.toNat y5))
      else
       some (LX.out (s1.1,s1.2))) fun j6=>
    some (LO.again (w64 (j6.1+1),j6.2))
   else
    some (LO.out s1.2):Int×List UInt8->Option (LO (Int×List UInt8) (List UInt8) _)) (0,x) fun o7=>
 some o7
theorem OG(n:Nat)(x:Str):Le (Wu n x) (il x):=by unfold Wu il;exact(.need (.loop (fun _=>(.bif (.join (.need (.bind .rfl fun _=>(.bif (.need (.bind .rfl fun _=>(.need (.bind .rfl fun _=>(.bind .rfl fun _=> .rfl))))) .rfl))) fun _=> .rfl) .rfl)) fun _=> .rfl))
def Xu(n:Nat)(x:Str×Str):Option Bool:=
 ze (Wu n x.1) fun y1=>
 ze (Wu n x.2) fun y2=>
 some (y1==y2)
theorem PG(n:Nat)(x:Str×Str):Le (Xu n x) (QO x):=by unfold Xu QO;exact(.bind (OG n _) fun _=>(.bind (OG n _) fun _=> .rfl))
def ZP(n:Nat)(x:za):Option (zf×za):=
 Bf n (fun(s1:za×zf)=>
   ze (zb (0,s1.1)) fun y2=>
   bif y2==(-1)then
    some (LO.ret ((⟨8,[],0,[],false⟩:zf),s1.1))
   else
    ze (zo (0,s1.1)) fun y3=>
    bif y3 then
     ze (qh n s1.1) fun y4=>
     some (LO.again (y4.1,s1.2))
    else
     ze (geti s1.1.s (w64 (w64 (s1.1.at_+1) - 1))) fun y5=>
     bif (y5.toNat:Int)==41 then
      some (LO.ret ((⟨8,[],0,[],false⟩:zf),(⟨s1.1.s,w64 (s1.1.at_+1)⟩:za)))
     else
      some (LO.again ((⟨s1.1.s,w64 (s1.1.at_+1)⟩:za),s1.2)):za×zf->Option (LO (za×zf) (Unit) _)) (x,(⟨0,[],0,[],false⟩:zf)) fun o6=>
 none
theorem Qx(n:Nat)(x:za):Le (ZP n x) (Zv x):=by unfold ZP Zv;exact(.loop (fun _=>(.bind .rfl fun _=>(.bif .rfl (.bind .rfl fun _=>(.bif (.bind (rR n _) fun _=> .rfl) (.bind .rfl fun _=>(.bif .rfl .rfl))))))) fun _=> .none)
def QQ(n:Nat)(x:za):Option (zf×za):=
 ze (Zk n x) fun y1=>
 Bf n (fun(s2:za×zf×List UInt8)=>
   ze (zb (0,s2.1)) fun y3=>
   zT (X:=Int×za×zf×List UInt8) (
     ze (Zb y3) fun y4=>
     bif y4 then
      ze (Zk n s2.1) fun y5=>
      ze (zb (0,y5)) fun y6=>
      bif bif y6 != 41 then y6 != (-1)else false then
       ze (ZP n y5) fun y7=>
       some (LX.ret (LO.ret (y7.1,y7.2)))
      else
       some (LX.out (y6,y5,s2.2.1,s2.2.2))
     else
      some (LX.out (y3,s2.1,s2.2.1,s2.2.2))) fun j8=>
   bif j8.1==(-1)then
    some (LO.ret ((⟨7,j8.2.2.2,0,[],false⟩:zf),j8.2.1))
   else
    bif j8.1==41 then
     some (LO.ret ((⟨7,j8.2.2.2,0,[],false⟩:zf),(⟨j8.2.1.s,w64 (j8.2.1.at_+1)⟩:za)))
    else
     ze (zY (!(bif bif bif bif j8.1==34 then true else j8.1==39 then true else j8.1==40 then true else decide (j8.1<=8)then true else j8.1==11)) (ZJ (j8.1,14,31)) (default:Bool)) fun y9=>
     bif bif bif bif bif bif bif j8.1==34 then true else j8.1==39 then true else j8.1==40 then true else decide (j8.1<=8)then true else j8.1==11 then true else y9 then true else j8.1==127 then
      ze (ZP n j8.2.1) fun y10=>
      some (LO.ret (y10.1,y10.2))
     else
      bif j8.1 != 92 then
       ze (ZZ (wu8 j8.1)) fun y11=>
       need (zC j8.2.2.2.length 1 1)<|
       some (LO.again ((⟨j8.2.1.s,w64 (j8.2.1.at_+1)⟩:za),j8.2.2.1,j8.2.2.2++[y11]))
      else
       ze (zo (0,j8.2.1)) fun y12=>
       bif y12 then
        ze (Zg n (j8.2.1,j8.2.2.2)) fun y13=>
        some (LO.again (y13.1,j8.2.2.1,y13.2))
       else
        ze (ZP n j8.2.1) fun y14=>
        some (LO.ret (y14.1,y14.2)):za×zf×List UInt8->Option (LO (za×zf×List UInt8) (Unit) _)) (y1,(⟨0,[],0,[],false⟩:zf),[]) fun o15=>
 none
theorem VR(n:Nat)(x:za):Le (QQ n x) (qC x):=by unfold QQ qC;exact(.bind (ZU n _) fun _=>(.loop (fun _=>(.bind .rfl fun _=>(.join (.bind .rfl fun _=>(.bif (.bind (ZU n _) fun _=>(.bind .rfl fun _=>(.bif (.bind (Qx n _) fun _=> .rfl) .rfl))) .rfl)) fun _=>(.bif .rfl (.bif .rfl (.bind .rfl fun _=>(.bif (.bind (Qx n _) fun _=> .rfl) (.bif (.bind .rfl fun _=>(.need .rfl)) (.bind .rfl fun _=>(.bif (.bind (ZW n _) fun _=> .rfl) (.bind (Qx n _) fun _=> .rfl))))))))))) fun _=> .none))
def Ql(n:Nat)(x:za):Option (zf×za):=
 ze (Zq n x) fun y1=>
 ze (zb (0,y1.2)) fun y2=>
 bif y2 != 40 then
  some ((⟨1,y1.1,0,[],false⟩:zf),y1.2)
 else
  zT (X:=za×zf) (
    ze (Xu n (y1.1,[117,114,108])) fun y3=>
    bif y3 then
     ze (Zk n (⟨y1.2.s,w64 (y1.2.at_+1)⟩:za)) fun y4=>
     ze (zb (0,y4)) fun y5=>
     bif bif y5 != 34 then y5 != 39 else false then
      ze (QQ n (⟨y1.2.s,w64 (y1.2.at_+1)⟩:za)) fun y6=>
      some (LX.ret (y6.1,y6.2))
     else
      some (LX.out ((⟨y1.2.s,w64 (y1.2.at_+1)⟩:za),(⟨0,[],0,[],false⟩:zf)))
    else
     some (LX.out ((⟨y1.2.s,w64 (y1.2.at_+1)⟩:za),(⟨0,[],0,[],false⟩:zf)))) fun j7=>
  some ((⟨2,y1.1,0,[],false⟩:zf),j7.1)
theorem dR(n:Nat)(x:za):Le (Ql n x) (ZQ x):=by unfold Ql ZQ;exact(.bind (Z6 n _) fun _=>(.bind .rfl fun _=>(.bif .rfl (.join (.bind (PG n _) fun _=>(.bif (.bind (ZU n _) fun _=>(.bind .rfl fun _=>(.bif (.bind (VR n _) fun _=> .rfl) .rfl))) .rfl)) fun _=> .rfl))))
def QB(n:Nat)(x:za):Option (zf×za):=
 ze (zb (0,x)) fun y1=>
 need (decide (0<=x.at_)&&decide (x.at_<=(x.s.length:Int)))<|
 ze (Zb y1) fun y2=>
 bif y2 then
  ze (Zk n x) fun y3=>
  some ((⟨13,[],0,[],false⟩:zf),y3)
 else
  bif bif y1==34 then true else y1==39 then
   ze (qZ n x) fun y4=>
   some (y4.1,y4.2)
  else
   ze (zY (y1==35) (zb (1,x)) (default:Int)) fun y5=>
   ze (zY (y1==35) (Qk y5) (default:Bool)) fun y6=>
   ze (zY (!y6&&y1==35) (zo (1,x)) (default:Bool)) fun y7=>
   bif bif y1==35 then bif y6 then true else y7 else false then
    ze (zF (1,x)) fun y8=>
    ze (Zq n (⟨x.s,w64 (x.at_+1)⟩:za)) fun y9=>
    some ((⟨4,y9.1,0,[],y8⟩:zf),y9.2)
   else
    ze (qm x) fun y10=>
    bif y10 then
     ze (qO n x) fun y11=>
     some (y11.1,y11.2)
    else
     ze (strings_HasPrefix (List.drop x.at_.toNat x.s,[45,45,62])) fun y12=>
     bif y12 then
      some ((⟨15,[],0,[],false⟩:zf),(⟨x.s,w64 (x.at_+3)⟩:za))
     else
      ze (strings_HasPrefix (List.drop x.at_.toNat x.s,[60,33,45,45])) fun y13=>
      bif y13 then
       some ((⟨14,[],0,[],false⟩:zf),(⟨x.s,w64 (x.at_+4)⟩:za))
      else
       ze (zY (y1==64) (zF (1,x)) (default:Bool)) fun y14=>
       bif bif y1==64 then y14 else false then
        ze (Zq n (⟨x.s,w64 (x.at_+1)⟩:za)) fun y15=>
        some ((⟨3,y15.1,0,[],false⟩:zf),y15.2)
       else
        ze (zF (0,x)) fun y16=>
        bif y16 then
         ze (Ql n x) fun y17=>
         some (y17.1,y17.2)
        else
         ze (strings_IndexByte ([58,59,44,91,93,40,41,123,125],wu8 y1)) fun y18=>
         bif decide (y18>=0)then
          some ((⟨wu8 (16+wu8 y18),[],0,[],false⟩:zf),(⟨x.s,w64 (x.at_+1)⟩:za))
         else
          need (decide (1<=((List.drop x.at_.toNat x.s).length:Int)))<|
          some ((⟨9,List.take 1 (List.drop x.at_.toNat x.s),0,[],false⟩:zf),(⟨x.s,w64 (x.at_+1)⟩:za))
theorem nR(n:Nat)(x:za):Le (QB n x) (qb x):=by unfold QB qb;exact(.bind .rfl fun _=>(.need (.bind .rfl fun _=>(.bif (.bind (ZU n _) fun _=> .rfl) (.bif (.bind (XR n _) fun _=> .rfl) (.bind .rfl fun _=>(.bind .rfl fun _=>(.bind .rfl fun _=>(.bif (.bind .rfl fun _=>(.bind (Z6 n _) fun _=> .rfl)) (.bind .rfl fun _=>(.bif (.bind (yR n _) fun _=> .rfl) (.bind .rfl fun _=>(.bif .rfl (.bind .rfl fun _=>(.bif .rfl (.bind .rfl fun _=>(.bif (.bind (Z6 n _) fun _=> .rfl) (.bind .rfl fun _=>(.bif (.bind (dR n _) fun _=> .rfl) (.bind .rfl fun _=>(.bif .rfl (.need .rfl))))))))))))))))))))))
def kz(n:Nat)(x:Str):Option (Int×List zf):=
 ze (Pk x) fun y1=>
 bif y1.2 != 0 then
  some (y1.2,[])
 else
  ze (ZB n (⟨y1.1,0⟩:za)) fun y2=>
  Bf n (fun(s3:Int×List zf×za)=>
    bif decide (s3.2.2.at_<(y1.1.length:Int))then
     bif decide (w64 (s3.1+1)>1500)then
      some (LO.ret (4,s3.2.1))
     else
      ze (QB n s3.2.2) fun y4=>
      ze (QN ((y4.1,s3.2.2.at_,y4.2.at_),s3.2.1)) fun y5=>
      ze (ZB n y4.2) fun y6=>
      some (LO.again (w64 (s3.1+1),y5,y6))
    else
     some (LO.out (s3.2.1,s3.2.2)):Int×List zf×za->Option (LO (Int×List zf×za) (List zf×za) _)) (0,[],y2) fun o7=>
  some (0,o7.1)
theorem kQ(n:Nat)(x:Str):Le (kz n x) (Yp x):=by unfold kz Yp;exact(.bind .rfl fun _=>(.bif .rfl (.bind (QE n _) fun _=>(.loop (fun _=>(.bif (.bif .rfl (.bind (nR n _) fun _=>(.bind .rfl fun _=>(.bind (QE n _) fun _=> .rfl)))) .rfl)) fun _=> .rfl))))
def QL(n:Nat)(x:Str):Option (List zf×Int):=
 ze (kz n x) fun y1=>
 bif y1.1 != 0 then
  some ([],y1.1)
 else
  some (y1.2,0)
theorem cz(n:Nat)(x:Str):Le (QL n x) (qa x):=by unfold QL qa;exact(.bind (kQ n _) fun _=>(.bif .rfl .rfl))
def Gz(n:Nat)(Zr:List zg×Int->Option zl)(x:List zg×Int):Option zl:=
 Bf n (fun(s1:Int×zl)=>
   bif decide (s1.1<(x.1.length:Int))then
    zT (X:=Int×zl) (
      ze (geti x.1 s1.1) fun y2=>
      ze (Zh y2.token.kind) fun y3=>
      zT (X:=zl) (
        bif bif bif x.2 != 0 then y2.token.kind==x.2 else false then true else bif y3==0 then decide ((y2.list.length:Int)>0)else false then
         some (LX.out (⟨s1.2.depth,w64 (s1.2.tokens+1),true⟩:zl))
        else
         some (LX.out (⟨s1.2.depth,w64 (s1.2.tokens+1),s1.2.bad⟩:zl))) fun j4=>
      bif y3==0 then
       some (LX.out (s1.1,j4))
      else
       ze (Zr (y2.list,y3)) fun y5=>
       some (LX.out (s1.1,(⟨if w64 (y5.depth+1)>j4.depth then w64 (y5.depth+1)else j4.depth,w64 (w64 (j4.tokens+y5.tokens)+1),bif j4.bad then true else y5.bad⟩:zl)))) fun j6=>
    some (LO.again (w64 (j6.1+1),j6.2))
   else
    some (LO.out s1.2):Int×zl->Option (LO (Int×zl) (zl) _)) (0,(⟨0,0,false⟩:zl)) fun o7=>
 some o7
def ky(n:Nat):List zg×Int->Option zl:=Tg (Gz n) n
theorem vP(n:Nat)(Zr nest_look':List zg×Int->Option zl)(h_nest_look: ∀z,Le (Zr z) (nest_look' z))(x:List zg×Int):Le (Gz n Zr x) (Wl nest_look' x):=by unfold Gz Wl;exact(.loop (fun _=>(.bif (.join (.bind .rfl fun _=>(.bind .rfl fun _=>(.join (.bif .rfl .rfl) fun _=>(.bif .rfl (.bind (h_nest_look _) fun _=> .rfl))))) fun _=> .rfl) .rfl)) fun _=> .rfl)
theorem NF(n:Nat)(x:List zg×Int):Le (ky n x) (Zr x):=Le.rec (fun S S' h x=>vP n S S' h x) n x
def Ku(n:Nat)(x:List zg):Option Int:=
 ze (ky n (x,0)) fun y1=>
 bif decide (y1.depth>16)then
  some 20
 else
  bif decide (y1.tokens>1500)then
   some 4
  else
   bif y1.bad then
    some 8
   else
    some 0
theorem wF(n:Nat)(x:List zg):Le (Ku n x) (zH x):=by unfold Ku zH;exact(.bind (NF n _) fun _=>(.bif .rfl (.bif .rfl (.bif .rfl .rfl))))
def bz(n:Nat)(Za:List zg×List zf->Option (List zf))(x:List zg×List zf):Option (List zf):=
 Bf n (fun(s1:Int×List zf)=>
   bif decide (s1.1<(x.1.length:Int))then
    zT (X:=Int×List zf) (
      ze (geti x.1 s1.1) fun y2=>
      need (zC s1.2.length 1 56)<|
      ze (Zh y2.token.kind) fun y3=>
      bif y3 != 0 then
       ze (Za (y2.list,s1.2++[y2.token])) fun y4=>
       need (zC y4.length 1 56)<|
       some (LX.out (s1.1,y4++[(⟨y3,[],0,[],false⟩:zf)]))
      else
       some (LX.out (s1.1,s1.2++[y2.token]))) fun j5=>
    some (LO.again (w64 (j5.1+1),j5.2))
   else
    some (LO.out s1.2):Int×List zf->Option (LO (Int×List zf) (List zf) _)) (0,x.2) fun o6=>
 some o6
def sF(n:Nat):List zg×List zf->Option (List zf):=Tg (bz n) n
theorem lQ(n:Nat)(Za nest_flat_3':List zg×List zf->Option (List zf))(h_nest_flat_3: ∀z,Le (Za z) (nest_flat_3' z))(x:List zg×List zf):Le (bz n Za x) (Qp nest_flat_3' x):=by unfold bz Qp;exact(.loop (fun _=>(.bif (.join (.bind .rfl fun _=>(.need (.bind .rfl fun _=>(.bif (.bind (h_nest_flat_3 _) fun _=>(.need .rfl)) .rfl)))) fun _=> .rfl) .rfl)) fun _=> .rfl)
theorem aQ(n:Nat)(x:List zg×List zf):Le (sF n x) (Za x):=Le.rec (fun S S' h x=>lQ n S S' h x) n x
def Hz(n:Nat)(x:List zg):Option (List zf):=
 Bf n (fun(s1:Int×List zf)=>
   bif decide (s1.1<(x.length:Int))then
    zT (X:=Int×List zf) (
      ze (geti x s1.1) fun y2=>
      need (zC s1.2.length 1 56)<|
      ze (Zh y2.token.kind) fun y3=>
      bif y3 != 0 then
       ze (sF n (y2.list,s1.2++[y2.token])) fun y4=>
       need (zC y4.length 1 56)<|
       some (LX.out (s1.1,y4++[(⟨y3,[],0,[],false⟩:zf)]))
      else
       some (LX.out (s1.1,s1.2++[y2.token]))) fun j5=>
    some (LO.again (w64 (j5.1+1),j5.2))
   else
    some (LO.out s1.2):Int×List zf->Option (LO (Int×List zf) (List zf) _)) (0,[]) fun o6=>
 some o6
theorem bQ(n:Nat)(x:List zg):Le (Hz n x) (qg x):=by unfold Hz qg;exact(.loop (fun _=>(.bif (.join (.bind .rfl fun _=>(.need (.bind .rfl fun _=>(.bif (.bind (aQ n _) fun _=>(.need .rfl)) .rfl)))) fun _=> .rfl) .rfl)) fun _=> .rfl)
def Lu(n:Nat)(x:List zf):Option Int:=
 ze (geti x 0) fun y1=>
 bif bif y1.kind==9 then y1.text==[92]else false then
  ze (qF ((1,13),x)) fun y2=>
  bif !y2 then
   some 0
  else
   some 2
 else
  ze (zY (y1.kind==2) (Xu n (y1.text,[117,114,108])) (default:Bool)) fun y3=>
  bif bif y1.kind==2 then y3 else false then
   zT (X:=Int) (
     ze (qF ((1,13),x)) fun y4=>
     bif y4 then
      some (LX.out 2)
     else
      some (LX.out 1)) fun j5=>
   ze (qF ((j5,5),x)) fun y6=>
   bif !y6 then
    some 0
   else
    some (w64 (j5+1))
  else
   some 1
theorem yF(n:Nat)(x:List zf):Le (Lu n x) (Wj x):=by unfold Lu Wj;exact(.bind .rfl fun _=>(.bif (.bind .rfl fun _=>(.bif .rfl .rfl)) (.bind (.cond (PG n _)) fun _=>(.bif (.join (.bind .rfl fun _=>(.bif .rfl .rfl)) fun _=>(.bind .rfl fun _=>(.bif .rfl .rfl))) .rfl))))
def Sz(n:Nat)(x:List zf):Option Int:=
 bif decide ((x.length:Int)>1500)then
  some 4
 else
  Bf n (fun(s1:Int)=>
    bif decide (s1<(x.length:Int))then
     ze (geti x s1) fun y2=>
     ze (Nt y2) fun y3=>
     need (decide (0<=s1)&&decide (s1<=(x.length:Int))|| !(!(!y3)))<|
     ze (zY (!(!y3)) (Lu n (List.drop s1.toNat x)) (default:Int)) fun y4=>
     bif bif !y3 then true else y4==0 then
      some (LO.ret 8)
     else
      some (LO.again (w64 (s1+1)))
    else
     some (LO.out ()):Int->Option (LO (Int) (Unit) _)) 0 fun o5=>
  some 0
theorem uP(n:Nat)(x:List zf):Le (Sz n x) (Tp x):=by unfold Sz Tp;exact(.bif .rfl (.loop (fun _=>(.bif (.bind .rfl fun _=>(.bind .rfl fun _=>(.need (.bind (.cond (yF n _)) fun _=>(.bif .rfl .rfl))))) .rfl)) fun _=> .rfl))
def Z4(n:Nat)(x:(Str×Int)×List UInt8):Option (List UInt8):=
 Bf n (fun(s1:Int×List UInt8)=>
   bif decide (s1.1<(x.1.1.length:Int))then
    zT (X:=Int×List UInt8) (
      ze (geti x.1.1 s1.1) fun y2=>
      ze (Rl (y2.toNat:Int)) fun y3=>
      ze (zY (!(decide (s1.1>=x.1.2))&&y3) (qR (y2.toNat:Int)) (default:Bool)) fun y4=>
      bif bif bif y3 then bif decide (s1.1>=x.1.2)then true else !y4 else false then bif x.1.2==0 then true else !(x.1.1==[45])else false then
       ze (ZZ (y2.toNat:Int)) fun y5=>
       need (zC s1.2.length 1 1)<|
       some (LX.out (s1.1,s1.2++[y5]))
      else
       ze (Zl ((y2.toNat:Int),s1.2)) fun y6=>
       some (LX.out (s1.1,y6))) fun j7=>
    some (LO.again (w64 (j7.1+1),j7.2))
   else
    some (LO.out s1.2):Int×List UInt8->Option (LO (Int×List UInt8) (List UInt8) _)) (0,x.2) fun o8=>
 some o8
theorem qU(n:Nat)(x:(Str×Int)×List UInt8):Le (Z4 n x) (qf x):=by unfold Z4 qf;exact(.loop (fun _=>(.bif (.join (.bind .rfl fun _=>(.bind .rfl fun _=>(.bind .rfl fun _=>(.bif (.bind .rfl fun _=>(.need .rfl)) (.bind .rfl fun _=> .rfl))))) fun _=> .rfl) .rfl)) fun _=> .rfl)
def Jz(n:Nat)(x:zf×List UInt8):Option (List UInt8):=
 bif x.1.kind==1 then
  ze (ZY x.1.text) fun y1=>
  ze (Z4 n ((x.1.text,y1),x.2)) fun y2=>
  some y2
 else
  bif x.1.kind==2 then
   ze (ZY x.1.text) fun y3=>
   ze (Z4 n ((x.1.text,y3),x.2)) fun y4=>
   need (zC y4.length 1 1)<|
   some (y4++[(40:UInt8)])
  else
   bif x.1.kind==3 then
    need (zC x.2.length 1 1)<|
    ze (ZY x.1.text) fun y5=>
    ze (Z4 n ((x.1.text,y5),x.2++[(64:UInt8)])) fun y6=>
    some y6
   else
    bif x.1.kind==4 then
     zT (X:=Int×List UInt8) (
       bif x.1.flag then
        ze (ZY x.1.text) fun y7=>
        some (LX.out (y7,x.2))
       else
        some (LX.out (0,x.2))) fun j8=>
     need (zC j8.2.length 1 1)<|
     ze (Z4 n ((x.1.text,j8.1),j8.2++[(35:UInt8)])) fun y9=>
     some y9
    else
     bif x.1.kind==5 then
      need (zC x.2.length 1 1)<|
      need (decide (x.1.text.length<=maxLen))<|
      Bf n (fun(s10:Int×List UInt8)=>
        bif decide (s10.1<(x.1.text.length:Int))then
         zT (X:=Int×List UInt8) (
           need (decide (0<=s10.1)&&decide (s10.1<(x.1.text.length:Int)))<|
           ze x.1.text[s10.1.toNat]? fun y11=>
           ze (strings_IndexByte ([10,12,13,34,92],(y11.toNat:Int))) fun y12=>
           bif decide (y12>=0)then
            ze (Zl ((y11.toNat:Int),s10.2)) fun y13=>
            some (LX.out (s10.1,y13))
           else
            ze (ZZ (y11.toNat:Int)) fun y14=>
            need (zC s10.2.length 1 1)<|
            some (LX.out (s10.1,s10.2++[y14]))) fun j15=>
         some (LO.again (w64 (j15.1+1),j15.2))
        else
         some (LO.out s10.2):Int×List UInt8->Option (LO (Int×List UInt8) (List UInt8) _)) (0,x.2++[(34:UInt8)]) fun o16=>
      need (zC o16.length 1 1)<|
      some (o16++[(34:UInt8)])
     else
      bif x.1.kind==7 then
       need (zC x.2.length ([117,114,108,40]:Str).length 1)<|
       need (decide (x.1.text.length<=maxLen))<|
       Bf n (fun(s17:Int×List UInt8)=>
         bif decide (s17.1<(x.1.text.length:Int))then
          zT (X:=Int×List UInt8) (
            need (decide (0<=s17.1)&&decide (s17.1<(x.1.text.length:Int)))<|
            ze x.1.text[s17.1.toNat]? fun y18=>
            ze (zY (!(decide ((y18.toNat:Int)<=32))) (strings_IndexByte ([34,39,40,41,92,127],(y18.toNat:Int))) (default:Int)) fun y19=>
            bif bif decide ((y18.toNat:Int)<=32)then true else decide (y19>=0)then
             ze (Zl ((y18.toNat:Int),s17.2)) fun y20=>
             some (LX.out (s17.1,y20))
            else
             ze (ZZ (y18.toNat:Int)) fun y21=>
             need (zC s17.2.length 1 1)<|
             some (LX.out (s17.1,s17.2++[y21]))) fun j22=>
          some (LO.again (w64 (j22.1+1),j22.2))
         else
          some (LO.out s17.2):Int×List UInt8->Option (LO (Int×List UInt8) (List UInt8) _)) (0,x.2++([117,114,108,40]:Str)) fun o23=>
       need (zC o23.length 1 1)<|
       some (o23++[(41:UInt8)])
      else
       bif x.1.kind==9 then
        need (zC x.2.length x.1.text.length 1)<|
        some (x.2++x.1.text)
       else
        bif x.1.kind==10 then
         ze (Z5 ((x.1.num, !x.1.flag),x.2)) fun y24=>
         some y24
        else
         bif x.1.kind==11 then
          ze (Z5 ((x.1.num,false),x.2)) fun y25=>
          need (zC y25.length 1 1)<|
          some (y25++[(37:UInt8)])
         else
          bif x.1.kind==12 then
           ze (Z5 ((x.1.num, !x.1.flag),x.2)) fun y26=>
           ze (geti x.1.unit 0) fun y27=>
           need (decide (1<=(x.1.unit.length:Int))|| !(ibOr IntKind.u8 (y27.toNat:Int) 32==101))<|
           ze (zY (ibOr IntKind.u8 (y27.toNat:Int) 32==101) (QV (List.drop 1 x.1.unit)) (default:Bool)) fun y28=>
           need (decide (1<=(x.1.unit.length:Int))|| !(bif ibOr IntKind.u8 (y27.toNat:Int) 32==101 then y28 else false))<|
           ze (zY (bif ibOr IntKind.u8 (y27.toNat:Int) 32==101 then y28 else false) (strings_HasPrefix (List.drop 1 x.1.unit,[45,45])) (default:Bool)) fun y29=>
           bif bif bif ibOr IntKind.u8 (y27.toNat:Int) 32==101 then y28 else false then !y29 else false then
            ze (geti x.1.unit 0) fun y30=>
            ze (Zl ((y30.toNat:Int),y26)) fun y31=>
            need (decide (1<=(x.1.unit.length:Int)))<|
            ze (Z4 n ((List.drop 1 x.1.unit,0),y31)) fun y32=>
            some y32
           else
            ze (ZY x.1.unit) fun y33=>
            ze (Z4 n ((x.1.unit,y33),y26)) fun y34=>
            some y34
          else
           ze (Bu ()) fun y35=>
           ze (geti [y35.e0,y35.e1,y35.e2,y35.e3,y35.e4,y35.e5,y35.e6,y35.e7,y35.e8,y35.e9,y35.e10,y35.e11] (wu8 (x.1.kind - 13))) fun y36=>
           need (zC x.2.length y36.length 1)<|
           some (x.2++y36)
theorem eQ(n:Nat)(x:zf×List UInt8):Le (Jz n x) (Gp x):=by unfold Jz Gp;exact(.bif (.bind .rfl fun _=>(.bind (qU n _) fun _=> .rfl)) (.bif (.bind .rfl fun _=>(.bind (qU n _) fun _=>(.need .rfl))) (.bif (.need (.bind .rfl fun _=>(.bind (qU n _) fun _=> .rfl))) (.bif (.join (.bif (.bind .rfl fun _=> .rfl) .rfl) fun _=>(.need (.bind (qU n _) fun _=> .rfl))) (.bif (.need (.need (.loop (fun _=>(.bif (.join (.need (.bind .rfl fun _=>(.bind .rfl fun _=>(.bif (.bind .rfl fun _=> .rfl) (.bind .rfl fun _=>(.need .rfl)))))) fun _=> .rfl) .rfl)) fun _=>(.need .rfl)))) (.bif (.need (.need (.loop (fun _=>(.bif (.join (.need (.bind .rfl fun _=>(.bind .rfl fun _=>(.bif (.bind .rfl fun _=> .rfl) (.bind .rfl fun _=>(.need .rfl)))))) fun _=> .rfl) .rfl)) fun _=>(.need .rfl)))) (.bif (.need .rfl) (.bif (.bind .rfl fun _=> .rfl) (.bif (.bind .rfl fun _=>(.need .rfl)) (.bif (.bind .rfl fun _=>(.bind .rfl fun _=>(.need (.bind .rfl fun _=>(.need (.bind .rfl fun _=>(.bif (.bind .rfl fun _=>(.bind .rfl fun _=>(.need (.bind (qU n _) fun _=> .rfl)))) (.bind .rfl fun _=>(.bind (qU n _) fun _=> .rfl))))))))) (.bind .rfl fun _=>(.bind .rfl fun _=>(.need .rfl)))))))))))))
def QA(n:Nat)(x:List zf×List zf):Option Bool:=
 bif (x.1.length:Int) != (x.2.length:Int)then
  some false
 else
  Bf n (fun(s1:Int)=>
    bif decide (s1<(x.1.length:Int))then
     ze (geti x.1 s1) fun y2=>
     ze (geti x.2 s1) fun y3=>
     bif !(y2.kind==y3.kind&&(y2.text==y3.text&&(y2.num==y3.num&&(y2.unit==y3.unit&&(y2.flag==y3.flag&&true)))))then
      some (LO.ret false)
     else
      some (LO.again (w64 (s1+1)))
    else
     some (LO.out ()):Int->Option (LO (Int) (Unit) _)) 0 fun o4=>
  some true
theorem aR(n:Nat)(x:List zf×List zf):Le (QA n x) (Z9 x):=by unfold QA Z9;exact(.bif .rfl (.loop (fun _=>(.bif (.bind .rfl fun _=>(.bind .rfl fun _=>(.bif .rfl .rfl))) .rfl)) fun _=> .rfl))
def Rz(n:Nat)(x:List zf):Option (Str×Int):=
 ze (Sz n x) fun y1=>
 bif y1 != 0 then
  some ([],y1)
 else
  Bf n (fun(s2:Int×List UInt8×List zu)=>
    bif decide (s2.1<(x.length:Int))then
     need (decide (0<=s2.1)&&decide (s2.1<=(x.length:Int)))<|
     ze (Lu n (List.drop s2.1.toNat x)) fun y3=>
     need (decide (0<=s2.1)&&(decide (s2.1<=w64 (s2.1+y3))&&decide (w64 (s2.1+y3)<=(x.length:Int))))<|
     Bf n (fun(s4:Int×List UInt8)=>
       bif decide (s4.1<((List.drop s2.1.toNat (List.take (w64 (s2.1+y3)).toNat x)).length:Int))then
        ze (geti (List.drop s2.1.toNat (List.take (w64 (s2.1+y3)).toNat x)) s4.1) fun y5=>
        ze (Jz n (y5,s4.2)) fun y6=>
        some (LO.again (w64 (s4.1+1),y6))
       else
        some (LO.out s4.2):Int×List UInt8->Option (LO (Int×List UInt8) (List UInt8) _)) (0,[]) fun o7=>
     zT (X:=Int×List UInt8×List zu×List UInt8) (
       ze (geti x s2.1) fun y8=>
       bif bif y8.kind==9 then y3==2 else false then
        some (LX.out (s2.1,s2.2.1,s2.2.2,[(92:UInt8),(10:UInt8)]))
       else
        some (LX.out (s2.1,s2.2.1,s2.2.2,o7))) fun j9=>
     zT (X:=Int×List UInt8×List zu×zu) (
       bif decide (w64 ((j9.2.2.1.length:Int) - 4)>=0)then
        need (decide (0<=w64 ((j9.2.2.1.length:Int) - 4))&&decide (w64 ((j9.2.2.1.length:Int) - 4)<(j9.2.2.1.length:Int)))<|
        ze (j9.2.2.1[(w64 ((j9.2.2.1.length:Int) - 4)).toNat]?) fun y10=>
        some (LX.out (j9.1,j9.2.1,j9.2.2.1,y10))
       else
        some (LX.out (j9.1,j9.2.1,j9.2.2.1,(⟨0,0⟩:zu)))) fun j11=>
     need (decide (0<=j11.2.2.2.at_)&&decide (j11.2.2.2.at_<=(j11.2.1.length:Int)))<|
     need (decide (j11.2.2.2.at_.toNat+(j11.2.1.length - j11.2.2.2.at_.toNat)<=j11.2.1.length))<|
     need (Bi (List.take (j11.2.1.length - j11.2.2.2.at_.toNat) (List.drop j11.2.2.2.at_.toNat j11.2.1)).length j9.2.2.2.length)<|
     ze (QL n (List.take (j11.2.1.length - j11.2.2.2.at_.toNat) (List.drop j11.2.2.2.at_.toNat j11.2.1)++j9.2.2.2)) fun y12=>
     zT (X:=Int×List zu×List UInt8) (
       need (decide (0<=j11.2.2.2.token)&&(decide (j11.2.2.2.token<=w64 (j11.1+y3))&&decide (w64 (j11.1+y3)<=(x.length:Int)))|| !(!(y12.2 != 0)))<|
       ze (zY (!(y12.2 != 0)) (QA n (y12.1,List.drop j11.2.2.2.token.toNat (List.take (w64 (j11.1+y3)).toNat x))) (default:Bool)) fun y13=>
       bif bif y12.2 != 0 then true else !y13 then
        need (zC j11.2.1.length ([47,42,42,47]:Str).length 1)<|
        some (LX.out (j11.1,j11.2.2.1,j11.2.1++([47,42,42,47]:Str)))
       else
        some (LX.out (j11.1,j11.2.2.1,j11.2.1))) fun j14=>
     need (zC j14.2.1.length 1 16)<|
     need (zC j14.2.2.length j9.2.2.2.length 1)<|
     bif decide (((j14.2.2++j9.2.2.2).length:Int)>4000)then
      some (LO.ret ([],28))
     else
      some (LO.again (w64 (j14.1+y3),j14.2.2++j9.2.2.2,j14.2.1++[(⟨j14.1,(j14.2.2.length:Int)⟩:zu)]))
    else
     some (LO.out s2.2.1):Int×List UInt8×List zu->Option (LO (Int×List UInt8×List zu) (List UInt8) _)) (0,[],[]) fun o15=>
  some (o15,0)
theorem sP(n:Nat)(x:List zf):Le (Rz n x) (Rp x):=by unfold Rz Rp;exact(.bind (uP n _) fun _=>(.bif .rfl (.loop (fun _=>(.bif (.need (.bind (yF n _) fun _=>(.need (.loop (fun _=>(.bif (.bind .rfl fun _=>(.bind (eQ n _) fun _=> .rfl)) .rfl)) fun _=>(.join (.bind .rfl fun _=>(.bif .rfl .rfl)) fun _=>(.join (.bif (.need (.bind .rfl fun _=> .rfl)) .rfl) fun _=>(.need (.need (.need (.bind (cz n _) fun _=>(.join (.need (.bind (.cond (aR n _)) fun _=>(.bif (.need .rfl) .rfl))) fun _=>(.need (.need (.bif .rfl .rfl)))))))))))))) .rfl)) fun _=> .rfl)))
def ny(n:Nat)(x:List zg):Option (Str×Int):=
 ze (Ku n x) fun y1=>
 bif y1 != 0 then
  some ([],y1)
 else
  ze (Hz n x) fun y2=>
  ze (Rz n y2) fun y3=>
  some (y3.1,y3.2)
theorem RF(n:Nat)(x:List zg):Le (ny n x) (Wi x):=by unfold ny Wi;exact(.bind (wF n _) fun _=>(.bif .rfl (.bind (bQ n _) fun _=>(.bind (sP n _) fun _=> .rfl))))
def Yz(n:Nat)(x:List zg):Option (Int×Int):=
 ze (Ku n x) fun y1=>
 bif y1 != 0 then
  some (0,y1)
 else
  ze (ky n (x,0)) fun y2=>
  some (y2.depth,0)
theorem rP(n:Nat)(x:List zg):Le (Yz n x) (qV x):=by unfold Yz qV;exact(.bind (wF n _) fun _=>(.bif .rfl (.bind (NF n _) fun _=> .rfl)))
def Iz(n:Nat)(x:Str):Option (Str×Int×Bool):=
 ze (QL n x) fun y1=>
 ze (parseF y1.1) fun y2=>
 ze (ny n y2.1) fun y3=>
 ze (Yz n y2.1) fun y4=>
 some (y3.1,y4.1,bif bif bif y1.2==0 then y2.2==0 else false then y3.2==0 else false then y4.2==0 else false)
theorem NG(n:Nat)(x:Str):Le (Iz n x) (Qg x):=by unfold Iz Qg;exact(.bind (cz n _) fun _=>(.bind .rfl fun _=>(.bind (RF n _) fun _=>(.bind (rP n _) fun _=> .rfl))))
def BG(n:Nat)(x:Unit):Option Bool:=
 ze (Iz n [97,40,98,91,99,41,100]) fun y1=>
 ze (QL n [97,40,98,91,99,41,100]) fun y2=>
 ze (parseF y2.1) fun y3=>
 ze (zY (bif bif bif bif bif y1.2.2 then y1.1==[97,40,98,91,99,41,100,93,41]else false then y1.2.1==2 else false then y2.2==0 else false then y3.2==0 else false then(y3.1.length:Int)==1 else false) (geti y3.1 0) (default:zg)) fun y4=>
 ze (zY (bif bif bif bif bif bif y1.2.2 then y1.1==[97,40,98,91,99,41,100,93,41]else false then y1.2.1==2 else false then y2.2==0 else false then y3.2==0 else false then(y3.1.length:Int)==1 else false then(y4.list.length:Int)==2 else false) (geti y3.1 0) (default:zg)) fun y5=>
 ze (zY (bif bif bif bif bif bif y1.2.2 then y1.1==[97,40,98,91,99,41,100,93,41]else false then y1.2.1==2 else false then y2.2==0 else false then y3.2==0 else false then(y3.1.length:Int)==1 else false then(y4.list.length:Int)==2 else false) (geti y5.list 1) (default:zg)) fun y6=>
 some (bif bif bif bif bif bif bif y1.2.2 then y1.1==[97,40,98,91,99,41,100,93,41]else false then y1.2.1==2 else false then y2.2==0 else false then y3.2==0 else false then(y3.1.length:Int)==1 else false then(y4.list.length:Int)==2 else false then(y6.list.length:Int)==3 else false)
theorem dQ(n:Nat)(x:Unit):Le (BG n x) (Yl x):=by unfold BG Yl;exact(.bind (NG n _) fun _=>(.bind (cz n _) fun _=>(.bind .rfl fun _=>(.bind .rfl fun _=>(.bind .rfl fun _=>(.bind .rfl fun _=> .rfl))))))
end
end Go.Lv.VT
