/- Laws for the plain texts: loops that look for something; bytes. -/
import Derived.Test.YtcdeccnjlkkejaaGreatDoorLf
import Derived.Test.YtcdeccnjlkkejaaGreatDoorTx
set_option linter.unusedSimpArgs false
set_option linter.unusedVariables false
namespace Go.Lv.VT
abbrev big:Nat:=4194304
theorem Dx{i n:Nat}(h:i<n):decide ((i:Int)<(n:Int))=true:=Yd (by omega)
theorem rC(n:Nat):decide ((n:Int)<(n:Int))=false:=decide_eq_false (by omega)
theorem Hu{i n:Nat}(h:i<n)(hn:n<=big):w64 ((i:Int)+1)=((i+1:Nat):Int):=by rw[w64,mh (by omega) (by unfold big at hn;omega)];omega
theorem WP{α:Type}(b:Bool)(v d:α):zU b (some v) d=some (bif b then v else d):=by cases b<;>rfl
def idxS{α:Type}(p:α->Bool):List α->Int
 |[]=> -1
 |v::l=>bif p v then 0 else bif decide (idxS p l<0)then -1 else idxS p l+1
noncomputable section
set_option maxRecDepth 100000
def ZF(n:Nat)(x:za):Option za:=
 Af n (fun(s1:za)=>
   need (decide (0<=s1.at_)&&decide (s1.at_<=(s1.s.length:Int)))<|
   zf (strings_HasPrefix (List.drop s1.at_.toNat s1.s,[47,42])) fun y2=>
   bif y2 then
    need (decide (0<=w64 (s1.at_+2))&&decide (w64 (s1.at_+2)<=(s1.s.length:Int)))<|
    zf (Lj (List.drop (w64 (s1.at_+2)).toNat s1.s,[42,47])) fun y3=>
    bif decide (y3<0)then
     some (LO.ret (⟨s1.s,(s1.s.length:Int)⟩:za))
    else
     some (LO.again (⟨s1.s,w64 (s1.at_+w64 (y3+4))⟩:za))
   else
    some (LO.out s1):za->Option (LO (za) (za) _)) x fun o4=>
 some o4
theorem QC(n:Nat)(x:za):Le (ZF n x) (Ze x):=by unfold ZF Ze;exact(.loop (fun _=>(.need (.bind .rfl fun _=>(.bif (.need (.bind .rfl fun _=>(.bif .rfl .rfl))) .rfl)))) fun _=> .rfl)
def Zl(n:Nat)(x:za):Option za:=
 Af n (fun(s1:za)=>
   zf (zb (0,s1)) fun y2=>
   zf (Za y2) fun y3=>
   bif y3 then
    some (LO.again (⟨s1.s,w64 (s1.at_+1)⟩:za))
   else
    some (LO.out s1):za->Option (LO (za) (za) _)) x fun o4=>
 some o4
theorem Z5(n:Nat)(x:za):Le (Zl n x) (zG x):=by unfold Zl zG;exact(.loop (fun _=>(.bind .rfl fun _=>(.bind .rfl fun _=>(.bif .rfl .rfl)))) fun _=> .rfl)
def qo(n:Nat)(x:za):Option (za×List UInt8):=
 zf (zb (0,(⟨x.s,w64 (x.at_+1)⟩:za))) fun y1=>
 bif y1==(-1)then
  zf (ZR 65533) fun y2=>
  some ((⟨x.s,w64 (x.at_+1)⟩:za),y2)
 else
  zf (Qh y1) fun y3=>
  bif decide (y3<0)then
   zf (ZP (wu8 y1)) fun y4=>
   need (zJ 0 1 1)<|
   some ((⟨x.s,w64 (w64 (x.at_+1)+1)⟩:za),[y4])
  else
   Af n (fun(s5:(Int×Int)×za)=>
     bif decide (s5.1.2<6)then
      zf (zb (0,s5.2)) fun y6=>
      zf (Qh y6) fun y7=>
      bif decide (y7<0)then
       some (LO.out (s5.1.1,s5.2))
      else
       some (LO.again ((ibOr IntKind.i64 (pq IntKind.i64 s5.1.1 4) y7,w64 (s5.1.2+1)),(⟨s5.2.s,w64 (s5.2.at_+1)⟩:za)))
     else
      some (LO.out (s5.1.1,s5.2)):(Int×Int)×za->Option (LO ((Int×Int)×za) (Int×za) _)) ((0,0),(⟨x.s,w64 (x.at_+1)⟩:za)) fun o8=>
   zR (X:=Int×za) (
     zf (zb (0,o8.2)) fun y9=>
     zf (Za y9) fun y10=>
     bif y10 then
      some (LX.out (o8.1,(⟨o8.2.s,w64 (o8.2.at_+1)⟩:za)))
     else
      some (LX.out (o8.1,o8.2))) fun j11=>
   zR (X:=Int) (
     bif j11.1==0 then
      some (LX.out 65533)
     else
      some (LX.out j11.1)) fun j12=>
   zf (ZR (w32 j12)) fun y13=>
   some (j11.2,y13)
theorem DU(n:Nat)(x:za):Le (qo n x) (Zo x):=by unfold qo Zo;exact(.bind .rfl fun _=>(.bif (.bind .rfl fun _=> .rfl) (.bind .rfl fun _=>(.bif (.bind .rfl fun _=>(.need .rfl)) (.loop (fun _=>(.bif (.bind .rfl fun _=>(.bind .rfl fun _=>(.bif .rfl .rfl))) .rfl)) fun _=>(.join (.bind .rfl fun _=>(.bind .rfl fun _=>(.bif .rfl .rfl))) fun _=>(.join (.bif .rfl .rfl) fun _=>(.bind .rfl fun _=> .rfl))))))))
def Zf(n:Nat)(x:za×List UInt8):Option (za×List UInt8):=
 zf (zb (0,(⟨x.1.s,w64 (x.1.at_+1)⟩:za))) fun y1=>
 bif y1==(-1)then
  zf (ZT (65533,x.2)) fun y2=>
  some ((⟨x.1.s,w64 (x.1.at_+1)⟩:za),y2)
 else
  zf (Qh y1) fun y3=>
  bif decide (y3<0)then
   zf (ZP (wu8 y1)) fun y4=>
   need (zJ x.2.length 1 1)<|
   some ((⟨x.1.s,w64 (w64 (x.1.at_+1)+1)⟩:za),x.2++[y4])
  else
   Af n (fun(s5:(Int×Int)×za)=>
     bif decide (s5.1.2<6)then
      zf (zb (0,s5.2)) fun y6=>
      zf (Qh y6) fun y7=>
      bif decide (y7<0)then
       some (LO.out (s5.1.1,s5.2))
      else
       some (LO.again ((ibOr IntKind.i64 (pq IntKind.i64 s5.1.1 4) y7,w64 (s5.1.2+1)),(⟨s5.2.s,w64 (s5.2.at_+1)⟩:za)))
     else
      some (LO.out (s5.1.1,s5.2)):(Int×Int)×za->Option (LO ((Int×Int)×za) (Int×za) _)) ((0,0),(⟨x.1.s,w64 (x.1.at_+1)⟩:za)) fun o8=>
   zR (X:=Int×za×List UInt8) (
     zf (zb (0,o8.2)) fun y9=>
     zf (Za y9) fun y10=>
     bif y10 then
      some (LX.out (o8.1,(⟨o8.2.s,w64 (o8.2.at_+1)⟩:za),x.2))
     else
      some (LX.out (o8.1,o8.2,x.2))) fun j11=>
   zR (X:=Int×List UInt8) (
     bif j11.1==0 then
      some (LX.out (65533,j11.2.2))
     else
      some (LX.out (j11.1,j11.2.2))) fun j12=>
   zf (ZT (w32 j12.1,j12.2)) fun y13=>
   some (j11.2.1,y13)
theorem Z7(n:Nat)(x:za×List UInt8):Le (Zf n x) (zA x):=by unfold Zf zA;exact(.bind .rfl fun _=>(.bif (.bind .rfl fun _=> .rfl) (.bind .rfl fun _=>(.bif (.bind .rfl fun _=>(.need .rfl)) (.loop (fun _=>(.bif (.bind .rfl fun _=>(.bind .rfl fun _=>(.bif .rfl .rfl))) .rfl)) fun _=>(.join (.bind .rfl fun _=>(.bind .rfl fun _=>(.bif .rfl .rfl))) fun _=>(.join (.bif .rfl .rfl) fun _=>(.bind .rfl fun _=> .rfl))))))))
def Qa(n:Nat)(x:za):Option (ze×za):=
 zf (zb (0,x)) fun y1=>
 Af n (fun(s2:za×ze×List UInt8)=>
   zf (zb (0,s2.1)) fun y3=>
   bif y3==(-1)then
    some (LO.out (s2.1,s2.2.1,s2.2.2))
   else
    bif y3==y1 then
     some (LO.out ((⟨s2.1.s,w64 (s2.1.at_+1)⟩:za),s2.2.1,s2.2.2))
    else
     bif y3==10 then
      some (LO.ret ((⟨6,[],0,[],false⟩:ze),s2.1))
     else
      zf (zU (y3==92) (zb (1,s2.1)) (default:Int)) fun y4=>
      zf (zU (!(y4==(-1))&&y3==92) (zb (1,s2.1)) (default:Int)) fun y5=>
      bif bif y3==92 then bif y4==(-1)then true else y5==10 else false then
       some (LO.again ((⟨s2.1.s,if(s2.1.s.length:Int)<w64 (s2.1.at_+2)then(s2.1.s.length:Int)else w64 (s2.1.at_+2)⟩:za),s2.2.1,s2.2.2))
      else
       bif y3==92 then
        zf (Zf n (s2.1,s2.2.2)) fun y6=>
        some (LO.again (y6.1,s2.2.1,y6.2))
       else
        zf (ZP (wu8 y3)) fun y7=>
        need (zJ s2.2.2.length 1 1)<|
        some (LO.again ((⟨s2.1.s,w64 (s2.1.at_+1)⟩:za),s2.2.1,s2.2.2++[y7])):za×ze×List UInt8->Option (LO (za×ze×List UInt8) (za×ze×List UInt8) _)) ((⟨x.s,w64 (x.at_+1)⟩:za),(⟨0,[],0,[],false⟩:ze),[]) fun o8=>
 some ((⟨5,o8.2.2,0,[],false⟩:ze),o8.1)
theorem rT(n:Nat)(x:za):Le (Qa n x) (ZM x):=by unfold Qa ZM;exact(.bind .rfl fun _=>(.loop (fun _=>(.bind .rfl fun _=>(.bif .rfl (.bif .rfl (.bif .rfl (.bind .rfl fun _=>(.bind .rfl fun _=>(.bif .rfl (.bif (.bind (Z7 n _) fun _=> .rfl) (.bind .rfl fun _=>(.need .rfl))))))))))) fun _=> .rfl))
def Zr(n:Nat)(x:za):Option (Str×za):=
 Af n (fun(s1:za×List UInt8)=>
   zf (zb (0,s1.1)) fun y2=>
   zf (Qi y2) fun y3=>
   bif y3 then
    zf (ZP (wu8 y2)) fun y4=>
    need (zJ s1.2.length 1 1)<|
    some (LO.again ((⟨s1.1.s,w64 (s1.1.at_+1)⟩:za),s1.2++[y4]))
   else
    zf (zU (y2 != (-1)) (zo (0,s1.1)) (default:Bool)) fun y5=>
    bif bif y2 != (-1)then y5 else false then
     zf (Zf n (s1.1,s1.2)) fun y6=>
     some (LO.again (y6.1,y6.2))
    else
     some (LO.ret (s1.2,s1.1)):za×List UInt8->Option (LO (za×List UInt8) (Unit) _)) (x,[]) fun o7=>
 none
theorem qd(n:Nat)(x:za):Le (Zr n x) (zI x):=by unfold Zr zI;exact(.loop (fun _=>(.bind .rfl fun _=>(.bind .rfl fun _=>(.bif (.bind .rfl fun _=>(.need .rfl)) (.bind .rfl fun _=>(.bif (.bind (Z7 n _) fun _=> .rfl) .rfl)))))) fun _=> .none)
def Zp(n:Nat)(x:za):Option za:=
 Af n (fun(s1:za)=>
   zf (zb (0,s1)) fun y2=>
   zf (Zj y2) fun y3=>
   bif y3 then
    some (LO.again (⟨s1.s,w64 (s1.at_+1)⟩:za))
   else
    some (LO.out s1):za->Option (LO (za) (za) _)) x fun o4=>
 some o4
theorem qC(n:Nat)(x:za):Le (Zp n x) (zV x):=by unfold Zp zV;exact(.loop (fun _=>(.bind .rfl fun _=>(.bind .rfl fun _=>(.bif .rfl .rfl)))) fun _=> .rfl)
def qQ(n:Nat)(x:za):Option (Bool×za):=
 zR (X:=za) (
   zf (zb (0,x)) fun y1=>
   bif bif y1==43 then true else y1==45 then
    some (LX.out (⟨x.s,w64 (x.at_+1)⟩:za))
   else
    some (LX.out x)) fun j2=>
 zf (Zp n j2) fun y3=>
 zR (X:=Bool×za) (
   zf (zb (0,y3)) fun y4=>
   zf (zU (y4==46) (zb (1,y3)) (default:Int)) fun y5=>
   zf (zU (y4==46) (Zj y5) (default:Bool)) fun y6=>
   bif bif y4==46 then y6 else false then
    zf (Zp n (⟨y3.s,w64 (y3.at_+1)⟩:za)) fun y7=>
    some (LX.out (false,y7))
   else
    some (LX.out (true,y3))) fun j8=>
 zR (X:=Bool×za) (
   zf (zb (0,j8.2)) fun y9=>
   zf (zU (!(y9==101)) (zb (0,j8.2)) (default:Int)) fun y10=>
   bif bif y9==101 then true else y10==69 then
    zR (X:=(Bool×Int)×za) (
      zf (zb (1,j8.2)) fun y11=>
      bif bif y11==43 then true else y11==45 then
       some (LX.out ((j8.1,2),j8.2))
      else
       some (LX.out ((j8.1,1),j8.2))) fun j12=>
    zf (zb (j12.1.2,j12.2)) fun y13=>
    zf (Zj y13) fun y14=>
    bif y14 then
     zf (Zp n (⟨j12.2.s,w64 (j12.2.at_+j12.1.2)⟩:za)) fun y15=>
     some (LX.out (false,y15))
    else
     some (LX.out (j12.1.1,j12.2))
   else
    some (LX.out (j8.1,j8.2))) fun j16=>
 some (j16.1,j16.2)
theorem EU(n:Nat)(x:za):Le (qQ n x) (ZB x):=by unfold qQ ZB;exact(.join (.bind .rfl fun _=>(.bif .rfl .rfl)) fun _=>(.bind (qC n _) fun _=>(.join (.bind .rfl fun _=>(.bind .rfl fun _=>(.bind .rfl fun _=>(.bif (.bind (qC n _) fun _=> .rfl) .rfl)))) fun _=>(.join (.bind .rfl fun _=>(.bind .rfl fun _=>(.bif (.join (.bind .rfl fun _=>(.bif .rfl .rfl)) fun _=>(.bind .rfl fun _=>(.bind .rfl fun _=>(.bif (.bind (qC n _) fun _=> .rfl) .rfl)))) .rfl))) fun _=> .rfl))))
def QO(n:Nat)(x:Str):Option Int:=
 zf (geti x 0) fun y1=>
 zf (Cj (x,[43,45])) fun y2=>
 zR (X:=Str×Int) (
   zf (Aq (y2,[101,69])) fun y3=>
   bif decide (y3>=0)then
    need (decide (0<=w64 (y3+1))&&decide (w64 (y3+1)<=(y2.length:Int)))<|
    zf (Cj (List.drop (w64 (y3+1)).toNat y2,[43,45])) fun y4=>
    need (decide (y4.length<=maxLen))<|
    Af n (fun(s5:Int×Int)=>
      bif decide (s5.2<(y4.length:Int))then
       need (decide (0<=s5.2)&&decide (s5.2<(y4.length:Int)))<|
       zf y4[s5.2.toNat]? fun y6=>
       some (LO.again (if 1048576<w64 (w64 (10*s5.1)+w64 (wu8 ((y6.toNat:Int) - 48)))then 1048576 else w64 (w64 (10*s5.1)+w64 (wu8 ((y6.toNat:Int) - 48))),w64 (s5.2+1)))
      else
       some (LO.out s5.1):Int×Int->Option (LO (Int×Int) (Int) _)) (0,0) fun o7=>
    zR (X:=Str×Int×Int) (
      zf (geti y2 (w64 (y3+1))) fun y8=>
      bif (y8.toNat:Int)==45 then
       some (LX.out (y2,3,w64 (0 - o7)))
      else
       some (LX.out (y2,3,o7))) fun j9=>
    need (decide (0<=y3)&&decide (y3<=(j9.1.length:Int)))<|
    some (LX.out (List.take y3.toNat j9.1,w64 (j9.2.1+j9.2.2)))
   else
    some (LX.out (y2,3))) fun j10=>
 zf (cutF (j10.1,[46])) fun y11=>
 need (Ei y11.1.length y11.2.1.length)<|
 zR (X:=Str×Int) (
   bif decide (w64 (j10.2 - (y11.2.1.length:Int))<0)then
    need (decide (0<=(if w64 (((y11.1++y11.2.1).length:Int)+w64 (j10.2 - (y11.2.1.length:Int)))>0 then w64 (((y11.1++y11.2.1).length:Int)+w64 (j10.2 - (y11.2.1.length:Int)))else 0))&&decide ((if w64 (((y11.1++y11.2.1).length:Int)+w64 (j10.2 - (y11.2.1.length:Int)))>0 then w64 (((y11.1++y11.2.1).length:Int)+w64 (j10.2 - (y11.2.1.length:Int)))else 0)<=((y11.1++y11.2.1).length:Int)))<|
    some (LX.out (List.take (if w64 (((y11.1++y11.2.1).length:Int)+w64 (j10.2 - (y11.2.1.length:Int)))>0 then w64 (((y11.1++y11.2.1).length:Int)+w64 (j10.2 - (y11.2.1.length:Int)))else 0).toNat (y11.1++y11.2.1),w64 (j10.2 - (y11.2.1.length:Int))))
   else
    some (LX.out (y11.1++y11.2.1,w64 (j10.2 - (y11.2.1.length:Int))))) fun j12=>
 need (decide (j12.1.length<=maxLen))<|
 Af n (fun(s13:Int×Int)=>
   bif decide (s13.2<(j12.1.length:Int))then
    need (decide (0<=s13.2)&&decide (s13.2<(j12.1.length:Int)))<|
    zf j12.1[s13.2.toNat]? fun y14=>
    some (LO.again (if 1000000000000<w64 (w64 (10*s13.1)+w64 (wu8 ((y14.toNat:Int) - 48)))then 1000000000000 else w64 (w64 (10*s13.1)+w64 (wu8 ((y14.toNat:Int) - 48))),w64 (s13.2+1)))
   else
    some (LO.out s13.1):Int×Int->Option (LO (Int×Int) (Int) _)) (0,0) fun o15=>
 Af n (fun(s16:Int×Int)=>
   bif bif bif decide (s16.1>0)then decide (s16.2>0)else false then decide (s16.2<1000000000000)else false then
    some (LO.again (w64 (s16.1 - 1),if 1000000000000<w64 (10*s16.2)then 1000000000000 else w64 (10*s16.2)))
   else
    some (LO.out s16.2):Int×Int->Option (LO (Int×Int) (Int) _)) (j12.2,o15) fun o17=>
 zR (X:=Int) (
   bif (y1.toNat:Int)==45 then
    some (LX.out (w64 (0 - o17)))
   else
    some (LX.out o17)) fun j18=>
 some j18
theorem bT(n:Nat)(x:Str):Le (QO n x) (qG x):=by unfold QO qG;exact(.bind .rfl fun _=>(.bind .rfl fun _=>(.join (.bind .rfl fun _=>(.bif (.need (.bind .rfl fun _=>(.need (.loop (fun _=>(.bif (.need (.bind .rfl fun _=> .rfl)) .rfl)) fun _=>(.join (.bind .rfl fun _=>(.bif .rfl .rfl)) fun _=>(.need .rfl)))))) .rfl)) fun _=>(.bind .rfl fun _=>(.need (.join (.bif (.need .rfl) .rfl) fun _=>(.need (.loop (fun _=>(.bif (.need (.bind .rfl fun _=> .rfl)) .rfl)) fun _=>(.loop (fun _=>(.bif .rfl .rfl)) fun _=>(.join (.bif .rfl .rfl) fun _=> .rfl))))))))))
def qR(n:Nat)(x:za):Option (ze×za):=
 zf (qQ n x) fun y1=>
 need (decide (0<=x.at_)&&(decide (x.at_<=y1.2.at_)&&decide (y1.2.at_<=(y1.2.s.length:Int))))<|
 zf (QO n (List.drop x.at_.toNat (List.take y1.2.at_.toNat y1.2.s))) fun y2=>
 zR (X:=za×ze×ze) (
   zf (zF (0,y1.2)) fun y3=>
   bif y3 then
    zf (Zr n y1.2) fun y4=>
    some (LX.out (y4.2,(⟨0,[],0,[],false⟩:ze),(⟨12,[],y2,y4.1,y1.1⟩:ze)))
   else
    zf (zb (0,y1.2)) fun y5=>
    bif y5==37 then
     some (LX.out ((⟨y1.2.s,w64 (y1.2.at_+1)⟩:za),(⟨0,[],0,[],false⟩:ze),(⟨11,[],y2,[],false⟩:ze)))
    else
     some (LX.out (y1.2,(⟨0,[],0,[],false⟩:ze),(⟨10,[],y2,[],y1.1⟩:ze)))) fun j6=>
 some (j6.2.2,j6.1)
theorem LU(n:Nat)(x:za):Le (qR n x) (ZC x):=by unfold qR ZC;exact(.bind (EU n _) fun _=>(.need (.bind (bT n _) fun _=>(.join (.bind .rfl fun _=>(.bif (.bind (qd n _) fun _=> .rfl) (.bind .rfl fun _=>(.bif .rfl .rfl)))) fun _=> .rfl))))
def Gv(n:Nat)(x:Str):Option Str:=
 need (decide (x.length<=maxLen))<|
 Af n (fun(s1:Int×List UInt8)=>
   bif decide (s1.1<(x.length:Int))then
    zR (X:=Int×List UInt8) (
      need (decide (0<=s1.1)&&decide (s1.1<(s1.2.length:Int)))<|
      zf s1.2[s1.1.toNat]? fun y2=>
      bif bif decide (65<=(y2.toNat:Int))then decide ((y2.toNat:Int)<=90)else false then
       need (decide (0<=s1.1)&&decide (s1.1<(s1.2.length:Int)))<|
       zf s1.2[s1.1.toNat]? fun y3=>
       need (decide (0<=s1.1)&&decide (s1.1<(s1.2.length:Int)))<|
       zf s1.2[s1.1.toNat]? fun y4=>
       zf (ZP (ibOr IntKind.u8 (y3.toNat:Int) 32)) fun y5=>
       some (LX.out (s1.1,List.set s1.2 s1.1.toNat y5))
      else
       some (LX.out (s1.1,s1.2))) fun j6=>
    some (LO.again (w64 (j6.1+1),j6.2))
   else
    some (LO.out s1.2):Int×List UInt8->Option (LO (Int×List UInt8) (List UInt8) _)) (0,x) fun o7=>
 some o7
theorem dH(n:Nat)(x:Str):Le (Gv n x) (Lm x):=by unfold Gv Lm;exact(.need (.loop (fun _=>(.bif (.join (.need (.bind .rfl fun _=>(.bif (.need (.bind .rfl fun _=>(.need (.bind .rfl fun _=>(.bind .rfl fun _=> .rfl))))) .rfl))) fun _=> .rfl) .rfl)) fun _=> .rfl))
def Jv(n:Nat)(x:Str×Str):Option Bool:=
 zf (Gv n x.1) fun y1=>
 zf (Gv n x.2) fun y2=>
 some (y1==y2)
theorem eH(n:Nat)(x:Str×Str):Le (Jv n x) (QL x):=by unfold Jv QL;exact(.bind (dH n _) fun _=>(.bind (dH n _) fun _=> .rfl))
def ZY(n:Nat)(x:za):Option (ze×za):=
 Af n (fun(s1:za×ze)=>
   zf (zb (0,s1.1)) fun y2=>
   bif y2==(-1)then
    some (LO.ret ((⟨8,[],0,[],false⟩:ze),s1.1))
   else
    zf (zo (0,s1.1)) fun y3=>
    bif y3 then
     zf (qo n s1.1) fun y4=>
     some (LO.again (y4.1,s1.2))
    else
     zf (geti s1.1.s (w64 (w64 (s1.1.at_+1) - 1))) fun y5=>
     bif (y5.toNat:Int)==41 then
      some (LO.ret ((⟨8,[],0,[],false⟩:ze),(⟨s1.1.s,w64 (s1.1.at_+1)⟩:za)))
     else
      some (LO.again ((⟨s1.1.s,w64 (s1.1.at_+1)⟩:za),s1.2)):za×ze->Option (LO (za×ze) (Unit) _)) (x,(⟨0,[],0,[],false⟩:ze)) fun o6=>
 none
theorem Qu(n:Nat)(x:za):Le (ZY n x) (Zw x):=by unfold ZY Zw;exact(.loop (fun _=>(.bind .rfl fun _=>(.bif .rfl (.bind .rfl fun _=>(.bif (.bind (DU n _) fun _=> .rfl) (.bind .rfl fun _=>(.bif .rfl .rfl))))))) fun _=> .none)
def QN(n:Nat)(x:za):Option (ze×za):=
 zf (Zl n x) fun y1=>
 Af n (fun(s2:za×ze×List UInt8)=>
   zf (zb (0,s2.1)) fun y3=>
   zR (X:=Int×za×ze×List UInt8) (
     zf (Za y3) fun y4=>
     bif y4 then
      zf (Zl n s2.1) fun y5=>
      zf (zb (0,y5)) fun y6=>
      bif bif y6 != 41 then y6 != (-1)else false then
       zf (ZY n y5) fun y7=>
       some (LX.ret (LO.ret (y7.1,y7.2)))
      else
       some (LX.out (y6,y5,s2.2.1,s2.2.2))
     else
      some (LX.out (y3,s2.1,s2.2.1,s2.2.2))) fun j8=>
   bif j8.1==(-1)then
    some (LO.ret ((⟨7,j8.2.2.2,0,[],false⟩:ze),j8.2.1))
   else
    bif j8.1==41 then
     some (LO.ret ((⟨7,j8.2.2.2,0,[],false⟩:ze),(⟨j8.2.1.s,w64 (j8.2.1.at_+1)⟩:za)))
    else
     zf (zU (!(bif bif bif bif j8.1==34 then true else j8.1==39 then true else j8.1==40 then true else decide (j8.1<=8)then true else j8.1==11)) (ZO (j8.1,14,31)) (default:Bool)) fun y9=>
     bif bif bif bif bif bif bif j8.1==34 then true else j8.1==39 then true else j8.1==40 then true else decide (j8.1<=8)then true else j8.1==11 then true else y9 then true else j8.1==127 then
      zf (ZY n j8.2.1) fun y10=>
      some (LO.ret (y10.1,y10.2))
     else
      bif j8.1 != 92 then
       zf (ZP (wu8 j8.1)) fun y11=>
       need (zJ j8.2.2.2.length 1 1)<|
       some (LO.again ((⟨j8.2.1.s,w64 (j8.2.1.at_+1)⟩:za),j8.2.2.1,j8.2.2.2++[y11]))
      else
       zf (zo (0,j8.2.1)) fun y12=>
       bif y12 then
        zf (Zf n (j8.2.1,j8.2.2.2)) fun y13=>
        some (LO.again (y13.1,j8.2.2.1,y13.2))
       else
        zf (ZY n j8.2.1) fun y14=>
        some (LO.ret (y14.1,y14.2)):za×ze×List UInt8->Option (LO (za×ze×List UInt8) (Unit) _)) (y1,(⟨0,[],0,[],false⟩:ze),[]) fun o15=>
 none
theorem eT(n:Nat)(x:za):Le (QN n x) (qF x):=by unfold QN qF;exact(.bind (Z5 n _) fun _=>(.loop (fun _=>(.bind .rfl fun _=>(.join (.bind .rfl fun _=>(.bif (.bind (Z5 n _) fun _=>(.bind .rfl fun _=>(.bif (.bind (Qu n _) fun _=> .rfl) .rfl))) .rfl)) fun _=>(.bif .rfl (.bif .rfl (.bind .rfl fun _=>(.bif (.bind (Qu n _) fun _=> .rfl) (.bif (.bind .rfl fun _=>(.need .rfl)) (.bind .rfl fun _=>(.bif (.bind (Z7 n _) fun _=> .rfl) (.bind (Qu n _) fun _=> .rfl))))))))))) fun _=> .none))
def Qj(n:Nat)(x:za):Option (ze×za):=
 zf (Zr n x) fun y1=>
 zf (zb (0,y1.2)) fun y2=>
 bif y2 != 40 then
  some ((⟨1,y1.1,0,[],false⟩:ze),y1.2)
 else
  zR (X:=za×ze) (
    zf (Jv n (y1.1,[117,114,108])) fun y3=>
    bif y3 then
     zf (Zl n (⟨y1.2.s,w64 (y1.2.at_+1)⟩:za)) fun y4=>
     zf (zb (0,y4)) fun y5=>
     bif bif y5 != 34 then y5 != 39 else false then
      zf (QN n (⟨y1.2.s,w64 (y1.2.at_+1)⟩:za)) fun y6=>
      some (LX.ret (y6.1,y6.2))
     else
      some (LX.out ((⟨y1.2.s,w64 (y1.2.at_+1)⟩:za),(⟨0,[],0,[],false⟩:ze)))
    else
     some (LX.out ((⟨y1.2.s,w64 (y1.2.at_+1)⟩:za),(⟨0,[],0,[],false⟩:ze)))) fun j7=>
  some ((⟨2,y1.1,0,[],false⟩:ze),j7.1)
theorem wT(n:Nat)(x:za):Le (Qj n x) (ZZ x):=by unfold Qj ZZ;exact(.bind (qd n _) fun _=>(.bind .rfl fun _=>(.bif .rfl (.join (.bind (eH n _) fun _=>(.bif (.bind (Z5 n _) fun _=>(.bind .rfl fun _=>(.bif (.bind (eT n _) fun _=> .rfl) .rfl))) .rfl)) fun _=> .rfl))))
def Qy(n:Nat)(x:za):Option (ze×za):=
 zf (zb (0,x)) fun y1=>
 need (decide (0<=x.at_)&&decide (x.at_<=(x.s.length:Int)))<|
 zf (Za y1) fun y2=>
 bif y2 then
  zf (Zl n x) fun y3=>
  some ((⟨13,[],0,[],false⟩:ze),y3)
 else
  bif bif y1==34 then true else y1==39 then
   zf (Qa n x) fun y4=>
   some (y4.1,y4.2)
  else
   zf (zU (y1==35) (zb (1,x)) (default:Int)) fun y5=>
   zf (zU (y1==35) (Qi y5) (default:Bool)) fun y6=>
   zf (zU (!y6&&y1==35) (zo (1,x)) (default:Bool)) fun y7=>
   bif bif y1==35 then bif y6 then true else y7 else false then
    zf (zF (1,x)) fun y8=>
    zf (Zr n (⟨x.s,w64 (x.at_+1)⟩:za)) fun y9=>
    some ((⟨4,y9.1,0,[],y8⟩:ze),y9.2)
   else
    zf (qy x) fun y10=>
    bif y10 then
     zf (qR n x) fun y11=>
     some (y11.1,y11.2)
    else
     zf (strings_HasPrefix (List.drop x.at_.toNat x.s,[45,45,62])) fun y12=>
     bif y12 then
      some ((⟨15,[],0,[],false⟩:ze),(⟨x.s,w64 (x.at_+3)⟩:za))
     else
      zf (strings_HasPrefix (List.drop x.at_.toNat x.s,[60,33,45,45])) fun y13=>
      bif y13 then
       some ((⟨14,[],0,[],false⟩:ze),(⟨x.s,w64 (x.at_+4)⟩:za))
      else
       zf (zU (y1==64) (zF (1,x)) (default:Bool)) fun y14=>
       bif bif y1==64 then y14 else false then
        zf (Zr n (⟨x.s,w64 (x.at_+1)⟩:za)) fun y15=>
        some ((⟨3,y15.1,0,[],false⟩:ze),y15.2)
       else
        zf (zF (0,x)) fun y16=>
        bif y16 then
         zf (Qj n x) fun y17=>
         some (y17.1,y17.2)
        else
         zf (strings_IndexByte ([58,59,44,91,93,40,41,123,125],wu8 y1)) fun y18=>
         bif decide (y18>=0)then
          some ((⟨wu8 (16+wu8 y18),[],0,[],false⟩:ze),(⟨x.s,w64 (x.at_+1)⟩:za))
         else
          need (decide (1<=((List.drop x.at_.toNat x.s).length:Int)))<|
          some ((⟨9,List.take 1 (List.drop x.at_.toNat x.s),0,[],false⟩:ze),(⟨x.s,w64 (x.at_+1)⟩:za))
theorem tT(n:Nat)(x:za):Le (Qy n x) (qi x):=by unfold Qy qi;exact(.bind .rfl fun _=>(.need (.bind .rfl fun _=>(.bif (.bind (Z5 n _) fun _=> .rfl) (.bif (.bind (rT n _) fun _=> .rfl) (.bind .rfl fun _=>(.bind .rfl fun _=>(.bind .rfl fun _=>(.bif (.bind .rfl fun _=>(.bind (qd n _) fun _=> .rfl)) (.bind .rfl fun _=>(.bif (.bind (LU n _) fun _=> .rfl) (.bind .rfl fun _=>(.bif .rfl (.bind .rfl fun _=>(.bif .rfl (.bind .rfl fun _=>(.bif (.bind (qd n _) fun _=> .rfl) (.bind .rfl fun _=>(.bif (.bind (wT n _) fun _=> .rfl) (.bind .rfl fun _=>(.bif .rfl (.need .rfl))))))))))))))))))))))
def fA(n:Nat)(x:Str):Option (Int×List ze):=
 zf (Hl x) fun y1=>
 bif y1.2 != 0 then
  some (y1.2,[])
 else
  zf (ZF n (⟨y1.1,0⟩:za)) fun y2=>
  Af n (fun(s3:Int×List ze×za)=>
    bif decide (s3.2.2.at_<(y1.1.length:Int))then
     bif decide (w64 (s3.1+1)>1500)then
      some (LO.ret (4,s3.2.1))
     else
      zf (Qy n s3.2.2) fun y4=>
      zf (QK ((y4.1,s3.2.2.at_,y4.2.at_),s3.2.1)) fun y5=>
      zf (ZF n y4.2) fun y6=>
      some (LO.again (w64 (s3.1+1),y5,y6))
    else
     some (LO.out (s3.2.1,s3.2.2)):Int×List ze×za->Option (LO (Int×List ze×za) (List ze×za) _)) (0,[],y2) fun o7=>
  some (0,o7.1)
theorem sS(n:Nat)(x:Str):Le (fA n x) (Yq x):=by unfold fA Yq;exact(.bind .rfl fun _=>(.bif .rfl (.bind (QC n _) fun _=>(.loop (fun _=>(.bif (.bif .rfl (.bind (tT n _) fun _=>(.bind .rfl fun _=>(.bind (QC n _) fun _=> .rfl)))) .rfl)) fun _=> .rfl))))
def QI(n:Nat)(x:Str):Option (List ze×Int):=
 zf (fA n x) fun y1=>
 bif y1.1 != 0 then
  some ([],y1.1)
 else
  some (y1.2,0)
theorem bA(n:Nat)(x:Str):Le (QI n x) (qh x):=by unfold QI qh;exact(.bind (sS n _) fun _=>(.bif .rfl .rfl))
def AA(n:Nat)(Zt:List zg×Int->Option zm)(x:List zg×Int):Option zm:=
 Af n (fun(s1:Int×zm)=>
   bif decide (s1.1<(x.1.length:Int))then
    zR (X:=Int×zm) (
      zf (geti x.1 s1.1) fun y2=>
      zf (Zh y2.token.kind) fun y3=>
      zR (X:=zm) (
        bif bif bif x.2 != 0 then y2.token.kind==x.2 else false then true else bif y3==0 then decide ((y2.list.length:Int)>0)else false then
         some (LX.out (⟨s1.2.depth,w64 (s1.2.tokens+1),true⟩:zm))
        else
         some (LX.out (⟨s1.2.depth,w64 (s1.2.tokens+1),s1.2.bad⟩:zm))) fun j4=>
      bif y3==0 then
       some (LX.out (s1.1,j4))
      else
       zf (Zt (y2.list,y3)) fun y5=>
       some (LX.out (s1.1,(⟨if w64 (y5.depth+1)>j4.depth then w64 (y5.depth+1)else j4.depth,w64 (w64 (j4.tokens+y5.tokens)+1),bif j4.bad then true else y5.bad⟩:zm)))) fun j6=>
    some (LO.again (w64 (j6.1+1),j6.2))
   else
    some (LO.out s1.2):Int×zm->Option (LO (Int×zm) (zm) _)) (0,(⟨0,0,false⟩:zm)) fun o7=>
 some o7
def pz(n:Nat):List zg×Int->Option zm:=Xg (AA n) n
theorem dR(n:Nat)(Zt nest_look':List zg×Int->Option zm)(h_nest_look: ∀z,Le (Zt z) (nest_look' z))(x:List zg×Int):Le (AA n Zt x) (Jm nest_look' x):=by unfold AA Jm;exact(.loop (fun _=>(.bif (.join (.bind .rfl fun _=>(.bind .rfl fun _=>(.join (.bif .rfl .rfl) fun _=>(.bif .rfl (.bind (h_nest_look _) fun _=> .rfl))))) fun _=> .rfl) .rfl)) fun _=> .rfl)
theorem dG(n:Nat)(x:List zg×Int):Le (pz n x) (Zt x):=Le.rec (fun S S' h x=>dR n S S' h x) n x
def Bv(n:Nat)(x:List zg):Option Int:=
 zf (pz n (x,0)) fun y1=>
 bif decide (y1.depth>16)then
  some 20
 else
  bif decide (y1.tokens>1500)then
   some 4
  else
   bif y1.bad then
    some 8
   else
    some 0
theorem PH(n:Nat)(x:List zg):Le (Bv n x) (Qn x):=by unfold Bv Qn;exact(.bind (dG n _) fun _=>(.bif .rfl (.bif .rfl (.bif .rfl .rfl))))
def aA(n:Nat)(Zi:List zg×List ze->Option (List ze))(x:List zg×List ze):Option (List ze):=
 Af n (fun(s1:Int×List ze)=>
   bif decide (s1.1<(x.1.length:Int))then
    zR (X:=Int×List ze) (
      zf (geti x.1 s1.1) fun y2=>
      need (zJ s1.2.length 1 56)<|
      zf (Zh y2.token.kind) fun y3=>
      bif y3 != 0 then
       zf (Zi (y2.list,s1.2++[y2.token])) fun y4=>
       need (zJ y4.length 1 56)<|
       some (LX.out (s1.1,y4++[(⟨y3,[],0,[],false⟩:ze)]))
      else
       some (LX.out (s1.1,s1.2++[y2.token]))) fun j5=>
    some (LO.again (w64 (j5.1+1),j5.2))
   else
    some (LO.out s1.2):Int×List ze->Option (LO (Int×List ze) (List ze) _)) (0,x.2) fun o6=>
 some o6
def KH(n:Nat):List zg×List ze->Option (List ze):=Xg (aA n) n
theorem uS(n:Nat)(Zi nest_flat_3':List zg×List ze->Option (List ze))(h_nest_flat_3: ∀z,Le (Zi z) (nest_flat_3' z))(x:List zg×List ze):Le (aA n Zi x) (Q6 nest_flat_3' x):=by unfold aA Q6;exact(.loop (fun _=>(.bif (.join (.bind .rfl fun _=>(.need (.bind .rfl fun _=>(.bif (.bind (h_nest_flat_3 _) fun _=>(.need .rfl)) .rfl)))) fun _=> .rfl) .rfl)) fun _=> .rfl)
theorem KS(n:Nat)(x:List zg×List ze):Le (KH n x) (Zi x):=Le.rec (fun S S' h x=>uS n S S' h x) n x
def BA(n:Nat)(x:List zg):Option (List ze):=
 Af n (fun(s1:Int×List ze)=>
   bif decide (s1.1<(x.length:Int))then
    zR (X:=Int×List ze) (
      zf (geti x s1.1) fun y2=>
      need (zJ s1.2.length 1 56)<|
      zf (Zh y2.token.kind) fun y3=>
      bif y3 != 0 then
       zf (KH n (y2.list,s1.2++[y2.token])) fun y4=>
       need (zJ y4.length 1 56)<|
       some (LX.out (s1.1,y4++[(⟨y3,[],0,[],false⟩:ze)]))
      else
       some (LX.out (s1.1,s1.2++[y2.token]))) fun j5=>
    some (LO.again (w64 (j5.1+1),j5.2))
   else
    some (LO.out s1.2):Int×List ze->Option (LO (Int×List ze) (List ze) _)) (0,[]) fun o6=>
 some o6
theorem MS(n:Nat)(x:List zg):Le (BA n x) (Km x):=by unfold BA Km;exact(.loop (fun _=>(.bif (.join (.bind .rfl fun _=>(.need (.bind .rfl fun _=>(.bif (.bind (KS n _) fun _=>(.need .rfl)) .rfl)))) fun _=> .rfl) .rfl)) fun _=> .rfl)
def Cv(n:Nat)(x:List ze):Option Int:=
 zf (geti x 0) fun y1=>
 bif bif y1.kind==9 then y1.text==[92]else false then
  zf (qI ((1,13),x)) fun y2=>
  bif !y2 then
   some 0
  else
   some 2
 else
  zf (zU (y1.kind==2) (Jv n (y1.text,[117,114,108])) (default:Bool)) fun y3=>
  bif bif y1.kind==2 then y3 else false then
   zR (X:=Int) (
     zf (qI ((1,13),x)) fun y4=>
     bif y4 then
      some (LX.out 2)
     else
      some (LX.out 1)) fun j5=>
   zf (qI ((j5,5),x)) fun y6=>
   bif !y6 then
    some 0
   else
    some (w64 (j5+1))
  else
   some 1
theorem RH(n:Nat)(x:List ze):Le (Cv n x) (Yj x):=by unfold Cv Yj;exact(.bind .rfl fun _=>(.bif (.bind .rfl fun _=>(.bif .rfl .rfl)) (.bind (.cond (eH n _)) fun _=>(.bif (.join (.bind .rfl fun _=>(.bif .rfl .rfl)) fun _=>(.bind .rfl fun _=>(.bif .rfl .rfl))) .rfl))))
def OA(n:Nat)(x:List ze):Option Int:=
 bif decide ((x.length:Int)>1500)then
  some 4
 else
  Af n (fun(s1:Int)=>
    bif decide (s1<(x.length:Int))then
     zf (geti x s1) fun y2=>
     zf (Uu y2) fun y3=>
     need (decide (0<=s1)&&decide (s1<=(x.length:Int))|| !(!(!y3)))<|
     zf (zU (!(!y3)) (Cv n (List.drop s1.toNat x)) (default:Int)) fun y4=>
     bif bif !y3 then true else y4==0 then
      some (LO.ret 8)
     else
      some (LO.again (w64 (s1+1)))
    else
     some (LO.out ()):Int->Option (LO (Int) (Unit) _)) 0 fun o5=>
  some 0
theorem bR(n:Nat)(x:List ze):Le (OA n x) (Tq x):=by unfold OA Tq;exact(.bif .rfl (.loop (fun _=>(.bif (.bind .rfl fun _=>(.bind .rfl fun _=>(.need (.bind (.cond (RH n _)) fun _=>(.bif .rfl .rfl))))) .rfl)) fun _=> .rfl))
def qb(n:Nat)(x:(Str×Int)×List UInt8):Option (List UInt8):=
 Af n (fun(s1:Int×List UInt8)=>
   bif decide (s1.1<(x.1.1.length:Int))then
    zR (X:=Int×List UInt8) (
      zf (geti x.1.1 s1.1) fun y2=>
      zf (Sm (y2.toNat:Int)) fun y3=>
      zf (zU (!(decide (s1.1>=x.1.2))&&y3) (qW (y2.toNat:Int)) (default:Bool)) fun y4=>
      bif bif bif y3 then bif decide (s1.1>=x.1.2)then true else !y4 else false then bif x.1.2==0 then true else !(x.1.1==[45])else false then
       zf (ZP (y2.toNat:Int)) fun y5=>
       need (zJ s1.2.length 1 1)<|
       some (LX.out (s1.1,s1.2++[y5]))
      else
       zf (Zm ((y2.toNat:Int),s1.2)) fun y6=>
       some (LX.out (s1.1,y6))) fun j7=>
    some (LO.again (w64 (j7.1+1),j7.2))
   else
    some (LO.out s1.2):Int×List UInt8->Option (LO (Int×List UInt8) (List UInt8) _)) (0,x.2) fun o8=>
 some o8
theorem qX(n:Nat)(x:(Str×Int)×List UInt8):Le (qb n x) (qm x):=by unfold qb qm;exact(.loop (fun _=>(.bif (.join (.bind .rfl fun _=>(.bind .rfl fun _=>(.bind .rfl fun _=>(.bif (.bind .rfl fun _=>(.need .rfl)) (.bind .rfl fun _=> .rfl))))) fun _=> .rfl) .rfl)) fun _=> .rfl)
def GA(n:Nat)(x:ze×List UInt8):Option (List UInt8):=
 bif x.1.kind==1 then
  zf (Z9 x.1.text) fun y1=>
  zf (qb n ((x.1.text,y1),x.2)) fun y2=>
  some y2
 else
  bif x.1.kind==2 then
   zf (Z9 x.1.text) fun y3=>
   zf (qb n ((x.1.text,y3),x.2)) fun y4=>
   need (zJ y4.length 1 1)<|
   some (y4++[(40:UInt8)])
  else
   bif x.1.kind==3 then
    need (zJ x.2.length 1 1)<|
    zf (Z9 x.1.text) fun y5=>
    zf (qb n ((x.1.text,y5),x.2++[(64:UInt8)])) fun y6=>
    some y6
   else
    bif x.1.kind==4 then
     zR (X:=Int×List UInt8) (
       bif x.1.flag then
        zf (Z9 x.1.text) fun y7=>
        some (LX.out (y7,x.2))
       else
        some (LX.out (0,x.2))) fun j8=>
     need (zJ j8.2.length 1 1)<|
     zf (qb n ((x.1.text,j8.1),j8.2++[(35:UInt8)])) fun y9=>
     some y9
    else
     bif x.1.kind==5 then
      need (zJ x.2.length 1 1)<|
      need (decide (x.1.text.length<=maxLen))<|
      Af n (fun(s10:Int×List UInt8)=>
        bif decide (s10.1<(x.1.text.length:Int))then
         zR (X:=Int×List UInt8) (
           need (decide (0<=s10.1)&&decide (s10.1<(x.1.text.length:Int)))<|
           zf x.1.text[s10.1.toNat]? fun y11=>
           zf (strings_IndexByte ([10,12,13,34,92],(y11.toNat:Int))) fun y12=>
           bif decide (y12>=0)then
            zf (Zm ((y11.toNat:Int),s10.2)) fun y13=>
            some (LX.out (s10.1,y13))
           else
            zf (ZP (y11.toNat:Int)) fun y14=>
            need (zJ s10.2.length 1 1)<|
            some (LX.out (s10.1,s10.2++[y14]))) fun j15=>
         some (LO.again (w64 (j15.1+1),j15.2))
        else
         some (LO.out s10.2):Int×List UInt8->Option (LO (Int×List UInt8) (List UInt8) _)) (0,x.2++[(34:UInt8)]) fun o16=>
      need (zJ o16.length 1 1)<|
      some (o16++[(34:UInt8)])
     else
      bif x.1.kind==7 then
       need (zJ x.2.length ([117,114,108,40]:Str).length 1)<|
       need (decide (x.1.text.length<=maxLen))<|
       Af n (fun(s17:Int×List UInt8)=>
         bif decide (s17.1<(x.1.text.length:Int))then
          zR (X:=Int×List UInt8) (
            need (decide (0<=s17.1)&&decide (s17.1<(x.1.text.length:Int)))<|
            zf x.1.text[s17.1.toNat]? fun y18=>
            zf (zU (!(decide ((y18.toNat:Int)<=32))) (strings_IndexByte ([34,39,40,41,92,127],(y18.toNat:Int))) (default:Int)) fun y19=>
            bif bif decide ((y18.toNat:Int)<=32)then true else decide (y19>=0)then
             zf (Zm ((y18.toNat:Int),s17.2)) fun y20=>
             some (LX.out (s17.1,y20))
            else
             zf (ZP (y18.toNat:Int)) fun y21=>
             need (zJ s17.2.length 1 1)<|
             some (LX.out (s17.1,s17.2++[y21]))) fun j22=>
          some (LO.again (w64 (j22.1+1),j22.2))
         else
          some (LO.out s17.2):Int×List UInt8->Option (LO (Int×List UInt8) (List UInt8) _)) (0,x.2++([117,114,108,40]:Str)) fun o23=>
       need (zJ o23.length 1 1)<|
       some (o23++[(41:UInt8)])
      else
       bif x.1.kind==9 then
        need (zJ x.2.length x.1.text.length 1)<|
        some (x.2++x.1.text)
       else
        bif x.1.kind==10 then
         zf (qc ((x.1.num, !x.1.flag),x.2)) fun y24=>
         some y24
        else
         bif x.1.kind==11 then
          zf (qc ((x.1.num,false),x.2)) fun y25=>
          need (zJ y25.length 1 1)<|
          some (y25++[(37:UInt8)])
         else
          bif x.1.kind==12 then
           zf (qc ((x.1.num, !x.1.flag),x.2)) fun y26=>
           zf (geti x.1.unit 0) fun y27=>
           need (decide (1<=(x.1.unit.length:Int))|| !(ibOr IntKind.u8 (y27.toNat:Int) 32==101))<|
           zf (zU (ibOr IntKind.u8 (y27.toNat:Int) 32==101) (QR (List.drop 1 x.1.unit)) (default:Bool)) fun y28=>
           need (decide (1<=(x.1.unit.length:Int))|| !(bif ibOr IntKind.u8 (y27.toNat:Int) 32==101 then y28 else false))<|
           zf (zU (bif ibOr IntKind.u8 (y27.toNat:Int) 32==101 then y28 else false) (strings_HasPrefix (List.drop 1 x.1.unit,[45,45])) (default:Bool)) fun y29=>
           bif bif bif ibOr IntKind.u8 (y27.toNat:Int) 32==101 then y28 else false then !y29 else false then
            zf (geti x.1.unit 0) fun y30=>
            zf (Zm ((y30.toNat:Int),y26)) fun y31=>
            need (decide (1<=(x.1.unit.length:Int)))<|
            zf (qb n ((List.drop 1 x.1.unit,0),y31)) fun y32=>
            some y32
           else
            zf (Z9 x.1.unit) fun y33=>
            zf (qb n ((x.1.unit,y33),y26)) fun y34=>
            some y34
          else
           zf (ou ()) fun y35=>
           zf (geti [y35.e0,y35.e1,y35.e2,y35.e3,y35.e4,y35.e5,y35.e6,y35.e7,y35.e8,y35.e9,y35.e10,y35.e11] (wu8 (x.1.kind - 13))) fun y36=>
           need (zJ x.2.length y36.length 1)<|
           some (x.2++y36)
theorem SS(n:Nat)(x:ze×List UInt8):Le (GA n x) (Kq x):=by unfold GA Kq;exact(.bif (.bind .rfl fun _=>(.bind (qX n _) fun _=> .rfl)) (.bif (.bind .rfl fun _=>(.bind (qX n _) fun _=>(.need .rfl))) (.bif (.need (.bind .rfl fun _=>(.bind (qX n _) fun _=> .rfl))) (.bif (.join (.bif (.bind .rfl fun _=> .rfl) .rfl) fun _=>(.need (.bind (qX n _) fun _=> .rfl))) (.bif (.need (.need (.loop (fun _=>(.bif (.join (.need (.bind .rfl fun _=>(.bind .rfl fun _=>(.bif (.bind .rfl fun _=> .rfl) (.bind .rfl fun _=>(.need .rfl)))))) fun _=> .rfl) .rfl)) fun _=>(.need .rfl)))) (.bif (.need (.need (.loop (fun _=>(.bif (.join (.need (.bind .rfl fun _=>(.bind .rfl fun _=>(.bif (.bind .rfl fun _=> .rfl) (.bind .rfl fun _=>(.need .rfl)))))) fun _=> .rfl) .rfl)) fun _=>(.need .rfl)))) (.bif (.need .rfl) (.bif (.bind .rfl fun _=> .rfl) (.bif (.bind .rfl fun _=>(.need .rfl)) (.bif (.bind .rfl fun _=>(.bind .rfl fun _=>(.need (.bind .rfl fun _=>(.need (.bind .rfl fun _=>(.bif (.bind .rfl fun _=>(.bind .rfl fun _=>(.need (.bind (qX n _) fun _=> .rfl)))) (.bind .rfl fun _=>(.bind (qX n _) fun _=> .rfl))))))))) (.bind .rfl fun _=>(.bind .rfl fun _=>(.need .rfl)))))))))))))
def Qx(n:Nat)(x:List ze×List ze):Option Bool:=
 bif (x.1.length:Int) != (x.2.length:Int)then
  some false
 else
  Af n (fun(s1:Int)=>
    bif decide (s1<(x.1.length:Int))then
     zf (geti x.1 s1) fun y2=>
     zf (geti x.2 s1) fun y3=>
     bif !(y2.kind==y3.kind&&(y2.text==y3.text&&(y2.num==y3.num&&(y2.unit==y3.unit&&(y2.flag==y3.flag&&true)))))then
      some (LO.ret false)
     else
      some (LO.again (w64 (s1+1)))
    else
     some (LO.out ()):Int->Option (LO (Int) (Unit) _)) 0 fun o4=>
  some true
theorem uT(n:Nat)(x:List ze×List ze):Le (Qx n x) (qg x):=by unfold Qx qg;exact(.bif .rfl (.loop (fun _=>(.bif (.bind .rfl fun _=>(.bind .rfl fun _=>(.bif .rfl .rfl))) .rfl)) fun _=> .rfl))
def NA(n:Nat)(x:List ze):Option (Str×Int):=
 zf (OA n x) fun y1=>
 bif y1 != 0 then
  some ([],y1)
 else
  Af n (fun(s2:Int×List UInt8×List zu)=>
    bif decide (s2.1<(x.length:Int))then
     need (decide (0<=s2.1)&&decide (s2.1<=(x.length:Int)))<|
     zf (Cv n (List.drop s2.1.toNat x)) fun y3=>
     need (decide (0<=s2.1)&&(decide (s2.1<=w64 (s2.1+y3))&&decide (w64 (s2.1+y3)<=(x.length:Int))))<|
     Af n (fun(s4:Int×List UInt8)=>
       bif decide (s4.1<((List.drop s2.1.toNat (List.take (w64 (s2.1+y3)).toNat x)).length:Int))then
        zf (geti (List.drop s2.1.toNat (List.take (w64 (s2.1+y3)).toNat x)) s4.1) fun y5=>
        zf (GA n (y5,s4.2)) fun y6=>
        some (LO.again (w64 (s4.1+1),y6))
       else
        some (LO.out s4.2):Int×List UInt8->Option (LO (Int×List UInt8) (List UInt8) _)) (0,[]) fun o7=>
     zR (X:=Int×List UInt8×List zu×List UInt8) (
       zf (geti x s2.1) fun y8=>
       bif bif y8.kind==9 then y3==2 else false then
        some (LX.out (s2.1,s2.2.1,s2.2.2,[(92:UInt8),(10:UInt8)]))
       else
        some (LX.out (s2.1,s2.2.1,s2.2.2,o7))) fun j9=>
     zR (X:=Int×List UInt8×List zu×zu) (
       bif decide (w64 ((j9.2.2.1.length:Int) - 4)>=0)then
        need (decide (0<=w64 ((j9.2.2.1.length:Int) - 4))&&decide (w64 ((j9.2.2.1.length:Int) - 4)<(j9.2.2.1.length:Int)))<|
        zf (j9.2.2.1[(w64 ((j9.2.2.1.length:Int) - 4)).toNat]?) fun y10=>
        some (LX.out (j9.1,j9.2.1,j9.2.2.1,y10))
       else
        some (LX.out (j9.1,j9.2.1,j9.2.2.1,(⟨0,0⟩:zu)))) fun j11=>
     need (decide (0<=j11.2.2.2.at_)&&decide (j11.2.2.2.at_<=(j11.2.1.length:Int)))<|
     need (decide (j11.2.2.2.at_.toNat+(j11.2.1.length - j11.2.2.2.at_.toNat)<=j11.2.1.length))<|
     need (Ei (List.take (j11.2.1.length - j11.2.2.2.at_.toNat) (List.drop j11.2.2.2.at_.toNat j11.2.1)).length j9.2.2.2.length)<|
     zf (QI n (List.take (j11.2.1.length - j11.2.2.2.at_.toNat) (List.drop j11.2.2.2.at_.toNat j11.2.1)++j9.2.2.2)) fun y12=>
     zR (X:=Int×List zu×List UInt8) (
       need (decide (0<=j11.2.2.2.token)&&(decide (j11.2.2.2.token<=w64 (j11.1+y3))&&decide (w64 (j11.1+y3)<=(x.length:Int)))|| !(!(y12.2 != 0)))<|
       zf (zU (!(y12.2 != 0)) (Qx n (y12.1,List.drop j11.2.2.2.token.toNat (List.take (w64 (j11.1+y3)).toNat x))) (default:Bool)) fun y13=>
       bif bif y12.2 != 0 then true else !y13 then
        need (zJ j11.2.1.length ([47,42,42,47]:Str).length 1)<|
        some (LX.out (j11.1,j11.2.2.1,j11.2.1++([47,42,42,47]:Str)))
       else
        some (LX.out (j11.1,j11.2.2.1,j11.2.1))) fun j14=>
     need (zJ j14.2.1.length 1 16)<|
     need (zJ j14.2.2.length j9.2.2.2.length 1)<|
     bif decide (((j14.2.2++j9.2.2.2).length:Int)>4000)then
      some (LO.ret ([],28))
     else
      some (LO.again (w64 (j14.1+y3),j14.2.2++j9.2.2.2,j14.2.1++[(⟨j14.1,(j14.2.2.length:Int)⟩:zu)]))
    else
     some (LO.out s2.2.1):Int×List UInt8×List zu->Option (LO (Int×List UInt8×List zu) (List UInt8) _)) (0,[],[]) fun o15=>
  some (o15,0)
theorem aR(n:Nat)(x:List ze):Le (NA n x) (Sq x):=by unfold NA Sq;exact(.bind (bR n _) fun _=>(.bif .rfl (.loop (fun _=>(.bif (.need (.bind (RH n _) fun _=>(.need (.loop (fun _=>(.bif (.bind .rfl fun _=>(.bind (SS n _) fun _=> .rfl)) .rfl)) fun _=>(.join (.bind .rfl fun _=>(.bif .rfl .rfl)) fun _=>(.join (.bif (.need (.bind .rfl fun _=> .rfl)) .rfl) fun _=>(.need (.need (.need (.bind (bA n _) fun _=>(.join (.need (.bind (.cond (uT n _)) fun _=>(.bif (.need .rfl) .rfl))) fun _=>(.need (.need (.bif .rfl .rfl)))))))))))))) .rfl)) fun _=> .rfl)))
def rz(n:Nat)(x:List zg):Option (Str×Int):=
 zf (Bv n x) fun y1=>
 bif y1 != 0 then
  some ([],y1)
 else
  zf (BA n x) fun y2=>
  zf (NA n y2) fun y3=>
  some (y3.1,y3.2)
theorem lQ(n:Nat)(x:List zg):Le (rz n x) (Yp x):=by unfold rz Yp;exact(.bind (PH n _) fun _=>(.bif .rfl (.bind (MS n _) fun _=>(.bind (aR n _) fun _=> .rfl))))
def LA(n:Nat)(x:List zg):Option (Int×Int):=
 zf (Bv n x) fun y1=>
 bif y1 != 0 then
  some (0,y1)
 else
  zf (pz n (x,0)) fun y2=>
  some (y2.depth,0)
theorem YR(n:Nat)(x:List zg):Le (LA n x) (qY x):=by unfold LA qY;exact(.bind (PH n _) fun _=>(.bif .rfl (.bind (dG n _) fun _=> .rfl)))
def EA(n:Nat)(x:Str):Option (Str×Int×Bool):=
 zf (QI n x) fun y1=>
 zf (parseF y1.1) fun y2=>
 zf (rz n y2.1) fun y3=>
 zf (LA n y2.1) fun y4=>
 some (y3.1,y4.1,bif bif bif y1.2==0 then y2.2==0 else false then y3.2==0 else false then y4.2==0 else false)
theorem NS(n:Nat)(x:Str):Le (EA n x) (Jq x):=by unfold EA Jq;exact(.bind (bA n _) fun _=>(.bind .rfl fun _=>(.bind (lQ n _) fun _=>(.bind (YR n _) fun _=> .rfl))))
def SH(n:Nat)(x:Unit):Option Bool:=
 zf (EA n [97,40,98,91,99,41,100]) fun y1=>
 zf (QI n [97,40,98,91,99,41,100]) fun y2=>
 zf (parseF y2.1) fun y3=>
 zf (zU (bif bif bif bif bif y1.2.2 then y1.1==[97,40,98,91,99,41,100,93,41]else false then y1.2.1==2 else false then y2.2==0 else false then y3.2==0 else false then(y3.1.length:Int)==1 else false) (geti y3.1 0) (default:zg)) fun y4=>
 zf (zU (bif bif bif bif bif bif y1.2.2 then y1.1==[97,40,98,91,99,41,100,93,41]else false then y1.2.1==2 else false then y2.2==0 else false then y3.2==0 else false then(y3.1.length:Int)==1 else false then(y4.list.length:Int)==2 else false) (geti y3.1 0) (default:zg)) fun y5=>
 zf (zU (bif bif bif bif bif bif y1.2.2 then y1.1==[97,40,98,91,99,41,100,93,41]else false then y1.2.1==2 else false then y2.2==0 else false then y3.2==0 else false then(y3.1.length:Int)==1 else false then(y4.list.length:Int)==2 else false) (geti y5.list 1) (default:zg)) fun y6=>
 some (bif bif bif bif bif bif bif y1.2.2 then y1.1==[97,40,98,91,99,41,100,93,41]else false then y1.2.1==2 else false then y2.2==0 else false then y3.2==0 else false then(y3.1.length:Int)==1 else false then(y4.list.length:Int)==2 else false then(y6.list.length:Int)==3 else false)
theorem RS(n:Nat)(x:Unit):Le (SH n x) (ZU x):=by unfold SH ZU;exact(.bind (NS n _) fun _=>(.bind (bA n _) fun _=>(.bind .rfl fun _=>(.bind .rfl fun _=>(.bind .rfl fun _=>(.bind .rfl fun _=> .rfl))))))
end
end Go.Lv.VT
