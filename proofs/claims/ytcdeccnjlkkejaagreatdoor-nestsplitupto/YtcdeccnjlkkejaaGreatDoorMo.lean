/- Laws for the plain texts: loops that look for something; bytes. -/
import Derived.Test.YtcdeccnjlkkejaaGreatDoorLf
import Derived.Test.YtcdeccnjlkkejaaGreatDoorTx
set_option linter.unusedSimpArgs false
set_option linter.unusedVariables false
namespace Go.Lv.VT
abbrev big:Nat:=4194304
theorem zaq{i n:Nat}(h:i<n):decide ((i:Int)<(n:Int))=true:=decide_eq_true (by omega)
theorem zbJ(n:Nat):decide ((n:Int)<(n:Int))=false:=decide_eq_false (by omega)
theorem zaj{i n:Nat}(h:i<n)(hn:n≤big):w64 ((i:Int)+1)=((i+1:Nat):Int):=by
 rw[w64,Qs (by omega) (by unfold big at hn;omega)];omega
def idxS{α:Type}(p:α→Bool):List α→Int
 |[]=> -1
 |v::l=>bif p v then 0 else bif decide (idxS p l<0)then -1 else idxS p l+1
end Go.Lv.VT

namespace Go.Lv.VT
set_option maxRecDepth 100000
def zoV(n:Nat):=zik
theorem zrw(n:Nat)(x):Le (zoV n x) (zik x):= .rfl
def zmI(n:Nat):=zfw
theorem zp2(n:Nat)(x):Le (zmI n x) (zfw x):= .rfl
def zlc(n:Nat):=zhq
theorem zmT(n:Nat)(x):Le (zlc n x) (zhq x):= .rfl
def zl0(n:Nat):=zjq
theorem zmW(n:Nat)(x):Le (zl0 n x) (zjq x):= .rfl
def zpu(n:Nat):=zhv
theorem zrx(n:Nat)(x):Le (zpu n x) (zhv x):= .rfl
def ziy(n:Nat):=zdh
theorem zmS(n:Nat)(x):Le (ziy n x) (zdh x):= .rfl
def ztJ(n:Nat):=cutF
theorem zuj(n:Nat)(x):Le (ztJ n x) (cutF x):= .rfl
def zmA(n:Nat):=zgN
theorem zp1(n:Nat)(x):Le (zmA n x) (zgN x):= .rfl
def zj6(n:Nat):=zeI
theorem zoj(n:Nat)(x):Le (zj6 n x) (zeI x):= .rfl
def zj5(n:Nat):=zeH
theorem zoi(n:Nat)(x):Le (zj5 n x) (zeH x):= .rfl
def zlC(n:Nat):=parseF
theorem zmV(n:Nat)(x):Le (zlC n x) (parseF x):= .rfl
def ZZ(n:Nat)(x:Str×Str):Option Bool:=
 need (decide (0≤(x.2.length:Int))&&decide ((x.2.length:Int)≤(x.1.length:Int))|| !(decide ((x.1.length:Int)≥(x.2.length:Int))))<|
 some (bif decide ((x.1.length:Int)≥(x.2.length:Int))then List.take x.2.length x.1==x.2 else false)
theorem zaz(n:Nat)(x:Str×Str):Le (ZZ n x) (stringslite_HasPrefix x):=by
 unfold ZZ stringslite_HasPrefix
 exact(.need .rfl)
def Za(n:Nat)(x:Str×Str):Option Bool:=
 zb (ZZ n (x.1,x.2)) fun y1=>
 some y1
theorem Zx(n:Nat)(x:Str×Str):Le (Za n x) (strings_HasPrefix x):=by
 unfold Za strings_HasPrefix
 exact(.bind (zaz n _) fun _=> .rfl)
def ZO(n:Nat)(x:za):Option za:=
 zbD n (fun(s1:za)=>
   need (decide (0≤s1.at_)&&decide (s1.at_≤(s1.s.length:Int)))<|
   zb (Za n (List.drop s1.at_.toNat s1.s,[47,42])) fun y2=>
   bif y2 then
    need (decide (0≤w64 (s1.at_+2))&&decide (w64 (s1.at_+2)≤(s1.s.length:Int)))<|
    zb (zlc n (List.drop (w64 (s1.at_+2)).toNat s1.s,[42,47])) fun y3=>
    bif decide (y3<0)then
     some (LO.ret (⟨s1.s,(s1.s.length:Int)⟩:za))
    else
     some (LO.again (⟨s1.s,w64 (s1.at_+w64 (y3+4))⟩:za))
   else
    some (LO.out s1):za→Option (LO (za) (za) _)) x fun o4=>
 some o4
theorem Q7(n:Nat)(x:za):Le (ZO n x) (Zh x):=by
 unfold ZO Zh
 exact(.loop (fun _=>(.need (.bind (Zx n _) fun _=>(.bif (.need (.bind (zmT n _) fun _=>(.bif .rfl .rfl))) .rfl)))) fun _=> .rfl)
def zk(n:Nat)(x:Int×za):Option Int:=
 bif decide (w64 (x.2.at_+x.1)<(x.2.s.length:Int))then
  zb (geti x.2.s (w64 (x.2.at_+x.1))) fun y1=>
  some (w64 (y1.toNat:Int))
 else
  some (-1)
theorem zh(n:Nat)(x:Int×za):Le (zk n x) (zg x):=by
 unfold zk zg
 exact(.bif (.bind .rfl fun _=> .rfl) .rfl)
def Qm(n:Nat)(x:Int):Option Bool:=
 some (bif bif x==32 then true else x==9 then true else x==10)
theorem Q8(n:Nat)(x:Int):Le (Qm n x) (ZH x):=by
 unfold Qm ZH
 exact .rfl
def Zo(n:Nat)(x:za):Option za:=
 zbD n (fun(s1:za)=>
   zb (zk n (0,s1)) fun y2=>
   zb (Qm n y2) fun y3=>
   bif y3 then
    some (LO.again (⟨s1.s,w64 (s1.at_+1)⟩:za))
   else
    some (LO.out s1):za→Option (LO (za) (za) _)) x fun o4=>
 some o4
theorem qh(n:Nat)(x:za):Le (Zo n x) (zK x):=by
 unfold Zo zK
 exact(.loop (fun _=>(.bind (zh n _) fun _=>(.bind (Q8 n _) fun _=>(.bif .rfl .rfl)))) fun _=> .rfl)
def qc(n:Nat)(x:Int):Option (List UInt8):=
 bif decide (wu32 x≤2047)then
  zb (Zi (ibOr IntKind.u8 192 (wu8 (zbY IntKind.i32 x 6)))) fun y1=>
  zb (Zi (ibOr IntKind.u8 128 (zbX IntKind.u8 (wu8 x) 63))) fun y2=>
  need (zz 0 2 1)<|
  some [y1,y2]
 else
  zJ (X:=Bool) (
    bif decide (wu32 x<55296)then
     some (LX.out (decide (wu32 x<55296)))
    else
     some (LX.out (bif decide (57343<wu32 x)then decide (wu32 x≤65535)else false))) fun j3=>
  bif j3 then
   zb (Zi (ibOr IntKind.u8 224 (wu8 (zbY IntKind.i32 x 12)))) fun y4=>
   zb (Zi (ibOr IntKind.u8 128 (zbX IntKind.u8 (wu8 (zbY IntKind.i32 x 6)) 63))) fun y5=>
   zb (Zi (ibOr IntKind.u8 128 (zbX IntKind.u8 (wu8 x) 63))) fun y6=>
   need (zz 0 3 1)<|
   some [y4,y5,y6]
  else
   bif bif decide (wu32 x>65535)then decide (wu32 x≤1114111)else false then
    zb (Zi (ibOr IntKind.u8 240 (wu8 (zbY IntKind.i32 x 18)))) fun y7=>
    zb (Zi (ibOr IntKind.u8 128 (zbX IntKind.u8 (wu8 (zbY IntKind.i32 x 12)) 63))) fun y8=>
    zb (Zi (ibOr IntKind.u8 128 (zbX IntKind.u8 (wu8 (zbY IntKind.i32 x 6)) 63))) fun y9=>
    zb (Zi (ibOr IntKind.u8 128 (zbX IntKind.u8 (wu8 x) 63))) fun y10=>
    need (zz 0 4 1)<|
    some [y7,y8,y9,y10]
   else
    need (zz 0 3 1)<|
    some [(239:UInt8),(191:UInt8),(189:UInt8)]
theorem zb2(n:Nat)(x:Int):Le (qc n x) (Zk x):=by
 unfold qc Zk
 exact(.bif (.bind .rfl fun _=>(.bind .rfl fun _=>(.need .rfl))) (.join (.bif .rfl .rfl) fun _=>(.bif (.bind .rfl fun _=>(.bind .rfl fun _=>(.bind .rfl fun _=>(.need .rfl)))) (.bif (.bind .rfl fun _=>(.bind .rfl fun _=>(.bind .rfl fun _=>(.bind .rfl fun _=>(.need .rfl))))) (.need .rfl)))))
def Qn(n:Nat)(x:Int):Option (List UInt8):=
 bif decide (wu32 x≤127)then
  zb (Zi (wu8 x)) fun y1=>
  need (zz 0 1 1)<|
  some [y1]
 else
  zb (qc n x) fun y2=>
  some y2
theorem zbR(n:Nat)(x:Int):Le (Qn n x) (Z7 x):=by
 unfold Qn Z7
 exact(.bif (.bind .rfl fun _=>(.need .rfl)) (.bind (zb2 n _) fun _=> .rfl))
def Qv(n:Nat)(x:Int×Int×Int):Option Bool:=
 some (bif decide (x.2.1≤x.1)then decide (x.1≤x.2.2)else false)
theorem zaL(n:Nat)(x:Int×Int×Int):Le (Qv n x) (ZM x):=by
 unfold Qv ZM
 exact .rfl
def qF(n:Nat)(x:Int):Option Bool:=
 zb (Qv n (x,48,57)) fun y1=>
 some y1
theorem Qu(n:Nat)(x:Int):Le (qF n x) (Zt x):=by
 unfold qF Zt
 exact(.bind (zaL n _) fun _=> .rfl)
def zbn(n:Nat)(x:Int):Option Int:=
 zb (qF n x) fun y1=>
 bif y1 then
  some (w64 (x - 48))
 else
  zb (zB (x != (-1)) (Qv n (ibOr IntKind.i64 x 32,97,102)) (default:Bool)) fun y2=>
  bif bif bif bif x != (-1)then y2 else false then decide (x>64)else false then decide (x<128)else false then
   some (w64 (w64 (ibOr IntKind.i64 x 32 - 97)+10))
  else
   some (-1)
theorem zcN(n:Nat)(x:Int):Le (zbn n x) (zaZ x):=by
 unfold zbn zaZ
 exact(.bind (Qu n _) fun _=>(.bif .rfl (.bind (.cond (zaL n _)) fun _=>(.bif .rfl .rfl))))
def qK(n:Nat)(x:za):Option (za×List UInt8):=
 zb (zk n (0,(⟨x.s,w64 (x.at_+1)⟩:za))) fun y1=>
 bif y1==(-1)then
  zb (Qn n 65533) fun y2=>
  some ((⟨x.s,w64 (x.at_+1)⟩:za),y2)
 else
  zb (zbn n y1) fun y3=>
  bif decide (y3<0)then
   zb (Zi (wu8 y1)) fun y4=>
   need (zz 0 1 1)<|
   some ((⟨x.s,w64 (w64 (x.at_+1)+1)⟩:za),[y4])
  else
   zbD n (fun(s5:(Int×Int)×za)=>
     bif decide (s5.1.2<6)then
      zb (zk n (0,s5.2)) fun y6=>
      zb (zbn n y6) fun y7=>
      bif decide (y7<0)then
       some (LO.out (s5.1.1,s5.2))
      else
       some (LO.again ((ibOr IntKind.i64 (zsX IntKind.i64 s5.1.1 4) y7,w64 (s5.1.2+1)),(⟨s5.2.s,w64 (s5.2.at_+1)⟩:za)))
     else
      some (LO.out (s5.1.1,s5.2)):(Int×Int)×za→Option (LO ((Int×Int)×za) (Int×za) _)) ((0,0),(⟨x.s,w64 (x.at_+1)⟩:za)) fun o8=>
   zJ (X:=Int×za) (
     zb (zk n (0,o8.2)) fun y9=>
     zb (Qm n y9) fun y10=>
     bif y10 then
      some (LX.out (o8.1,(⟨o8.2.s,w64 (o8.2.at_+1)⟩:za)))
     else
      some (LX.out (o8.1,o8.2))) fun j11=>
   zJ (X:=Int) (
     bif j11.1==0 then
      some (LX.out 65533)
     else
      some (LX.out j11.1)) fun j12=>
   zb (Qn n (w32 j12)) fun y13=>
   some (j11.2,y13)
theorem zcE(n:Nat)(x:za):Le (qK n x) (Zu x):=by
 unfold qK Zu
 exact(.bind (zh n _) fun _=>(.bif (.bind (zbR n _) fun _=> .rfl) (.bind (zcN n _) fun _=>(.bif (.bind .rfl fun _=>(.need .rfl)) (.loop (fun _=>(.bif (.bind (zh n _) fun _=>(.bind (zcN n _) fun _=>(.bif .rfl .rfl))) .rfl)) fun _=>(.join (.bind (zh n _) fun _=>(.bind (Q8 n _) fun _=>(.bif .rfl .rfl))) fun _=>(.join (.bif .rfl .rfl) fun _=>(.bind (zbR n _) fun _=> .rfl))))))))
def qd(n:Nat)(x:Int×List UInt8):Option (List UInt8):=
 bif decide (wu32 x.1≤2047)then
  zb (Zi (ibOr IntKind.u8 192 (wu8 (zbY IntKind.i32 x.1 6)))) fun y1=>
  zb (Zi (ibOr IntKind.u8 128 (zbX IntKind.u8 (wu8 x.1) 63))) fun y2=>
  need (zz x.2.length 2 1)<|
  some (x.2++[y1,y2])
 else
  zJ (X:=Bool×List UInt8) (
    bif decide (wu32 x.1<55296)then
     some (LX.out (decide (wu32 x.1<55296),x.2))
    else
     some (LX.out (bif decide (57343<wu32 x.1)then decide (wu32 x.1≤65535)else false,x.2))) fun j3=>
  bif j3.1 then
   zb (Zi (ibOr IntKind.u8 224 (wu8 (zbY IntKind.i32 x.1 12)))) fun y4=>
   zb (Zi (ibOr IntKind.u8 128 (zbX IntKind.u8 (wu8 (zbY IntKind.i32 x.1 6)) 63))) fun y5=>
   zb (Zi (ibOr IntKind.u8 128 (zbX IntKind.u8 (wu8 x.1) 63))) fun y6=>
   need (zz j3.2.length 3 1)<|
   some (j3.2++[y4,y5,y6])
  else
   bif bif decide (wu32 x.1>65535)then decide (wu32 x.1≤1114111)else false then
    zb (Zi (ibOr IntKind.u8 240 (wu8 (zbY IntKind.i32 x.1 18)))) fun y7=>
    zb (Zi (ibOr IntKind.u8 128 (zbX IntKind.u8 (wu8 (zbY IntKind.i32 x.1 12)) 63))) fun y8=>
    zb (Zi (ibOr IntKind.u8 128 (zbX IntKind.u8 (wu8 (zbY IntKind.i32 x.1 6)) 63))) fun y9=>
    zb (Zi (ibOr IntKind.u8 128 (zbX IntKind.u8 (wu8 x.1) 63))) fun y10=>
    need (zz j3.2.length 4 1)<|
    some (j3.2++[y7,y8,y9,y10])
   else
    need (zz j3.2.length 3 1)<|
    some (j3.2++[(239:UInt8),(191:UInt8),(189:UInt8)])
theorem zb3(n:Nat)(x:Int×List UInt8):Le (qd n x) (Zl x):=by
 unfold qd Zl
 exact(.bif (.bind .rfl fun _=>(.bind .rfl fun _=>(.need .rfl))) (.join (.bif .rfl .rfl) fun _=>(.bif (.bind .rfl fun _=>(.bind .rfl fun _=>(.bind .rfl fun _=>(.need .rfl)))) (.bif (.bind .rfl fun _=>(.bind .rfl fun _=>(.bind .rfl fun _=>(.bind .rfl fun _=>(.need .rfl))))) (.need .rfl)))))
def Qo(n:Nat)(x:Int×List UInt8):Option (List UInt8):=
 bif decide (wu32 x.1≤127)then
  zb (Zi (wu8 x.1)) fun y1=>
  need (zz x.2.length 1 1)<|
  some (x.2++[y1])
 else
  zb (qd n (x.1,x.2)) fun y2=>
  some y2
theorem zbS(n:Nat)(x:Int×List UInt8):Le (Qo n x) (Z8 x):=by
 unfold Qo Z8
 exact(.bif (.bind .rfl fun _=>(.need .rfl)) (.bind (zb3 n _) fun _=> .rfl))
def Zj(n:Nat)(x:za×List UInt8):Option (za×List UInt8):=
 zb (zk n (0,(⟨x.1.s,w64 (x.1.at_+1)⟩:za))) fun y1=>
 bif y1==(-1)then
  zb (Qo n (65533,x.2)) fun y2=>
  some ((⟨x.1.s,w64 (x.1.at_+1)⟩:za),y2)
 else
  zb (zbn n y1) fun y3=>
  bif decide (y3<0)then
   zb (Zi (wu8 y1)) fun y4=>
   need (zz x.2.length 1 1)<|
   some ((⟨x.1.s,w64 (w64 (x.1.at_+1)+1)⟩:za),x.2++[y4])
  else
   zbD n (fun(s5:(Int×Int)×za)=>
     bif decide (s5.1.2<6)then
      zb (zk n (0,s5.2)) fun y6=>
      zb (zbn n y6) fun y7=>
      bif decide (y7<0)then
       some (LO.out (s5.1.1,s5.2))
      else
       some (LO.again ((ibOr IntKind.i64 (zsX IntKind.i64 s5.1.1 4) y7,w64 (s5.1.2+1)),(⟨s5.2.s,w64 (s5.2.at_+1)⟩:za)))
     else
      some (LO.out (s5.1.1,s5.2)):(Int×Int)×za→Option (LO ((Int×Int)×za) (Int×za) _)) ((0,0),(⟨x.1.s,w64 (x.1.at_+1)⟩:za)) fun o8=>
   zJ (X:=Int×za×List UInt8) (
     zb (zk n (0,o8.2)) fun y9=>
     zb (Qm n y9) fun y10=>
     bif y10 then
      some (LX.out (o8.1,(⟨o8.2.s,w64 (o8.2.at_+1)⟩:za),x.2))
     else
      some (LX.out (o8.1,o8.2,x.2))) fun j11=>
   zJ (X:=Int×List UInt8) (
     bif j11.1==0 then
      some (LX.out (65533,j11.2.2))
     else
      some (LX.out (j11.1,j11.2.2))) fun j12=>
   zb (Qo n (w32 j12.1,j12.2)) fun y13=>
   some (j11.2.1,y13)
theorem qj(n:Nat)(x:za×List UInt8):Le (Zj n x) (zD x):=by
 unfold Zj zD
 exact(.bind (zh n _) fun _=>(.bif (.bind (zbS n _) fun _=> .rfl) (.bind (zcN n _) fun _=>(.bif (.bind .rfl fun _=>(.need .rfl)) (.loop (fun _=>(.bif (.bind (zh n _) fun _=>(.bind (zcN n _) fun _=>(.bif .rfl .rfl))) .rfl)) fun _=>(.join (.bind (zh n _) fun _=>(.bind (Q8 n _) fun _=>(.bif .rfl .rfl))) fun _=>(.join (.bif .rfl .rfl) fun _=>(.bind (zbS n _) fun _=> .rfl))))))))
def Qy(n:Nat)(x:za):Option (zf×za):=
 zb (zk n (0,x)) fun y1=>
 zbD n (fun(s2:za×zf×List UInt8)=>
   zb (zk n (0,s2.1)) fun y3=>
   bif y3==(-1)then
    some (LO.out (s2.1,s2.2.1,s2.2.2))
   else
    bif y3==y1 then
     some (LO.out ((⟨s2.1.s,w64 (s2.1.at_+1)⟩:za),s2.2.1,s2.2.2))
    else
     bif y3==10 then
      some (LO.ret ((⟨6,[],0,[],false⟩:zf),s2.1))
     else
      zb (zB (y3==92) (zk n (1,s2.1)) (default:Int)) fun y4=>
      zb (zB (!(y4==(-1))&&y3==92) (zk n (1,s2.1)) (default:Int)) fun y5=>
      bif bif y3==92 then bif y4==(-1)then true else y5==10 else false then
       some (LO.again ((⟨s2.1.s,if(s2.1.s.length:Int)<w64 (s2.1.at_+2)then(s2.1.s.length:Int)else w64 (s2.1.at_+2)⟩:za),s2.2.1,s2.2.2))
      else
       bif y3==92 then
        zb (Zj n (s2.1,s2.2.2)) fun y6=>
        some (LO.again (y6.1,s2.2.1,y6.2))
       else
        zb (Zi (wu8 y3)) fun y7=>
        need (zz s2.2.2.length 1 1)<|
        some (LO.again ((⟨s2.1.s,w64 (s2.1.at_+1)⟩:za),s2.2.1,s2.2.2++[y7])):za×zf×List UInt8→Option (LO (za×zf×List UInt8) (za×zf×List UInt8) _)) ((⟨x.s,w64 (x.at_+1)⟩:za),(⟨0,[],0,[],false⟩:zf),[]) fun o8=>
 some ((⟨5,o8.2.2,0,[],false⟩:zf),o8.1)
theorem zdI(n:Nat)(x:za):Le (Qy n x) (ZW x):=by
 unfold Qy ZW
 exact(.bind (zh n _) fun _=>(.loop (fun _=>(.bind (zh n _) fun _=>(.bif .rfl (.bif .rfl (.bif .rfl (.bind (.cond (zh n _)) fun _=>(.bind (.cond (zh n _)) fun _=>(.bif .rfl (.bif (.bind (qj n _) fun _=> .rfl) (.bind .rfl fun _=>(.need .rfl))))))))))) fun _=> .rfl))
def zaY(n:Nat)(x:Int):Option Bool:=
 zb (Qv n (ibOr IntKind.i64 x 32,97,122)) fun y1=>
 some (bif bif bif bif y1 then decide (x<128)else false then decide (x>64)else false then true else x==95 then true else decide (x≥128))
theorem zc1(n:Nat)(x:Int):Le (zaY n x) (QH x):=by
 unfold zaY QH
 exact(.bind (zaL n _) fun _=> .rfl)
def zbv(n:Nat)(x:Int):Option Bool:=
 zb (zaY n x) fun y1=>
 zb (zB (!y1) (qF n x) (default:Bool)) fun y2=>
 some (bif bif y1 then true else y2 then true else x==45)
theorem zek(n:Nat)(x:Int):Le (zbv n x) (QI x):=by
 unfold zbv QI
 exact(.bind (zc1 n _) fun _=>(.bind (.cond (Qu n _)) fun _=> .rfl))
def zM(n:Nat)(x:Int×za):Option Bool:=
 zb (zk n (x.1,x.2)) fun y1=>
 zb (zB (y1==92) (zk n (w64 (x.1+1),x.2)) (default:Int)) fun y2=>
 some (bif y1==92 then y2 != 10 else false)
theorem Zd(n:Nat)(x:Int×za):Le (zM n x) (zy x):=by
 unfold zM zy
 exact(.bind (zh n _) fun _=>(.bind (.cond (zh n _)) fun _=> .rfl))
def Zy(n:Nat)(x:Int×za):Option Bool:=
 zb (zk n (x.1,x.2)) fun y1=>
 bif y1 != 45 then
  zb (zk n (x.1,x.2)) fun y2=>
  zb (zaY n y2) fun y3=>
  zb (zB (!y3) (zM n (x.1,x.2)) (default:Bool)) fun y4=>
  some (bif y3 then true else y4)
 else
  zb (zk n (w64 (x.1+1),x.2)) fun y5=>
  zb (zaY n y5) fun y6=>
  zb (zB (!y6) (zk n (w64 (x.1+1),x.2)) (default:Int)) fun y7=>
  zb (zB (!(bif y6 then true else y7==45)) (zM n (w64 (x.1+1),x.2)) (default:Bool)) fun y8=>
  some (bif bif y6 then true else y7==45 then true else y8)
theorem qy(n:Nat)(x:Int×za):Le (Zy n x) (zV x):=by
 unfold Zy zV
 exact(.bind (zh n _) fun _=>(.bif (.bind (zh n _) fun _=>(.bind (zc1 n _) fun _=>(.bind (.cond (Zd n _)) fun _=> .rfl))) (.bind (zh n _) fun _=>(.bind (zc1 n _) fun _=>(.bind (.cond (zh n _)) fun _=>(.bind (.cond (Zd n _)) fun _=> .rfl))))))
def Zz(n:Nat)(x:za):Option (Str×za):=
 zbD n (fun(s1:za×List UInt8)=>
   zb (zk n (0,s1.1)) fun y2=>
   zb (zbv n y2) fun y3=>
   bif y3 then
    zb (Zi (wu8 y2)) fun y4=>
    need (zz s1.2.length 1 1)<|
    some (LO.again ((⟨s1.1.s,w64 (s1.1.at_+1)⟩:za),s1.2++[y4]))
   else
    zb (zB (y2 != (-1)) (zM n (0,s1.1)) (default:Bool)) fun y5=>
    bif bif y2 != (-1)then y5 else false then
     zb (Zj n (s1.1,s1.2)) fun y6=>
     some (LO.again (y6.1,y6.2))
    else
     some (LO.ret (s1.2,s1.1)):za×List UInt8→Option (LO (za×List UInt8) (Unit) _)) (x,[]) fun o7=>
 none
theorem qz(n:Nat)(x:za):Le (Zz n x) (zO x):=by
 unfold Zz zO
 exact(.loop (fun _=>(.bind (zh n _) fun _=>(.bind (zek n _) fun _=>(.bif (.bind .rfl fun _=>(.need .rfl)) (.bind (.cond (Zd n _)) fun _=>(.bif (.bind (qj n _) fun _=> .rfl) .rfl)))))) fun _=> .none)
def Qx(n:Nat)(x:za):Option Bool:=
 zJ (X:=Int) (
   zb (zk n (0,x)) fun y1=>
   bif bif y1==43 then true else y1==45 then
    some (LX.out 1)
   else
    some (LX.out 0)) fun j2=>
 zJ (X:=Int) (
   zb (zk n (j2,x)) fun y3=>
   bif y3==46 then
    some (LX.out (w64 (j2+1)))
   else
    some (LX.out j2)) fun j4=>
 zb (zk n (j4,x)) fun y5=>
 zb (qF n y5) fun y6=>
 some y6
theorem zdH(n:Nat)(x:za):Le (Qx n x) (ZV x):=by
 unfold Qx ZV
 exact(.join (.bind (zh n _) fun _=>(.bif .rfl .rfl)) fun _=>(.join (.bind (zh n _) fun _=>(.bif .rfl .rfl)) fun _=>(.bind (zh n _) fun _=>(.bind (Qu n _) fun _=> .rfl))))
def Zv(n:Nat)(x:za):Option za:=
 zbD n (fun(s1:za)=>
   zb (zk n (0,s1)) fun y2=>
   zb (qF n y2) fun y3=>
   bif y3 then
    some (LO.again (⟨s1.s,w64 (s1.at_+1)⟩:za))
   else
    some (LO.out s1):za→Option (LO (za) (za) _)) x fun o4=>
 some o4
theorem qU(n:Nat)(x:za):Le (Zv n x) (Zb x):=by
 unfold Zv Zb
 exact(.loop (fun _=>(.bind (zh n _) fun _=>(.bind (Qu n _) fun _=>(.bif .rfl .rfl)))) fun _=> .rfl)
def Qk(n:Nat)(x:za):Option (Bool×za):=
 zJ (X:=za) (
   zb (zk n (0,x)) fun y1=>
   bif bif y1==43 then true else y1==45 then
    some (LX.out (⟨x.s,w64 (x.at_+1)⟩:za))
   else
    some (LX.out x)) fun j2=>
 zb (Zv n j2) fun y3=>
 zJ (X:=Bool×za) (
   zb (zk n (0,y3)) fun y4=>
   zb (zB (y4==46) (zk n (1,y3)) (default:Int)) fun y5=>
   zb (zB (y4==46) (qF n y5) (default:Bool)) fun y6=>
   bif bif y4==46 then y6 else false then
    zb (Zv n (⟨y3.s,w64 (y3.at_+1)⟩:za)) fun y7=>
    some (LX.out (false,y7))
   else
    some (LX.out (true,y3))) fun j8=>
 zJ (X:=Bool×za) (
   zb (zk n (0,j8.2)) fun y9=>
   zb (zB (!(y9==101)) (zk n (0,j8.2)) (default:Int)) fun y10=>
   bif bif y9==101 then true else y10==69 then
    zJ (X:=(Bool×Int)×za) (
      zb (zk n (1,j8.2)) fun y11=>
      bif bif y11==43 then true else y11==45 then
       some (LX.out ((j8.1,2),j8.2))
      else
       some (LX.out ((j8.1,1),j8.2))) fun j12=>
    zb (zk n (j12.1.2,j12.2)) fun y13=>
    zb (qF n y13) fun y14=>
    bif y14 then
     zb (Zv n (⟨j12.2.s,w64 (j12.2.at_+j12.1.2)⟩:za)) fun y15=>
     some (LX.out (false,y15))
    else
     some (LX.out (j12.1.1,j12.2))
   else
    some (LX.out (j8.1,j8.2))) fun j16=>
 some (j16.1,j16.2)
theorem zdj(n:Nat)(x:za):Le (Qk n x) (ZK x):=by
 unfold Qk ZK
 exact(.join (.bind (zh n _) fun _=>(.bif .rfl .rfl)) fun _=>(.bind (qU n _) fun _=>(.join (.bind (zh n _) fun _=>(.bind (.cond (zh n _)) fun _=>(.bind (.cond (Qu n _)) fun _=>(.bif (.bind (qU n _) fun _=> .rfl) .rfl)))) fun _=>(.join (.bind (zh n _) fun _=>(.bind (.cond (zh n _)) fun _=>(.bif (.join (.bind (zh n _) fun _=>(.bif .rfl .rfl)) fun _=>(.bind (zh n _) fun _=>(.bind (Qu n _) fun _=>(.bif (.bind (qU n _) fun _=> .rfl) .rfl)))) .rfl))) fun _=> .rfl))))
def zat(n:Nat)(x:Str):Option Int:=
 zb (geti x 0) fun y1=>
 zb (zl0 n (x,[43,45])) fun y2=>
 zJ (X:=Str×Int) (
   zb (ziy n (y2,[101,69])) fun y3=>
   bif decide (y3≥0)then
    need (decide (0≤w64 (y3+1))&&decide (w64 (y3+1)≤(y2.length:Int)))<|
    zb (zl0 n (List.drop (w64 (y3+1)).toNat y2,[43,45])) fun y4=>
    need (decide (y4.length≤maxLen))<|
    zbD n (fun(s5:Int×Int)=>
      bif decide (s5.2<(y4.length:Int))then
       need (decide (0≤s5.2)&&decide (s5.2<(y4.length:Int)))<|
       zb y4[s5.2.toNat]? fun y6=>
       some (LO.again (if 1048576<w64 (w64 (10*s5.1)+w64 (wu8 ((y6.toNat:Int) - 48)))then 1048576 else w64 (w64 (10*s5.1)+w64 (wu8 ((y6.toNat:Int) - 48))),w64 (s5.2+1)))
      else
       some (LO.out s5.1):Int×Int→Option (LO (Int×Int) (Int) _)) (0,0) fun o7=>
    zJ (X:=Str×Int×Int) (
      zb (geti y2 (w64 (y3+1))) fun y8=>
      bif (y8.toNat:Int)==45 then
       some (LX.out (y2,3,w64 (0 - o7)))
      else
       some (LX.out (y2,3,o7))) fun j9=>
    need (decide (0≤y3)&&decide (y3≤(j9.1.length:Int)))<|
    some (LX.out (List.take y3.toNat j9.1,w64 (j9.2.1+j9.2.2)))
   else
    some (LX.out (y2,3))) fun j10=>
 zb (ztJ n (j10.1,[46])) fun y11=>
 need (zlR y11.1.length y11.2.1.length)<|
 zJ (X:=Str×Int) (
   bif decide (w64 (j10.2 - (y11.2.1.length:Int))<0)then
    need (decide (0≤(if w64 (((y11.1++y11.2.1).length:Int)+w64 (j10.2 - (y11.2.1.length:Int)))>0 then w64 (((y11.1++y11.2.1).length:Int)+w64 (j10.2 - (y11.2.1.length:Int)))else 0))&&decide ((if w64 (((y11.1++y11.2.1).length:Int)+w64 (j10.2 - (y11.2.1.length:Int)))>0 then w64 (((y11.1++y11.2.1).length:Int)+w64 (j10.2 - (y11.2.1.length:Int)))else 0)≤((y11.1++y11.2.1).length:Int)))<|
    some (LX.out (List.take (if w64 (((y11.1++y11.2.1).length:Int)+w64 (j10.2 - (y11.2.1.length:Int)))>0 then w64 (((y11.1++y11.2.1).length:Int)+w64 (j10.2 - (y11.2.1.length:Int)))else 0).toNat (y11.1++y11.2.1),w64 (j10.2 - (y11.2.1.length:Int))))
   else
    some (LX.out (y11.1++y11.2.1,w64 (j10.2 - (y11.2.1.length:Int))))) fun j12=>
 need (decide (j12.1.length≤maxLen))<|
 zbD n (fun(s13:Int×Int)=>
   bif decide (s13.2<(j12.1.length:Int))then
    need (decide (0≤s13.2)&&decide (s13.2<(j12.1.length:Int)))<|
    zb j12.1[s13.2.toNat]? fun y14=>
    some (LO.again (if 1000000000000<w64 (w64 (10*s13.1)+w64 (wu8 ((y14.toNat:Int) - 48)))then 1000000000000 else w64 (w64 (10*s13.1)+w64 (wu8 ((y14.toNat:Int) - 48))),w64 (s13.2+1)))
   else
    some (LO.out s13.1):Int×Int→Option (LO (Int×Int) (Int) _)) (0,0) fun o15=>
 zbD n (fun(s16:Int×Int)=>
   bif bif bif decide (s16.1>0)then decide (s16.2>0)else false then decide (s16.2<1000000000000)else false then
    some (LO.again (w64 (s16.1 - 1),if 1000000000000<w64 (10*s16.2)then 1000000000000 else w64 (10*s16.2)))
   else
    some (LO.out s16.2):Int×Int→Option (LO (Int×Int) (Int) _)) (j12.2,o15) fun o17=>
 zJ (X:=Int) (
   bif (y1.toNat:Int)==45 then
    some (LX.out (w64 (0 - o17)))
   else
    some (LX.out o17)) fun j18=>
 some j18
theorem zeY(n:Nat)(x:Str):Le (zat n x) (Qb x):=by
 unfold zat Qb
 exact(.bind .rfl fun _=>(.bind (zmW n _) fun _=>(.join (.bind (zmS n _) fun _=>(.bif (.need (.bind (zmW n _) fun _=>(.need (.loop (fun _=>(.bif (.need (.bind .rfl fun _=> .rfl)) .rfl)) fun _=>(.join (.bind .rfl fun _=>(.bif .rfl .rfl)) fun _=>(.need .rfl)))))) .rfl)) fun _=>(.bind (zuj n _) fun _=>(.need (.join (.bif (.need .rfl) .rfl) fun _=>(.need (.loop (fun _=>(.bif (.need (.bind .rfl fun _=> .rfl)) .rfl)) fun _=>(.loop (fun _=>(.bif .rfl .rfl)) fun _=>(.join (.bif .rfl .rfl) fun _=> .rfl))))))))))
def Ql(n:Nat)(x:za):Option (zf×za):=
 zb (Qk n x) fun y1=>
 need (decide (0≤x.at_)&&(decide (x.at_≤y1.2.at_)&&decide (y1.2.at_≤(y1.2.s.length:Int))))<|
 zb (zat n (List.drop x.at_.toNat (List.take y1.2.at_.toNat y1.2.s))) fun y2=>
 zJ (X:=za×zf×zf) (
   zb (Zy n (0,y1.2)) fun y3=>
   bif y3 then
    zb (Zz n y1.2) fun y4=>
    some (LX.out (y4.2,(⟨0,[],0,[],false⟩:zf),(⟨12,[],y2,y4.1,y1.1⟩:zf)))
   else
    zb (zk n (0,y1.2)) fun y5=>
    bif y5==37 then
     some (LX.out ((⟨y1.2.s,w64 (y1.2.at_+1)⟩:za),(⟨0,[],0,[],false⟩:zf),(⟨11,[],y2,[],false⟩:zf)))
    else
     some (LX.out (y1.2,(⟨0,[],0,[],false⟩:zf),(⟨10,[],y2,[],y1.1⟩:zf)))) fun j6=>
 some (j6.2.2,j6.1)
theorem zdk(n:Nat)(x:za):Le (Ql n x) (ZL x):=by
 unfold Ql ZL
 exact(.bind (zdj n _) fun _=>(.need (.bind (zeY n _) fun _=>(.join (.bind (qy n _) fun _=>(.bif (.bind (qz n _) fun _=> .rfl) (.bind (zh n _) fun _=>(.bif .rfl .rfl)))) fun _=> .rfl))))
def zb0(n:Nat)(x:Str):Option Str:=
 need (decide (x.length≤maxLen))<|
 zbD n (fun(s1:Int×List UInt8)=>
   bif decide (s1.1<(x.length:Int))then
    zJ (X:=Int×List UInt8) (
      need (decide (0≤s1.1)&&decide (s1.1<(s1.2.length:Int)))<|
      zb s1.2[s1.1.toNat]? fun y2=>
      bif bif decide (65≤(y2.toNat:Int))then decide ((y2.toNat:Int)≤90)else false then
       need (decide (0≤s1.1)&&decide (s1.1<(s1.2.length:Int)))<|
       zb s1.2[s1.1.toNat]? fun y3=>
       need (decide (0≤s1.1)&&decide (s1.1<(s1.2.length:Int)))<|
       zb s1.2[s1.1.toNat]? fun y4=>
       zb (Zi (ibOr IntKind.u8 (y3.toNat:Int) 32)) fun y5=>
       some (LX.out (s1.1,List.set s1.2 s1.1.toNat y5))
      else
       some (LX.out (s1.1,s1.2))) fun j6=>
    some (LO.again (w64 (j6.1+1),j6.2))
   else
    some (LO.out s1.2):Int×List UInt8→Option (LO (Int×List UInt8) (List UInt8) _)) (0,x) fun o7=>
 some o7
theorem zfd(n:Nat)(x:Str):Le (zb0 n x) (zbd x):=by
 unfold zb0 zbd
 exact(.need (.loop (fun _=>(.bif (.join (.need (.bind .rfl fun _=>(.bif (.need (.bind .rfl fun _=>(.need (.bind .rfl fun _=>(.bind .rfl fun _=> .rfl))))) .rfl))) fun _=> .rfl) .rfl)) fun _=> .rfl))
def zbZ(n:Nat)(x:Str×Str):Option Bool:=
 zb (zb0 n x.1) fun y1=>
 zb (zb0 n x.2) fun y2=>
 some (y1==y2)
theorem zfc(n:Nat)(x:Str×Str):Le (zbZ n x) (zam x):=by
 unfold zbZ zam
 exact(.bind (zfd n _) fun _=>(.bind (zfd n _) fun _=> .rfl))
def qa(n:Nat)(x:za):Option (zf×za):=
 zbD n (fun(s1:za×zf)=>
   zb (zk n (0,s1.1)) fun y2=>
   bif y2==(-1)then
    some (LO.ret ((⟨8,[],0,[],false⟩:zf),s1.1))
   else
    zb (zM n (0,s1.1)) fun y3=>
    bif y3 then
     zb (qK n s1.1) fun y4=>
     some (LO.again (y4.1,s1.2))
    else
     zb (geti s1.1.s (w64 (w64 (s1.1.at_+1) - 1))) fun y5=>
     bif (y5.toNat:Int)==41 then
      some (LO.ret ((⟨8,[],0,[],false⟩:zf),(⟨s1.1.s,w64 (s1.1.at_+1)⟩:za)))
     else
      some (LO.again ((⟨s1.1.s,w64 (s1.1.at_+1)⟩:za),s1.2)):za×zf→Option (LO (za×zf) (Unit) _)) (x,(⟨0,[],0,[],false⟩:zf)) fun o6=>
 none
theorem QV(n:Nat)(x:za):Le (qa n x) (ZG x):=by
 unfold qa ZG
 exact(.loop (fun _=>(.bind (zh n _) fun _=>(.bif .rfl (.bind (Zd n _) fun _=>(.bif (.bind (zcE n _) fun _=> .rfl) (.bind .rfl fun _=>(.bif .rfl .rfl))))))) fun _=> .none)
def zas(n:Nat)(x:za):Option (zf×za):=
 zb (Zo n x) fun y1=>
 zbD n (fun(s2:za×zf×List UInt8)=>
   zb (zk n (0,s2.1)) fun y3=>
   zJ (X:=Int×za×zf×List UInt8) (
     zb (Qm n y3) fun y4=>
     bif y4 then
      zb (Zo n s2.1) fun y5=>
      zb (zk n (0,y5)) fun y6=>
      bif bif y6 != 41 then y6 != (-1)else false then
       zb (qa n y5) fun y7=>
       some (LX.ret (LO.ret (y7.1,y7.2)))
      else
       some (LX.out (y6,y5,s2.2.1,s2.2.2))
     else
      some (LX.out (y3,s2.1,s2.2.1,s2.2.2))) fun j8=>
   bif j8.1==(-1)then
    some (LO.ret ((⟨7,j8.2.2.2,0,[],false⟩:zf),j8.2.1))
   else
    bif j8.1==41 then
     some (LO.ret ((⟨7,j8.2.2.2,0,[],false⟩:zf),(⟨j8.2.1.s,w64 (j8.2.1.at_+1)⟩:za)))
    else
     zb (zB (!(bif bif bif bif j8.1==34 then true else j8.1==39 then true else j8.1==40 then true else decide (j8.1≤8)then true else j8.1==11)) (Qv n (j8.1,14,31)) (default:Bool)) fun y9=>
     bif bif bif bif bif bif bif j8.1==34 then true else j8.1==39 then true else j8.1==40 then true else decide (j8.1≤8)then true else j8.1==11 then true else y9 then true else j8.1==127 then
      zb (qa n j8.2.1) fun y10=>
      some (LO.ret (y10.1,y10.2))
     else
      bif j8.1 != 92 then
       zb (Zi (wu8 j8.1)) fun y11=>
       need (zz j8.2.2.2.length 1 1)<|
       some (LO.again ((⟨j8.2.1.s,w64 (j8.2.1.at_+1)⟩:za),j8.2.2.1,j8.2.2.2++[y11]))
      else
       zb (zM n (0,j8.2.1)) fun y12=>
       bif y12 then
        zb (Zj n (j8.2.1,j8.2.2.2)) fun y13=>
        some (LO.again (y13.1,j8.2.2.1,y13.2))
       else
        zb (qa n j8.2.1) fun y14=>
        some (LO.ret (y14.1,y14.2)):za×zf×List UInt8→Option (LO (za×zf×List UInt8) (Unit) _)) (y1,(⟨0,[],0,[],false⟩:zf),[]) fun o15=>
 none
theorem zeX(n:Nat)(x:za):Le (zas n x) (Qa x):=by
 unfold zas Qa
 exact(.bind (qh n _) fun _=>(.loop (fun _=>(.bind (zh n _) fun _=>(.join (.bind (Q8 n _) fun _=>(.bif (.bind (qh n _) fun _=>(.bind (zh n _) fun _=>(.bif (.bind (QV n _) fun _=> .rfl) .rfl))) .rfl)) fun _=>(.bif .rfl (.bif .rfl (.bind (.cond (zaL n _)) fun _=>(.bif (.bind (QV n _) fun _=> .rfl) (.bif (.bind .rfl fun _=>(.need .rfl)) (.bind (Zd n _) fun _=>(.bif (.bind (qj n _) fun _=> .rfl) (.bind (QV n _) fun _=> .rfl))))))))))) fun _=> .none))
def QJ(n:Nat)(x:za):Option (zf×za):=
 zb (Zz n x) fun y1=>
 zb (zk n (0,y1.2)) fun y2=>
 bif y2 != 40 then
  some ((⟨1,y1.1,0,[],false⟩:zf),y1.2)
 else
  zJ (X:=za×zf) (
    zb (zbZ n (y1.1,[117,114,108])) fun y3=>
    bif y3 then
     zb (Zo n (⟨y1.2.s,w64 (y1.2.at_+1)⟩:za)) fun y4=>
     zb (zk n (0,y4)) fun y5=>
     bif bif y5 != 34 then y5 != 39 else false then
      zb (zas n (⟨y1.2.s,w64 (y1.2.at_+1)⟩:za)) fun y6=>
      some (LX.ret (y6.1,y6.2))
     else
      some (LX.out ((⟨y1.2.s,w64 (y1.2.at_+1)⟩:za),(⟨0,[],0,[],false⟩:zf)))
    else
     some (LX.out ((⟨y1.2.s,w64 (y1.2.at_+1)⟩:za),(⟨0,[],0,[],false⟩:zf)))) fun j7=>
  some ((⟨2,y1.1,0,[],false⟩:zf),j7.1)
theorem zdZ(n:Nat)(x:za):Le (QJ n x) (qb x):=by
 unfold QJ qb
 exact(.bind (qz n _) fun _=>(.bind (zh n _) fun _=>(.bif .rfl (.join (.bind (zfc n _) fun _=>(.bif (.bind (qh n _) fun _=>(.bind (zh n _) fun _=>(.bif (.bind (zeX n _) fun _=> .rfl) .rfl))) .rfl)) fun _=> .rfl))))
def ZF(n:Nat)(x:Str×Int):Option Int:=
 zb (zmI n (x.1,x.2)) fun y1=>
 some y1
theorem qM(n:Nat)(x:Str×Int):Le (ZF n x) (strings_IndexByte x):=by
 unfold ZF strings_IndexByte
 exact(.bind (zp2 n _) fun _=> .rfl)
def QZ(n:Nat)(x:za):Option (zf×za):=
 zb (zk n (0,x)) fun y1=>
 need (decide (0≤x.at_)&&decide (x.at_≤(x.s.length:Int)))<|
 zb (Qm n y1) fun y2=>
 bif y2 then
  zb (Zo n x) fun y3=>
  some ((⟨13,[],0,[],false⟩:zf),y3)
 else
  bif bif y1==34 then true else y1==39 then
   zb (Qy n x) fun y4=>
   some (y4.1,y4.2)
  else
   zb (zB (y1==35) (zk n (1,x)) (default:Int)) fun y5=>
   zb (zB (y1==35) (zbv n y5) (default:Bool)) fun y6=>
   zb (zB (!y6&&y1==35) (zM n (1,x)) (default:Bool)) fun y7=>
   bif bif y1==35 then bif y6 then true else y7 else false then
    zb (Zy n (1,x)) fun y8=>
    zb (Zz n (⟨x.s,w64 (x.at_+1)⟩:za)) fun y9=>
    some ((⟨4,y9.1,0,[],y8⟩:zf),y9.2)
   else
    zb (Qx n x) fun y10=>
    bif y10 then
     zb (Ql n x) fun y11=>
     some (y11.1,y11.2)
    else
     zb (Za n (List.drop x.at_.toNat x.s,[45,45,62])) fun y12=>
     bif y12 then
      some ((⟨15,[],0,[],false⟩:zf),(⟨x.s,w64 (x.at_+3)⟩:za))
     else
      zb (Za n (List.drop x.at_.toNat x.s,[60,33,45,45])) fun y13=>
      bif y13 then
       some ((⟨14,[],0,[],false⟩:zf),(⟨x.s,w64 (x.at_+4)⟩:za))
      else
       zb (zB (y1==64) (Zy n (1,x)) (default:Bool)) fun y14=>
       bif bif y1==64 then y14 else false then
        zb (Zz n (⟨x.s,w64 (x.at_+1)⟩:za)) fun y15=>
        some ((⟨3,y15.1,0,[],false⟩:zf),y15.2)
       else
        zb (Zy n (0,x)) fun y16=>
        bif y16 then
         zb (QJ n x) fun y17=>
         some (y17.1,y17.2)
        else
         zb (ZF n ([58,59,44,91,93,40,41,123,125],wu8 y1)) fun y18=>
         bif decide (y18≥0)then
          some ((⟨wu8 (16+wu8 y18),[],0,[],false⟩:zf),(⟨x.s,w64 (x.at_+1)⟩:za))
         else
          need (decide (1≤((List.drop x.at_.toNat x.s).length:Int)))<|
          some ((⟨9,List.take 1 (List.drop x.at_.toNat x.s),0,[],false⟩:zf),(⟨x.s,w64 (x.at_+1)⟩:za))
theorem zel(n:Nat)(x:za):Le (QZ n x) (qG x):=by
 unfold QZ qG
 exact(.bind (zh n _) fun _=>(.need (.bind (Q8 n _) fun _=>(.bif (.bind (qh n _) fun _=> .rfl) (.bif (.bind (zdI n _) fun _=> .rfl) (.bind (.cond (zh n _)) fun _=>(.bind (.cond (zek n _)) fun _=>(.bind (.cond (Zd n _)) fun _=>(.bif (.bind (qy n _) fun _=>(.bind (qz n _) fun _=> .rfl)) (.bind (zdH n _) fun _=>(.bif (.bind (zdk n _) fun _=> .rfl) (.bind (Zx n _) fun _=>(.bif .rfl (.bind (Zx n _) fun _=>(.bif .rfl (.bind (.cond (qy n _)) fun _=>(.bif (.bind (qz n _) fun _=> .rfl) (.bind (qy n _) fun _=>(.bif (.bind (zdZ n _) fun _=> .rfl) (.bind (qM n _) fun _=>(.bif .rfl (.need .rfl))))))))))))))))))))))
def zaX(n:Nat)(x:(zf×Int×Int)×List zf):Option (List zf):=
 need (zz x.2.length 1 56)<|
 some (x.2++[x.1.1])
theorem zfA(n:Nat)(x:(zf×Int×Int)×List zf):Le (zaX n x) (Qr x):=by
 unfold zaX Qr
 exact(.need .rfl)
def zc7(n:Nat)(x:Str):Option (Int×List zf):=
 zb (zoV n x) fun y1=>
 bif y1.2 != 0 then
  some (y1.2,[])
 else
  zb (ZO n (⟨y1.1,0⟩:za)) fun y2=>
  zbD n (fun(s3:Int×List zf×za)=>
    bif decide (s3.2.2.at_<(y1.1.length:Int))then
     bif decide (w64 (s3.1+1)>1500)then
      some (LO.ret (4,s3.2.1))
     else
      zb (QZ n s3.2.2) fun y4=>
      zb (zaX n ((y4.1,s3.2.2.at_,y4.2.at_),s3.2.1)) fun y5=>
      zb (ZO n y4.2) fun y6=>
      some (LO.again (w64 (s3.1+1),y5,y6))
    else
     some (LO.out (s3.2.1,s3.2.2)):Int×List zf×za→Option (LO (Int×List zf×za) (List zf×za) _)) (0,[],y2) fun o7=>
  some (0,o7.1)
theorem ziG(n:Nat)(x:Str):Le (zc7 n x) (zbH x):=by
 unfold zc7 zbH
 exact(.bind (zrw n _) fun _=>(.bif .rfl (.bind (Q7 n _) fun _=>(.loop (fun _=>(.bif (.bif .rfl (.bind (zel n _) fun _=>(.bind (zfA n _) fun _=>(.bind (Q7 n _) fun _=> .rfl)))) .rfl)) fun _=> .rfl))))
def zaf(n:Nat)(x:Str):Option (List zf×Int):=
 zb (zc7 n x) fun y1=>
 bif y1.1 != 0 then
  some ([],y1.1)
 else
  some (y1.2,0)
theorem zct(n:Nat)(x:Str):Le (zaf n x) (qE x):=by
 unfold zaf qE
 exact(.bind (ziG n _) fun _=>(.bif .rfl .rfl))
def zaO(n:Nat)(x:Int):Option Int:=
 bif x==2 then
  some 22
 else
  zJ (X:=Bool) (
    bif x==19 then
     some (LX.out (x==19))
    else
     bif x==21 then
      some (LX.out (x==21))
     else
      some (LX.out (x==23))) fun j1=>
  bif j1 then
   some (wu8 (x+1))
  else
   some 0
theorem zcZ(n:Nat)(x:Int):Le (zaO n x) (Zq x):=by
 unfold zaO Zq
 exact(.bif .rfl (.join (.bif .rfl (.bif .rfl .rfl)) fun _=>(.bif .rfl .rfl)))
def zdN(n:Nat)(ZA:List ze×Int→Option zo)(x:List ze×Int):Option zo:=
 zbD n (fun(s1:Int×zo)=>
   bif decide (s1.1<(x.1.length:Int))then
    zJ (X:=Int×zo) (
      zb (geti x.1 s1.1) fun y2=>
      zb (zaO n y2.token.kind) fun y3=>
      zJ (X:=zo) (
        bif bif bif x.2 != 0 then y2.token.kind==x.2 else false then true else bif y3==0 then decide ((y2.list.length:Int)>0)else false then
         some (LX.out (⟨s1.2.depth,w64 (s1.2.tokens+1),true⟩:zo))
        else
         some (LX.out (⟨s1.2.depth,w64 (s1.2.tokens+1),s1.2.bad⟩:zo))) fun j4=>
      bif y3==0 then
       some (LX.out (s1.1,j4))
      else
       zb (ZA (y2.list,y3)) fun y5=>
       some (LX.out (s1.1,(⟨if w64 (y5.depth+1)>j4.depth then w64 (y5.depth+1)else j4.depth,w64 (w64 (j4.tokens+y5.tokens)+1),bif j4.bad then true else y5.bad⟩:zo)))) fun j6=>
    some (LO.again (w64 (j6.1+1),j6.2))
   else
    some (LO.out s1.2):Int×zo→Option (LO (Int×zo) (zo) _)) (0,(⟨0,0,false⟩:zo)) fun o7=>
 some o7
def zfC(n:Nat):List ze×Int→Option zo:=zdY (zdN n) n
theorem zli(n:Nat)(ZA nest_look':List ze×Int→Option zo)(h_nest_look: ∀z,Le (ZA z) (nest_look' z))(x:List ze×Int):Le (zdN n ZA x) (zbj nest_look' x):=by
 unfold zdN zbj
 exact(.loop (fun _=>(.bif (.join (.bind .rfl fun _=>(.bind (zcZ n _) fun _=>(.join (.bif .rfl .rfl) fun _=>(.bif .rfl (.bind (h_nest_look _) fun _=> .rfl))))) fun _=> .rfl) .rfl)) fun _=> .rfl)
theorem zhr(n:Nat)(x:List ze×Int):Le (zfC n x) (ZA x):=Le.rec (fun S S' h x=>zli n S S' h x) n x
def zcO(n:Nat)(x:List ze):Option Int:=
 zb (zfC n (x,0)) fun y1=>
 bif decide (y1.depth>16)then
  some 20
 else
  bif decide (y1.tokens>1500)then
   some 4
  else
   bif y1.bad then
    some 8
   else
    some 0
theorem zf8(n:Nat)(x:List ze):Le (zcO n x) (Z5 x):=by
 unfold zcO Z5
 exact(.bind (zhr n _) fun _=>(.bif .rfl (.bif .rfl (.bif .rfl .rfl))))
def zcw(n:Nat)(Zm:List ze×List zf→Option (List zf))(x:List ze×List zf):Option (List zf):=
 zbD n (fun(s1:Int×List zf)=>
   bif decide (s1.1<(x.1.length:Int))then
    zJ (X:=Int×List zf) (
      zb (geti x.1 s1.1) fun y2=>
      need (zz s1.2.length 1 56)<|
      zb (zaO n y2.token.kind) fun y3=>
      bif y3 != 0 then
       zb (Zm (y2.list,s1.2++[y2.token])) fun y4=>
       need (zz y4.length 1 56)<|
       some (LX.out (s1.1,y4++[(⟨y3,[],0,[],false⟩:zf)]))
      else
       some (LX.out (s1.1,s1.2++[y2.token]))) fun j5=>
    some (LO.again (w64 (j5.1+1),j5.2))
   else
    some (LO.out s1.2):Int×List zf→Option (LO (Int×List zf) (List zf) _)) (0,x.2) fun o6=>
 some o6
def zgg(n:Nat):List ze×List zf→Option (List zf):=zdY (zcw n) n
theorem ziF(n:Nat)(Zm nest_flat_3':List ze×List zf→Option (List zf))(h_nest_flat_3: ∀z,Le (Zm z) (nest_flat_3' z))(x:List ze×List zf):Le (zcw n Zm x) (zaP nest_flat_3' x):=by
 unfold zcw zaP
 exact(.loop (fun _=>(.bif (.join (.bind .rfl fun _=>(.need (.bind (zcZ n _) fun _=>(.bif (.bind (h_nest_flat_3 _) fun _=>(.need .rfl)) .rfl)))) fun _=> .rfl) .rfl)) fun _=> .rfl)
theorem zjR(n:Nat)(x:List ze×List zf):Le (zgg n x) (Zm x):=Le.rec (fun S S' h x=>ziF n S S' h x) n x
def zdM(n:Nat)(x:List ze):Option (List zf):=
 zbD n (fun(s1:Int×List zf)=>
   bif decide (s1.1<(x.length:Int))then
    zJ (X:=Int×List zf) (
      zb (geti x s1.1) fun y2=>
      need (zz s1.2.length 1 56)<|
      zb (zaO n y2.token.kind) fun y3=>
      bif y3 != 0 then
       zb (zgg n (y2.list,s1.2++[y2.token])) fun y4=>
       need (zz y4.length 1 56)<|
       some (LX.out (s1.1,y4++[(⟨y3,[],0,[],false⟩:zf)]))
      else
       some (LX.out (s1.1,s1.2++[y2.token]))) fun j5=>
    some (LO.again (w64 (j5.1+1),j5.2))
   else
    some (LO.out s1.2):Int×List zf→Option (LO (Int×List zf) (List zf) _)) (0,[]) fun o6=>
 some o6
theorem zjQ(n:Nat)(x:List ze):Le (zdM n x) (zbi x):=by
 unfold zdM zbi
 exact(.loop (fun _=>(.bif (.join (.bind .rfl fun _=>(.need (.bind (zcZ n _) fun _=>(.bif (.bind (zjR n _) fun _=>(.need .rfl)) .rfl)))) fun _=> .rfl) .rfl)) fun _=> .rfl)
def qZ(n:Nat)(x:Str×Str):Option Str:=
 zb (ZZ n (x.1,x.2)) fun y1=>
 bif y1 then
  need (decide (0≤(x.2.length:Int))&&decide ((x.2.length:Int)≤(x.1.length:Int)))<|
  some (List.drop x.2.length x.1)
 else
  some x.1
theorem zc0(n:Nat)(x:Str×Str):Le (qZ n x) (stringslite_TrimPrefix x):=by
 unfold qZ stringslite_TrimPrefix
 exact(.bind (zaz n _) fun _=>(.bif (.need .rfl) .rfl))
def QY(n:Nat)(x:Str×Str):Option Str:=
 zb (qZ n (x.1,x.2)) fun y1=>
 some y1
theorem zej(n:Nat)(x:Str×Str):Le (QY n x) (strings_TrimPrefix x):=by
 unfold QY strings_TrimPrefix
 exact(.bind (zc0 n _) fun _=> .rfl)
def zay(n:Nat)(x:Int):Option Bool:=
 some (bif decide (48≤x)then decide (x≤57)else false)
theorem zb1(n:Nat)(x:Int):Le (zay n x) (qP x):=by
 unfold zay qP
 exact .rfl
def zbr(n:Nat)(x:Str):Option Bool:=
 zb (QY n (x,[45])) fun y1=>
 zb (zB (!(y1==[])) (geti y1 0) 0) fun y2=>
 zb (zB (!(y1==[])) (zay n (y2.toNat:Int)) (default:Bool)) fun y3=>
 some (bif !(y1==[])then y3 else false)
theorem zeh(n:Nat)(x:Str):Le (zbr n x) (QD x):=by
 unfold zbr QD
 exact(.bind (zej n _) fun _=>(.bind .rfl fun _=>(.bind (.cond (zb1 n _)) fun _=> .rfl)))
def zbW(n:Nat)(x:Int):Option Bool:=
 some (bif bif decide (97≤ibOr IntKind.u8 x 32)then decide (ibOr IntKind.u8 x 32≤122)else false then decide (x<128)else false)
theorem zfb(n:Nat)(x:Int):Le (zbW n x) (zal x):=by
 unfold zbW zal
 exact .rfl
def zcL(n:Nat)(x:Int):Option Bool:=
 zb (zbW n x) fun y1=>
 zb (zB (!y1) (zay n x) (default:Bool)) fun y2=>
 some (bif bif bif bif y1 then true else y2 then true else x==95 then true else x==45 then true else decide (x≥128))
theorem zf6(n:Nat)(x:Int):Le (zcL n x) (zbb x):=by
 unfold zcL zbb
 exact(.bind (zfb n _) fun _=>(.bind (.cond (zb1 n _)) fun _=> .rfl))
def zaW(n:Nat)(x:Str×Str):Option Bool:=
 zb (zlc n (x.1,x.2)) fun y1=>
 some (decide (y1≥0))
theorem zfz(n:Nat)(x:Str×Str):Le (zaW n x) (strings_Contains x):=by
 unfold zaW strings_Contains
 exact(.bind (zmT n _) fun _=> .rfl)
def zfv(n:Nat)(x:zf):Option Bool:=
 need (zlR x.text.length x.unit.length)<|
 zb (ZF n (x.text++x.unit,0)) fun y1=>
 zJ (X:=Bool×Bool×Bool×Bool×Bool) (
   zJ (X:=Bool×Bool×Bool×Bool×Bool×Bool) (
     bif x.kind==1 then
      some (LX.out (false,false,false,false,decide (y1<0),x.kind==1))
     else
      bif x.kind==2 then
       some (LX.out (false,false,false,false,decide (y1<0),x.kind==2))
      else
       some (LX.out (false,false,false,false,decide (y1<0),x.kind==3))) fun j2=>
   bif j2.2.2.2.2.2 then
    some (LX.out (true,j2.2.1,j2.2.2.1,j2.2.2.2.1,bif j2.2.2.2.2.1 then !(x.text==[])else false))
   else
    bif x.kind==4 then
     zb (zB (!x.flag&&(bif j2.2.2.2.2.1 then !(x.text==[])else false)) (zbr n x.text) (default:Bool)) fun y3=>
     zb (zB (y3&&(!x.flag&&(bif j2.2.2.2.2.1 then !(x.text==[])else false))) (Za n (x.text,[45,45])) (default:Bool)) fun y4=>
     some (LX.out (true,j2.2.1,j2.2.2.1,true,bif bif j2.2.2.2.2.1 then !(x.text==[])else false then bif bif x.flag then true else bif y3 then !y4 else false then true else x.text==[45]else false))
    else
     zJ (X:=Bool×Bool×Bool×Bool×Bool×Bool) (
       bif x.kind==5 then
        some (LX.out (j2.1,j2.2.1,j2.2.2.1,j2.2.2.2.1,j2.2.2.2.2.1,x.kind==5))
       else
        some (LX.out (j2.1,j2.2.1,j2.2.2.1,j2.2.2.2.1,j2.2.2.2.2.1,x.kind==7))) fun j5=>
     bif j5.2.2.2.2.2 then
      some (LX.out (true,j5.2.1,j5.2.2.1,j5.2.2.2.1,j5.2.2.2.2.1))
     else
      bif x.kind==9 then
       zb (zB (bif j5.2.2.2.2.1 then(x.text.length:Int)==1 else false) (geti x.text 0) 0) fun y6=>
       zb (zB (bif j5.2.2.2.2.1 then(x.text.length:Int)==1 else false) (zcL n (y6.toNat:Int)) (default:Bool)) fun y7=>
       zb (zB (bif bif bif j5.2.2.2.2.1 then(x.text.length:Int)==1 else false then !y7 else false then true else x.text==[45]) (zaW n ([32,9,10,12,13,34,39,58,59,44,91,93,40,41,123,125],x.text)) (default:Bool)) fun y8=>
       some (LX.out (true,j5.2.1,j5.2.2.1,j5.2.2.2.1,bif bif bif bif j5.2.2.2.2.1 then(x.text.length:Int)==1 else false then !y7 else false then true else x.text==[45]then !y8 else false))
      else
       zJ (X:=Bool×Bool×Bool×Bool×Bool) (
         bif x.kind==10 then
          some (LX.out (j5.2.1,j5.2.2.1,j5.2.2.2.1,j5.2.2.2.2.1,x.kind==10))
         else
          bif x.kind==11 then
           some (LX.out (j5.2.1,j5.2.2.1,j5.2.2.2.1,j5.2.2.2.2.1,x.kind==11))
          else
           some (LX.out (j5.2.1,j5.2.2.1,j5.2.2.2.1,j5.2.2.2.2.1,x.kind==12))) fun j9=>
       bif j9.2.2.2.2 then
        some (LX.out (j5.1,x.kind==12,true,x.kind != 11,bif bif bif bif j9.2.2.2.1 then decide (x.num≥(-1000000000000))else false then decide (x.num≤1000000000000)else false then bif !x.flag then true else Int.tmod x.num 1000==0 else false then bif !(x.kind==12)then true else !(x.unit==[])else false))
       else
        some (LX.out (j5.1,j9.1,j9.2.1,j9.2.2.1,bif decide (x.kind≥13)then decide (x.kind≤24)else false))) fun j10=>
 some (bif bif bif bif j10.2.2.2.2 then bif j10.1 then true else x.text==[]else false then bif j10.2.1 then true else x.unit==[]else false then bif j10.2.2.1 then true else x.num==0 else false then bif j10.2.2.2.1 then true else !x.flag else false)
theorem zmR(n:Nat)(x:zf):Le (zfv n x) (zee x):=by
 unfold zfv zee
 exact(.need (.bind (qM n _) fun _=>(.join (.join (.bif .rfl (.bif .rfl .rfl)) fun _=>(.bif .rfl (.bif (.bind (.cond (zeh n _)) fun _=>(.bind (.cond (Zx n _)) fun _=> .rfl)) (.join (.bif .rfl .rfl) fun _=>(.bif .rfl (.bif (.bind .rfl fun _=>(.bind (.cond (zf6 n _)) fun _=>(.bind (.cond (zfz n _)) fun _=> .rfl))) (.join (.bif .rfl (.bif .rfl .rfl)) fun _=>(.bif .rfl .rfl)))))))) fun _=> .rfl)))
def Q6(n:Nat)(x:(Int×Int)×List zf):Option Bool:=
 zb (zB (decide (x.1.1<(x.2.length:Int))) (geti x.2 x.1.1) (default:zf)) fun y1=>
 some (bif decide (x.1.1<(x.2.length:Int))then y1.kind==x.1.2 else false)
theorem zcs(n:Nat)(x:(Int×Int)×List zf):Le (Q6 n x) (QE x):=by
 unfold Q6 QE
 exact(.bind .rfl fun _=> .rfl)
def zcM(n:Nat)(x:List zf):Option Int:=
 zb (geti x 0) fun y1=>
 bif bif y1.kind==9 then y1.text==[92]else false then
  zb (Q6 n ((1,13),x)) fun y2=>
  bif !y2 then
   some 0
  else
   some 2
 else
  zb (zB (y1.kind==2) (zbZ n (y1.text,[117,114,108])) (default:Bool)) fun y3=>
  bif bif y1.kind==2 then y3 else false then
   zJ (X:=Int) (
     zb (Q6 n ((1,13),x)) fun y4=>
     bif y4 then
      some (LX.out 2)
     else
      some (LX.out 1)) fun j5=>
   zb (Q6 n ((j5,5),x)) fun y6=>
   bif !y6 then
    some 0
   else
    some (w64 (j5+1))
  else
   some 1
theorem zf7(n:Nat)(x:List zf):Le (zcM n x) (zbc x):=by
 unfold zcM zbc
 exact(.bind .rfl fun _=>(.bif (.bind (zcs n _) fun _=>(.bif .rfl .rfl)) (.bind (.cond (zfc n _)) fun _=>(.bif (.join (.bind (zcs n _) fun _=>(.bif .rfl .rfl)) fun _=>(.bind (zcs n _) fun _=>(.bif .rfl .rfl))) .rfl))))
def zec(n:Nat)(x:List zf):Option Int:=
 bif decide ((x.length:Int)>1500)then
  some 4
 else
  zbD n (fun(s1:Int)=>
    bif decide (s1<(x.length:Int))then
     zb (geti x s1) fun y2=>
     zb (zfv n y2) fun y3=>
     need (decide (0≤s1)&&decide (s1≤(x.length:Int))|| !(!(!y3)))<|
     zb (zB (!(!y3)) (zcM n (List.drop s1.toNat x)) (default:Int)) fun y4=>
     bif bif !y3 then true else y4==0 then
      some (LO.ret 8)
     else
      some (LO.again (w64 (s1+1)))
    else
     some (LO.out ()):Int→Option (LO (Int) (Unit) _)) 0 fun o5=>
  some 0
theorem zlj(n:Nat)(x:List zf):Le (zec n x) (zdc x):=by
 unfold zec zdc
 exact(.bif .rfl (.loop (fun _=>(.bif (.bind .rfl fun _=>(.bind (zmR n _) fun _=>(.need (.bind (.cond (zf7 n _)) fun _=>(.bif .rfl .rfl))))) .rfl)) fun _=> .rfl))
def QB(n:Nat)(x:Str):Option Int:=
 zb (Za n (x,[45])) fun y1=>
 bif y1 then
  some 2
 else
  some 1
theorem zaK(n:Nat)(x:Str):Le (QB n x) (QO x):=by
 unfold QB QO
 exact(.bind (Zx n _) fun _=>(.bif .rfl .rfl))
def qQ(n:Nat)(x:Int×List UInt8):Option (List UInt8):=
 zb (zB (bif decide (x.1>32)then decide (x.1<127)else false) (zay n x.1) (default:Bool)) fun y1=>
 zb (zB (bif bif decide (x.1>32)then decide (x.1<127)else false then !y1 else false) (zbW n x.1) (default:Bool)) fun y2=>
 bif bif bif bif decide (x.1>32)then decide (x.1<127)else false then !y1 else false then !y2 else false then
  zb (Zi x.1) fun y3=>
  need (zz x.2.length 2 1)<|
  some (x.2++[(92:UInt8),y3])
 else
  need (zz x.2.length 1 1)<|
  zb (zj6 n ((wu64 x.1,16),x.2++[(92:UInt8)])) fun y4=>
  need (zz y4.length 1 1)<|
  some (y4++[(32:UInt8)])
theorem zai(n:Nat)(x:Int×List UInt8):Le (qQ n x) (ZY x):=by
 unfold qQ ZY
 exact(.bind (.cond (zb1 n _)) fun _=>(.bind (.cond (zfb n _)) fun _=>(.bif (.bind .rfl fun _=>(.need .rfl)) (.need (.bind (zoj n _) fun _=>(.need .rfl))))))
def qx(n:Nat)(x:(Str×Int)×List UInt8):Option (List UInt8):=
 zbD n (fun(s1:Int×List UInt8)=>
   bif decide (s1.1<(x.1.1.length:Int))then
    zJ (X:=Int×List UInt8) (
      zb (geti x.1.1 s1.1) fun y2=>
      zb (zcL n (y2.toNat:Int)) fun y3=>
      zb (zB (!(decide (s1.1≥x.1.2))&&y3) (zay n (y2.toNat:Int)) (default:Bool)) fun y4=>
      bif bif bif y3 then bif decide (s1.1≥x.1.2)then true else !y4 else false then bif x.1.2==0 then true else !(x.1.1==[45])else false then
       zb (Zi (y2.toNat:Int)) fun y5=>
       need (zz s1.2.length 1 1)<|
       some (LX.out (s1.1,s1.2++[y5]))
      else
       zb (qQ n ((y2.toNat:Int),s1.2)) fun y6=>
       some (LX.out (s1.1,y6))) fun j7=>
    some (LO.again (w64 (j7.1+1),j7.2))
   else
    some (LO.out s1.2):Int×List UInt8→Option (LO (Int×List UInt8) (List UInt8) _)) (0,x.2) fun o8=>
 some o8
theorem Qt(n:Nat)(x:(Str×Int)×List UInt8):Le (qx n x) (qJ x):=by
 unfold qx qJ
 exact(.loop (fun _=>(.bif (.join (.bind .rfl fun _=>(.bind (zf6 n _) fun _=>(.bind (.cond (zb1 n _)) fun _=>(.bif (.bind .rfl fun _=>(.need .rfl)) (.bind (zai n _) fun _=> .rfl))))) fun _=> .rfl) .rfl)) fun _=> .rfl)
def zef(n:Nat)(x:Unit):Option qm:=
 some (⟨[32],[60,33,45,45],[45,45,62],[58],[59],[44],[91],[93],[40],[41],[123],[125]⟩:qm)
theorem zll(n:Nat)(x:Unit):Le (zef n x) (zde x):=by
 unfold zef zde
 exact .rfl
def QC(n:Nat)(x:(Int×Bool)×List UInt8):Option (List UInt8):=
 zJ (X:=Int×List UInt8) (
   bif decide (x.1.1<0)then
    need (zz x.2.length 1 1)<|
    some (LX.out (w64 (0 - x.1.1),x.2++[(45:UInt8)]))
   else
    some (LX.out (x.1.1,x.2))) fun j1=>
 zb (zj5 n ((w64 (Int.tdiv j1.1 1000),10),j1.2)) fun y2=>
 zb (zmA n (w64 (1000+Int.tmod j1.1 1000),10)) fun y3=>
 need (decide (1≤(y3.length:Int)))<|
 zb (zpu n (List.drop 1 y3,[48])) fun y4=>
 zJ (X:=List UInt8) (
   bif !(y4==[])then
    need (zz y2.length 1 1)<|
    need (zz (y2++[(46:UInt8)]).length y4.length 1)<|
    some (LX.out (y2++[(46:UInt8)]++y4))
   else
    bif x.1.2 then
     need (zz y2.length ([46,48]:Str).length 1)<|
     some (LX.out (y2++([46,48]:Str)))
    else
     some (LX.out y2)) fun j5=>
 some j5
theorem zbI(n:Nat)(x:(Int×Bool)×List UInt8):Le (QC n x) (Qi x):=by
 unfold QC Qi
 exact(.join (.bif (.need .rfl) .rfl) fun _=>(.bind (zoi n _) fun _=>(.bind (zp1 n _) fun _=>(.need (.bind (zrx n _) fun _=>(.join (.bif (.need (.need .rfl)) (.bif (.need .rfl) .rfl)) fun _=> .rfl))))))
def zdF(n:Nat)(x:zf×List UInt8):Option (List UInt8):=
 bif x.1.kind==1 then
  zb (QB n x.1.text) fun y1=>
  zb (qx n ((x.1.text,y1),x.2)) fun y2=>
  some y2
 else
  bif x.1.kind==2 then
   zb (QB n x.1.text) fun y3=>
   zb (qx n ((x.1.text,y3),x.2)) fun y4=>
   need (zz y4.length 1 1)<|
   some (y4++[(40:UInt8)])
  else
   bif x.1.kind==3 then
    need (zz x.2.length 1 1)<|
    zb (QB n x.1.text) fun y5=>
    zb (qx n ((x.1.text,y5),x.2++[(64:UInt8)])) fun y6=>
    some y6
   else
    bif x.1.kind==4 then
     zJ (X:=Int×List UInt8) (
       bif x.1.flag then
        zb (QB n x.1.text) fun y7=>
        some (LX.out (y7,x.2))
       else
        some (LX.out (0,x.2))) fun j8=>
     need (zz j8.2.length 1 1)<|
     zb (qx n ((x.1.text,j8.1),j8.2++[(35:UInt8)])) fun y9=>
     some y9
    else
     bif x.1.kind==5 then
      need (zz x.2.length 1 1)<|
      need (decide (x.1.text.length≤maxLen))<|
      zbD n (fun(s10:Int×List UInt8)=>
        bif decide (s10.1<(x.1.text.length:Int))then
         zJ (X:=Int×List UInt8) (
           need (decide (0≤s10.1)&&decide (s10.1<(x.1.text.length:Int)))<|
           zb x.1.text[s10.1.toNat]? fun y11=>
           zb (ZF n ([10,12,13,34,92],(y11.toNat:Int))) fun y12=>
           bif decide (y12≥0)then
            zb (qQ n ((y11.toNat:Int),s10.2)) fun y13=>
            some (LX.out (s10.1,y13))
           else
            zb (Zi (y11.toNat:Int)) fun y14=>
            need (zz s10.2.length 1 1)<|
            some (LX.out (s10.1,s10.2++[y14]))) fun j15=>
         some (LO.again (w64 (j15.1+1),j15.2))
        else
         some (LO.out s10.2):Int×List UInt8→Option (LO (Int×List UInt8) (List UInt8) _)) (0,x.2++[(34:UInt8)]) fun o16=>
      need (zz o16.length 1 1)<|
      some (o16++[(34:UInt8)])
     else
      bif x.1.kind==7 then
       need (zz x.2.length ([117,114,108,40]:Str).length 1)<|
       need (decide (x.1.text.length≤maxLen))<|
       zbD n (fun(s17:Int×List UInt8)=>
         bif decide (s17.1<(x.1.text.length:Int))then
          zJ (X:=Int×List UInt8) (
            need (decide (0≤s17.1)&&decide (s17.1<(x.1.text.length:Int)))<|
            zb x.1.text[s17.1.toNat]? fun y18=>
            zb (zB (!(decide ((y18.toNat:Int)≤32))) (ZF n ([34,39,40,41,92,127],(y18.toNat:Int))) (default:Int)) fun y19=>
            bif bif decide ((y18.toNat:Int)≤32)then true else decide (y19≥0)then
             zb (qQ n ((y18.toNat:Int),s17.2)) fun y20=>
             some (LX.out (s17.1,y20))
            else
             zb (Zi (y18.toNat:Int)) fun y21=>
             need (zz s17.2.length 1 1)<|
             some (LX.out (s17.1,s17.2++[y21]))) fun j22=>
          some (LO.again (w64 (j22.1+1),j22.2))
         else
          some (LO.out s17.2):Int×List UInt8→Option (LO (Int×List UInt8) (List UInt8) _)) (0,x.2++([117,114,108,40]:Str)) fun o23=>
       need (zz o23.length 1 1)<|
       some (o23++[(41:UInt8)])
      else
       bif x.1.kind==9 then
        need (zz x.2.length x.1.text.length 1)<|
        some (x.2++x.1.text)
       else
        bif x.1.kind==10 then
         zb (QC n ((x.1.num, !x.1.flag),x.2)) fun y24=>
         some y24
        else
         bif x.1.kind==11 then
          zb (QC n ((x.1.num,false),x.2)) fun y25=>
          need (zz y25.length 1 1)<|
          some (y25++[(37:UInt8)])
         else
          bif x.1.kind==12 then
           zb (QC n ((x.1.num, !x.1.flag),x.2)) fun y26=>
           zb (geti x.1.unit 0) fun y27=>
           need (decide (1≤(x.1.unit.length:Int))|| !(ibOr IntKind.u8 (y27.toNat:Int) 32==101))<|
           zb (zB (ibOr IntKind.u8 (y27.toNat:Int) 32==101) (zbr n (List.drop 1 x.1.unit)) (default:Bool)) fun y28=>
           need (decide (1≤(x.1.unit.length:Int))|| !(bif ibOr IntKind.u8 (y27.toNat:Int) 32==101 then y28 else false))<|
           zb (zB (bif ibOr IntKind.u8 (y27.toNat:Int) 32==101 then y28 else false) (Za n (List.drop 1 x.1.unit,[45,45])) (default:Bool)) fun y29=>
           bif bif bif ibOr IntKind.u8 (y27.toNat:Int) 32==101 then y28 else false then !y29 else false then
            zb (geti x.1.unit 0) fun y30=>
            zb (qQ n ((y30.toNat:Int),y26)) fun y31=>
            need (decide (1≤(x.1.unit.length:Int)))<|
            zb (qx n ((List.drop 1 x.1.unit,0),y31)) fun y32=>
            some y32
           else
            zb (QB n x.1.unit) fun y33=>
            zb (qx n ((x.1.unit,y33),y26)) fun y34=>
            some y34
          else
           zb (zef n ()) fun y35=>
           zb (geti [y35.e0,y35.e1,y35.e2,y35.e3,y35.e4,y35.e5,y35.e6,y35.e7,y35.e8,y35.e9,y35.e10,y35.e11] (wu8 (x.1.kind - 13))) fun y36=>
           need (zz x.2.length y36.length 1)<|
           some (x.2++y36)
theorem zjN(n:Nat)(x:zf×List UInt8):Le (zdF n x) (zcp x):=by
 unfold zdF zcp
 exact(.bif (.bind (zaK n _) fun _=>(.bind (Qt n _) fun _=> .rfl)) (.bif (.bind (zaK n _) fun _=>(.bind (Qt n _) fun _=>(.need .rfl))) (.bif (.need (.bind (zaK n _) fun _=>(.bind (Qt n _) fun _=> .rfl))) (.bif (.join (.bif (.bind (zaK n _) fun _=> .rfl) .rfl) fun _=>(.need (.bind (Qt n _) fun _=> .rfl))) (.bif (.need (.need (.loop (fun _=>(.bif (.join (.need (.bind .rfl fun _=>(.bind (qM n _) fun _=>(.bif (.bind (zai n _) fun _=> .rfl) (.bind .rfl fun _=>(.need .rfl)))))) fun _=> .rfl) .rfl)) fun _=>(.need .rfl)))) (.bif (.need (.need (.loop (fun _=>(.bif (.join (.need (.bind .rfl fun _=>(.bind (.cond (qM n _)) fun _=>(.bif (.bind (zai n _) fun _=> .rfl) (.bind .rfl fun _=>(.need .rfl)))))) fun _=> .rfl) .rfl)) fun _=>(.need .rfl)))) (.bif (.need .rfl) (.bif (.bind (zbI n _) fun _=> .rfl) (.bif (.bind (zbI n _) fun _=>(.need .rfl)) (.bif (.bind (zbI n _) fun _=>(.bind .rfl fun _=>(.need (.bind (.cond (zeh n _)) fun _=>(.need (.bind (.cond (Zx n _)) fun _=>(.bif (.bind .rfl fun _=>(.bind (zai n _) fun _=>(.need (.bind (Qt n _) fun _=> .rfl)))) (.bind (zaK n _) fun _=>(.bind (Qt n _) fun _=> .rfl))))))))) (.bind (zll n _) fun _=>(.bind .rfl fun _=>(.need .rfl)))))))))))))
def QX(n:Nat)(x:List zf×List zf):Option Bool:=
 bif (x.1.length:Int) != (x.2.length:Int)then
  some false
 else
  zbD n (fun(s1:Int)=>
    bif decide (s1<(x.1.length:Int))then
     zb (geti x.1 s1) fun y2=>
     zb (geti x.2 s1) fun y3=>
     bif !(y2.kind==y3.kind&&(y2.text==y3.text&&(y2.num==y3.num&&(y2.unit==y3.unit&&(y2.flag==y3.flag&&true)))))then
      some (LO.ret false)
     else
      some (LO.again (w64 (s1+1)))
    else
     some (LO.out ()):Int→Option (LO (Int) (Unit) _)) 0 fun o4=>
  some true
theorem zei(n:Nat)(x:List zf×List zf):Le (QX n x) (qD x):=by
 unfold QX qD
 exact(.bif .rfl (.loop (fun _=>(.bif (.bind .rfl fun _=>(.bind .rfl fun _=>(.bif .rfl .rfl))) .rfl)) fun _=> .rfl))
def zed(n:Nat)(x:List zf):Option (Str×Int):=
 zb (zec n x) fun y1=>
 bif y1 != 0 then
  some ([],y1)
 else
  zbD n (fun(s2:Int×List UInt8×List zw)=>
    bif decide (s2.1<(x.length:Int))then
     need (decide (0≤s2.1)&&decide (s2.1≤(x.length:Int)))<|
     zb (zcM n (List.drop s2.1.toNat x)) fun y3=>
     need (decide (0≤s2.1)&&(decide (s2.1≤w64 (s2.1+y3))&&decide (w64 (s2.1+y3)≤(x.length:Int))))<|
     zbD n (fun(s4:Int×List UInt8)=>
       bif decide (s4.1<((List.drop s2.1.toNat (List.take (w64 (s2.1+y3)).toNat x)).length:Int))then
        zb (geti (List.drop s2.1.toNat (List.take (w64 (s2.1+y3)).toNat x)) s4.1) fun y5=>
        zb (zdF n (y5,s4.2)) fun y6=>
        some (LO.again (w64 (s4.1+1),y6))
       else
        some (LO.out s4.2):Int×List UInt8→Option (LO (Int×List UInt8) (List UInt8) _)) (0,[]) fun o7=>
     zJ (X:=Int×List UInt8×List zw×List UInt8) (
       zb (geti x s2.1) fun y8=>
       bif bif y8.kind==9 then y3==2 else false then
        some (LX.out (s2.1,s2.2.1,s2.2.2,[(92:UInt8),(10:UInt8)]))
       else
        some (LX.out (s2.1,s2.2.1,s2.2.2,o7))) fun j9=>
     zJ (X:=Int×List UInt8×List zw×zw) (
       bif decide (w64 ((j9.2.2.1.length:Int) - 4)≥0)then
        need (decide (0≤w64 ((j9.2.2.1.length:Int) - 4))&&decide (w64 ((j9.2.2.1.length:Int) - 4)<(j9.2.2.1.length:Int)))<|
        zb (j9.2.2.1[(w64 ((j9.2.2.1.length:Int) - 4)).toNat]?) fun y10=>
        some (LX.out (j9.1,j9.2.1,j9.2.2.1,y10))
       else
        some (LX.out (j9.1,j9.2.1,j9.2.2.1,(⟨0,0⟩:zw)))) fun j11=>
     need (decide (0≤j11.2.2.2.at_)&&decide (j11.2.2.2.at_≤(j11.2.1.length:Int)))<|
     need (decide (j11.2.2.2.at_.toNat+(j11.2.1.length - j11.2.2.2.at_.toNat)≤j11.2.1.length))<|
     need (zlR (List.take (j11.2.1.length - j11.2.2.2.at_.toNat) (List.drop j11.2.2.2.at_.toNat j11.2.1)).length j9.2.2.2.length)<|
     zb (zaf n (List.take (j11.2.1.length - j11.2.2.2.at_.toNat) (List.drop j11.2.2.2.at_.toNat j11.2.1)++j9.2.2.2)) fun y12=>
     zJ (X:=Int×List zw×List UInt8) (
       need (decide (0≤j11.2.2.2.token)&&(decide (j11.2.2.2.token≤w64 (j11.1+y3))&&decide (w64 (j11.1+y3)≤(x.length:Int)))|| !(!(y12.2 != 0)))<|
       zb (zB (!(y12.2 != 0)) (QX n (y12.1,List.drop j11.2.2.2.token.toNat (List.take (w64 (j11.1+y3)).toNat x))) (default:Bool)) fun y13=>
       bif bif y12.2 != 0 then true else !y13 then
        need (zz j11.2.1.length ([47,42,42,47]:Str).length 1)<|
        some (LX.out (j11.1,j11.2.2.1,j11.2.1++([47,42,42,47]:Str)))
       else
        some (LX.out (j11.1,j11.2.2.1,j11.2.1))) fun j14=>
     need (zz j14.2.1.length 1 16)<|
     need (zz j14.2.2.length j9.2.2.2.length 1)<|
     bif decide (((j14.2.2++j9.2.2.2).length:Int)>4000)then
      some (LO.ret ([],28))
     else
      some (LO.again (w64 (j14.1+y3),j14.2.2++j9.2.2.2,j14.2.1++[(⟨j14.1,(j14.2.2.length:Int)⟩:zw)]))
    else
     some (LO.out s2.2.1):Int×List UInt8×List zw→Option (LO (Int×List UInt8×List zw) (List UInt8) _)) (0,[],[]) fun o15=>
  some (o15,0)
theorem zlk(n:Nat)(x:List zf):Le (zed n x) (zdd x):=by
 unfold zed zdd
 exact(.bind (zlj n _) fun _=>(.bif .rfl (.loop (fun _=>(.bif (.need (.bind (zf7 n _) fun _=>(.need (.loop (fun _=>(.bif (.bind .rfl fun _=>(.bind (zjN n _) fun _=> .rfl)) .rfl)) fun _=>(.join (.bind .rfl fun _=>(.bif .rfl .rfl)) fun _=>(.join (.bif (.need (.bind .rfl fun _=> .rfl)) .rfl) fun _=>(.need (.need (.need (.bind (zct n _) fun _=>(.join (.need (.bind (.cond (zei n _)) fun _=>(.bif (.need .rfl) .rfl))) fun _=>(.need (.need (.bif .rfl .rfl)))))))))))))) .rfl)) fun _=> .rfl)))
def zfB(n:Nat)(x:List ze):Option (Str×Int):=
 zb (zcO n x) fun y1=>
 bif y1 != 0 then
  some ([],y1)
 else
  zb (zdM n x) fun y2=>
  zb (zed n y2) fun y3=>
  some (y3.1,y3.2)
theorem zmU(n:Nat)(x:List ze):Le (zfB n x) (zep x):=by
 unfold zfB zep
 exact(.bind (zf8 n _) fun _=>(.bif .rfl (.bind (zjQ n _) fun _=>(.bind (zlk n _) fun _=> .rfl))))
def zeo(n:Nat)(x:List ze):Option (Int×Int):=
 zb (zcO n x) fun y1=>
 bif y1 != 0 then
  some (0,y1)
 else
  zb (zfC n (x,0)) fun y2=>
  some (y2.depth,0)
theorem zlm(n:Nat)(x:List ze):Le (zeo n x) (zdn x):=by
 unfold zeo zdn
 exact(.bind (zf8 n _) fun _=>(.bif .rfl (.bind (zhr n _) fun _=> .rfl)))
def zdG(n:Nat)(x:Str):Option (Str×Int×Bool):=
 zb (zaf n x) fun y1=>
 zb (zlC n y1.1) fun y2=>
 zb (zfB n y2.1) fun y3=>
 zb (zeo n y2.1) fun y4=>
 some (y3.1,y4.1,bif bif bif y1.2==0 then y2.2==0 else false then y3.2==0 else false then y4.2==0 else false)
theorem zjP(n:Nat)(x:Str):Le (zdG n x) (zcr x):=by
 unfold zdG zcr
 exact(.bind (zct n _) fun _=>(.bind (zmV n _) fun _=>(.bind (zmU n _) fun _=>(.bind (zlm n _) fun _=> .rfl))))
def zf5(n:Nat)(x:Unit):Option Bool:=
 zb (zdG n [97,40,98,91,99,41,100]) fun y1=>
 zb (zaf n [97,40,98,91,99,41,100]) fun y2=>
 zb (zlC n y2.1) fun y3=>
 zb (zB (bif bif bif bif bif y1.2.2 then y1.1==[97,40,98,91,99,41,100,93,41]else false then y1.2.1==2 else false then y2.2==0 else false then y3.2==0 else false then(y3.1.length:Int)==1 else false) (geti y3.1 0) (default:ze)) fun y4=>
 zb (zB (bif bif bif bif bif bif y1.2.2 then y1.1==[97,40,98,91,99,41,100,93,41]else false then y1.2.1==2 else false then y2.2==0 else false then y3.2==0 else false then(y3.1.length:Int)==1 else false then(y4.list.length:Int)==2 else false) (geti y3.1 0) (default:ze)) fun y5=>
 zb (zB (bif bif bif bif bif bif y1.2.2 then y1.1==[97,40,98,91,99,41,100,93,41]else false then y1.2.1==2 else false then y2.2==0 else false then y3.2==0 else false then(y3.1.length:Int)==1 else false then(y4.list.length:Int)==2 else false) (geti y5.list 1) (default:ze)) fun y6=>
 some (bif bif bif bif bif bif bif y1.2.2 then y1.1==[97,40,98,91,99,41,100,93,41]else false then y1.2.1==2 else false then y2.2==0 else false then y3.2==0 else false then(y3.1.length:Int)==1 else false then(y4.list.length:Int)==2 else false then(y6.list.length:Int)==3 else false)
theorem zjO(n:Nat)(x:Unit):Le (zf5 n x) (zao x):=by
 unfold zf5 zao
 exact(.bind (zjP n _) fun _=>(.bind (zct n _) fun _=>(.bind (zmV n _) fun _=>(.bind .rfl fun _=>(.bind .rfl fun _=>(.bind .rfl fun _=> .rfl))))))
end Go.Lv.VT
