/- Texts. -/
import Derived.Test.YtcdeccnjlkkejaaGreatDoorTy
import Derived.Test.YtcdeccnjlkkejaaGreatDoorLf
noncomputable section
set_option linter.unusedSimpArgs false
set_option linter.unusedVariables false
namespace Go.Lv.VT
set_option maxRecDepth 100000
def vz(x:Int):Option Int:=
 bif x==19 then
  some 20
 else
  zW (X:=Bool) (
    bif x==21 then
     some (LX.out (x==21))
    else
     some (LX.out (x==2))) fun c=>
  bif c then
   some 22
  else
   bif x==23 then
    some 24
   else
    some 0
def JF(qz:List zg->Option (List zb))(x:List zg):Option (List zb):=
 ZE (fun(c:Int×List zb)=>
   bif decide (c.1<(x.length:Int))then
    zW (X:=Int×List zb) (
      ze (geti x c.1) fun d=>
      need (Zb c.2.length 1 56)<|
      ze (geti x c.1) fun m=>
      ze (vz m.token.kind) fun i=>
      bif i != 0 then
       ze (geti x c.1) fun p=>
       ze (qz p.list) fun f=>
       need (Zb (c.2++[d.token]).length f.length 56)<|
       need (Zb (c.2++[d.token]++f).length 1 56)<|
       some (LX.out (c.1,c.2++[d.token]++f++[(⟨i,[],0,[],false⟩:zb)]))
      else
       some (LX.out (c.1,c.2++[d.token]))) fun j=>
    some (LO.again (w64 (j.1+1),j.2))
   else
    some (LO.out c.2):Int×List zb->Option (LO (Int×List zb) (List zb) _)) (0,[]) fun r=>
 some r
def qz:List zg->Option (List zb):=recE (JF)
def stringslite_HasPrefix(x:Str×Str):Option Bool:=
 need (decide (0<=(x.2.length:Int))&&decide ((x.2.length:Int)<=(x.1.length:Int))|| !(decide ((x.1.length:Int)>=(x.2.length:Int))))<|
 some (bif decide ((x.1.length:Int)>=(x.2.length:Int))then List.take x.2.length x.1==x.2 else false)
def strings_HasPrefix(x:Str×Str):Option Bool:=
 ze (stringslite_HasPrefix (x.1,x.2)) fun c=>
 some c
def Zh(x:za):Option za:=
 ZE (fun(c:za)=>
   need (decide (0<=c.at_)&&decide (c.at_<=(c.s.length:Int)))<|
   ze (strings_HasPrefix (List.drop c.at_.toNat c.s,[47,42])) fun f=>
   bif f then
    need (decide (0<=w64 (c.at_+2))&&decide (w64 (c.at_+2)<=(c.s.length:Int)))<|
    ze (Am (List.drop (w64 (c.at_+2)).toNat c.s,[42,47])) fun d=>
    bif decide (d<0)then
     some (LO.ret (⟨c.s,(c.s.length:Int)⟩:za))
    else
     some (LO.again (⟨c.s,w64 (c.at_+w64 (d+4))⟩:za))
   else
    some (LO.out c):za->Option (LO (za) (za) _)) x fun o4=>
 some o4
def zf(x:Int×za):Option Int:=
 bif decide (w64 (x.2.at_+x.1)<(x.2.s.length:Int))then
  ze (geti x.2.s (w64 (x.2.at_+x.1))) fun c=>
  some (w64 (c.toNat:Int))
 else
  some (-1)
def qd(x:Int):Option Bool:=
 some (bif bif x==32 then true else x==9 then true else x==10)
def zS(x:za):Option za:=
 ZE (fun(c:za)=>
   ze (zf (0,c)) fun d=>
   ze (qd d) fun f=>
   bif f then
    some (LO.again (⟨c.s,w64 (c.at_+1)⟩:za))
   else
    some (LO.out c):za->Option (LO (za) (za) _)) x fun o4=>
 some o4
def ZY(x:Int):Option (List UInt8):=
 bif decide (wu32 x<=2047)then
  ze (Zw (ibOr IntKind.u8 192 (wu8 (Ai IntKind.i32 x 6)))) fun d=>
  ze (Zw (ibOr IntKind.u8 128 (mi IntKind.u8 (wu8 x) 63))) fun f=>
  need (Zb 0 2 1)<|
  some [d,f]
 else
  zW (X:=Bool) (
    bif decide (wu32 x<55296)then
     some (LX.out (decide (wu32 x<55296)))
    else
     some (LX.out (bif decide (57343<wu32 x)then decide (wu32 x<=65535)else false))) fun i=>
  bif i then
   ze (Zw (ibOr IntKind.u8 224 (wu8 (Ai IntKind.i32 x 12)))) fun j=>
   ze (Zw (ibOr IntKind.u8 128 (mi IntKind.u8 (wu8 (Ai IntKind.i32 x 6)) 63))) fun m=>
   ze (Zw (ibOr IntKind.u8 128 (mi IntKind.u8 (wu8 x) 63))) fun p=>
   need (Zb 0 3 1)<|
   some [j,m,p]
  else
   bif bif decide (wu32 x>65535)then decide (wu32 x<=1114111)else false then
    ze (Zw (ibOr IntKind.u8 240 (wu8 (Ai IntKind.i32 x 18)))) fun r=>
    ze (Zw (ibOr IntKind.u8 128 (mi IntKind.u8 (wu8 (Ai IntKind.i32 x 12)) 63))) fun u=>
    ze (Zw (ibOr IntKind.u8 128 (mi IntKind.u8 (wu8 (Ai IntKind.i32 x 6)) 63))) fun v=>
    ze (Zw (ibOr IntKind.u8 128 (mi IntKind.u8 (wu8 x) 63))) fun c=>
    need (Zb 0 4 1)<|
    some [r,u,v,c]
   else
    need (Zb 0 3 1)<|
    some [(239:UInt8),(191:UInt8),(189:UInt8)]
def ZT(x:Int):Option (List UInt8):=
 bif decide (wu32 x<=127)then
  ze (Zw (wu8 x)) fun c=>
  need (Zb 0 1 1)<|
  some [c]
 else
  ze (ZY x) fun d=>
  some d
def ZM(x:Int×Int×Int):Option Bool:=
 some (bif decide (x.2.1<=x.1)then decide (x.1<=x.2.2)else false)
def Zt(x:Int):Option Bool:=
 ze (ZM (x,48,57)) fun c=>
 some c
def yn(x:Int):Option Int:=
 ze (Zt x) fun c=>
 bif c then
  some (w64 (x - 48))
 else
  ze (zu (x != (-1)) (ZM (ibOr IntKind.i64 x 32,97,102)) (default:Bool)) fun d=>
  bif bif bif bif x != (-1)then d else false then decide (x>64)else false then decide (x<128)else false then
   some (w64 (w64 (ibOr IntKind.i64 x 32 - 97)+10))
  else
   some (-1)
def ZJ(x:za):Option (za×List UInt8):=
 ze (zf (0,(⟨x.s,w64 (x.at_+1)⟩:za))) fun i=>
 bif i==(-1)then
  ze (ZT 65533) fun u=>
  some ((⟨x.s,w64 (x.at_+1)⟩:za),u)
 else
  ze (yn i) fun v=>
  bif decide (v<0)then
   ze (Zw (wu8 i)) fun y=>
   need (Zb 0 1 1)<|
   some ((⟨x.s,w64 (w64 (x.at_+1)+1)⟩:za),[y])
  else
   ZE (fun(c:(Int×Int)×za)=>
     bif decide (c.1.2<6)then
      ze (zf (0,c.2)) fun z=>
      ze (yn z) fun r=>
      bif decide (r<0)then
       some (LO.out (c.1.1,c.2))
      else
       some (LO.again ((ibOr IntKind.i64 (Mv IntKind.i64 c.1.1 4) r,w64 (c.1.2+1)),(⟨c.2.s,w64 (c.2.at_+1)⟩:za)))
     else
      some (LO.out (c.1.1,c.2)):(Int×Int)×za->Option (LO ((Int×Int)×za) (Int×za) _)) ((0,0),(⟨x.s,w64 (x.at_+1)⟩:za)) fun f=>
   zW (X:=Int×za) (
     ze (zf (0,f.2)) fun A=>
     ze (qd A) fun j=>
     bif j then
      some (LX.out (f.1,(⟨f.2.s,w64 (f.2.at_+1)⟩:za)))
     else
      some (LX.out (f.1,f.2))) fun d=>
   zW (X:=Int) (
     bif d.1==0 then
      some (LX.out 65533)
     else
      some (LX.out d.1)) fun m=>
   ze (ZT (w32 m)) fun p=>
   some (d.2,p)
def ZZ(x:Int×List UInt8):Option (List UInt8):=
 bif decide (wu32 x.1<=2047)then
  ze (Zw (ibOr IntKind.u8 192 (wu8 (Ai IntKind.i32 x.1 6)))) fun f=>
  ze (Zw (ibOr IntKind.u8 128 (mi IntKind.u8 (wu8 x.1) 63))) fun i=>
  need (Zb x.2.length 2 1)<|
  some (x.2++[f,i])
 else
  zW (X:=Bool×List UInt8) (
    bif decide (wu32 x.1<55296)then
     some (LX.out (decide (wu32 x.1<55296),x.2))
    else
     some (LX.out (bif decide (57343<wu32 x.1)then decide (wu32 x.1<=65535)else false,x.2))) fun c=>
  bif c.1 then
   ze (Zw (ibOr IntKind.u8 224 (wu8 (Ai IntKind.i32 x.1 12)))) fun j=>
   ze (Zw (ibOr IntKind.u8 128 (mi IntKind.u8 (wu8 (Ai IntKind.i32 x.1 6)) 63))) fun m=>
   ze (Zw (ibOr IntKind.u8 128 (mi IntKind.u8 (wu8 x.1) 63))) fun p=>
   need (Zb c.2.length 3 1)<|
   some (c.2++[j,m,p])
  else
   bif bif decide (wu32 x.1>65535)then decide (wu32 x.1<=1114111)else false then
    ze (Zw (ibOr IntKind.u8 240 (wu8 (Ai IntKind.i32 x.1 18)))) fun r=>
    ze (Zw (ibOr IntKind.u8 128 (mi IntKind.u8 (wu8 (Ai IntKind.i32 x.1 12)) 63))) fun u=>
    ze (Zw (ibOr IntKind.u8 128 (mi IntKind.u8 (wu8 (Ai IntKind.i32 x.1 6)) 63))) fun v=>
    ze (Zw (ibOr IntKind.u8 128 (mi IntKind.u8 (wu8 x.1) 63))) fun d=>
    need (Zb c.2.length 4 1)<|
    some (c.2++[r,u,v,d])
   else
    need (Zb c.2.length 3 1)<|
    some (c.2++[(239:UInt8),(191:UInt8),(189:UInt8)])
def ZU(x:Int×List UInt8):Option (List UInt8):=
 bif decide (wu32 x.1<=127)then
  ze (Zw (wu8 x.1)) fun c=>
  need (Zb x.2.length 1 1)<|
  some (x.2++[c])
 else
  ze (ZZ (x.1,x.2)) fun d=>
  some d
def zO(x:za×List UInt8):Option (za×List UInt8):=
 ze (zf (0,(⟨x.1.s,w64 (x.1.at_+1)⟩:za))) fun j=>
 bif j==(-1)then
  ze (ZU (65533,x.2)) fun u=>
  some ((⟨x.1.s,w64 (x.1.at_+1)⟩:za),u)
 else
  ze (yn j) fun v=>
  bif decide (v<0)then
   ze (Zw (wu8 j)) fun y=>
   need (Zb x.2.length 1 1)<|
   some ((⟨x.1.s,w64 (w64 (x.1.at_+1)+1)⟩:za),x.2++[y])
  else
   ZE (fun(d:(Int×Int)×za)=>
     bif decide (d.1.2<6)then
      ze (zf (0,d.2)) fun z=>
      ze (yn z) fun r=>
      bif decide (r<0)then
       some (LO.out (d.1.1,d.2))
      else
       some (LO.again ((ibOr IntKind.i64 (Mv IntKind.i64 d.1.1 4) r,w64 (d.1.2+1)),(⟨d.2.s,w64 (d.2.at_+1)⟩:za)))
     else
      some (LO.out (d.1.1,d.2)):(Int×Int)×za->Option (LO ((Int×Int)×za) (Int×za) _)) ((0,0),(⟨x.1.s,w64 (x.1.at_+1)⟩:za)) fun f=>
   zW (X:=Int×za×List UInt8) (
     ze (zf (0,f.2)) fun A=>
     ze (qd A) fun m=>
     bif m then
      some (LX.out (f.1,(⟨f.2.s,w64 (f.2.at_+1)⟩:za),x.2))
     else
      some (LX.out (f.1,f.2,x.2))) fun c=>
   zW (X:=Int×List UInt8) (
     bif c.1==0 then
      some (LX.out (65533,c.2.2))
     else
      some (LX.out (c.1,c.2.2))) fun i=>
   ze (ZU (w32 i.1,i.2)) fun p=>
   some (c.2.1,p)
def qi(x:za):Option (zb×za):=
 ze (zf (0,x)) fun m=>
 ZE (fun(c:za×zb×List UInt8)=>
   ze (zf (0,c.1)) fun d=>
   bif d==(-1)then
    some (LO.out (c.1,c.2.1,c.2.2))
   else
    bif d==m then
     some (LO.out ((⟨c.1.s,w64 (c.1.at_+1)⟩:za),c.2.1,c.2.2))
    else
     bif d==10 then
      some (LO.ret ((⟨6,[],0,[],false⟩:zb),c.1))
     else
      ze (zu (d==92) (zf (1,c.1)) (default:Int)) fun f=>
      ze (zu (!(f==(-1))&&d==92) (zf (1,c.1)) (default:Int)) fun p=>
      bif bif d==92 then bif f==(-1)then true else p==10 else false then
       some (LO.again ((⟨c.1.s,if(c.1.s.length:Int)<w64 (c.1.at_+2)then(c.1.s.length:Int)else w64 (c.1.at_+2)⟩:za),c.2.1,c.2.2))
      else
       bif d==92 then
        ze (zO (c.1,c.2.2)) fun i=>
        some (LO.again (i.1,c.2.1,i.2))
       else
        ze (Zw (wu8 d)) fun r=>
        need (Zb c.2.2.length 1 1)<|
        some (LO.again ((⟨c.1.s,w64 (c.1.at_+1)⟩:za),c.2.1,c.2.2++[r])):za×zb×List UInt8->Option (LO (za×zb×List UInt8) (za×zb×List UInt8) _)) ((⟨x.s,w64 (x.at_+1)⟩:za),(⟨0,[],0,[],false⟩:zb),[]) fun j=>
 some ((⟨5,j.2.2,0,[],false⟩:zb),j.1)
def Tq(x:Int):Option Bool:=
 ze (ZM (ibOr IntKind.i64 x 32,97,122)) fun c=>
 some (bif bif bif bif c then decide (x<128)else false then decide (x>64)else false then true else x==95 then true else decide (x>=128))
def Av(x:Int):Option Bool:=
 ze (Tq x) fun c=>
 ze (zu (!y1) (Zt x) (default:Bool)) fun d=>
 some (bif bif c then true else d then true else x==45)
def zt(x:Int×za):Option Bool:=
 ze (zf (x.1,x.2)) fun c=>
 ze (zu (c==92) (zf (w64 (x.1+1),x.2)) (default:Int)) fun d=>
 some (bif c==92 then d != 10 else false)
def zF(x:Int×za):Option Bool:=
 ze (zf (x.1,x.2)) fun f=>
 bif f != 45 then
  ze (zf (x.1,x.2)) fun i=>
  ze (Tq i) fun j=>
  ze (zu (!y3) (zt (x.1,x.2)) (default:Bool)) fun m=>
  some (bif j then true else m)
 else
  ze (zf (w64 (x.1+1),x.2)) fun p=>
  ze (Tq p) fun c=>
  ze (zu (!y6) (zf (w64 (x.1+1),x.2)) (default:Int)) fun d=>
  ze (zu (!(bif c then true else d==45)) (zt (w64 (x.1+1),x.2)) (default:Bool)) fun r=>
  some (bif bif c then true else d==45 then true else r)
def zM(x:za):Option (Str×za):=
 ZE (fun(c:za×List UInt8)=>
   ze (zf (0,c.1)) fun d=>
   ze (Av d) fun i=>
   bif i then
    ze (Zw (wu8 d)) fun j=>
    need (Zb c.2.length 1 1)<|
    some (LO.again ((⟨c.1.s,w64 (c.1.at_+1)⟩:za),c.2++[j]))
   else
    ze (zu (d != (-1)) (zt (0,c.1)) (default:Bool)) fun m=>
    bif bif d != (-1)then m else false then
     ze (zO (c.1,c.2)) fun f=>
     some (LO.again (f.1,f.2))
    else
     some (LO.ret (c.2,c.1)):za×List UInt8->Option (LO (za×List UInt8) (Unit) _)) (x,[]) fun o7=>
 none
def Zu(x:za):Option Bool:=
 zW (X:=Int) (
   ze (zf (0,x)) fun d=>
   bif bif d==43 then true else d==45 then
    some (LX.out 1)
   else
    some (LX.out 0)) fun c=>
 zW (X:=Int) (
   ze (zf (c,x)) fun f=>
   bif f==46 then
    some (LX.out (w64 (c+1)))
   else
    some (LX.out c)) fun i=>
 ze (zf (i,x)) fun j=>
 ze (Zt j) fun m=>
 some m
def zP(x:za):Option za:=
 ZE (fun(c:za)=>
   ze (zf (0,c)) fun d=>
   ze (Zt d) fun f=>
   bif f then
    some (LO.again (⟨c.s,w64 (c.at_+1)⟩:za))
   else
    some (LO.out c):za->Option (LO (za) (za) _)) x fun o4=>
 some o4
def Z7(x:za):Option (Bool×za):=
 zW (X:=za) (
   ze (zf (0,x)) fun y=>
   bif bif y==43 then true else y==45 then
    some (LX.out (⟨x.s,w64 (x.at_+1)⟩:za))
   else
    some (LX.out x)) fun A=>
 ze (zP A) fun f=>
 zW (X:=Bool×za) (
   ze (zf (0,f)) fun m=>
   ze (zu (m==46) (zf (1,f)) (default:Int)) fun B=>
   ze (zu (m==46) (Zt B) (default:Bool)) fun J=>
   bif bif m==46 then J else false then
    ze (zP (⟨f.s,w64 (f.at_+1)⟩:za)) fun L=>
    some (LX.out (false,L))
   else
    some (LX.out (true,f))) fun d=>
 zW (X:=Bool×za) (
   ze (zf (0,d.2)) fun z=>
   ze (zu (!(z==101)) (zf (0,d.2)) (default:Int)) fun p=>
   bif bif z==101 then true else p==69 then
    zW (X:=(Bool×Int)×za) (
      ze (zf (1,d.2)) fun i=>
      bif bif i==43 then true else i==45 then
       some (LX.out ((d.1,2),d.2))
      else
       some (LX.out ((d.1,1),d.2))) fun c=>
    ze (zf (c.1.2,c.2)) fun r=>
    ze (Zt r) fun u=>
    bif u then
     ze (zP (⟨c.2.s,w64 (c.2.at_+c.1.2)⟩:za)) fun v=>
     some (LX.out (false,v))
    else
     some (LX.out (c.1.1,c.2))
   else
    some (LX.out (d.1,d.2))) fun j=>
 some (j.1,j.2)
def ZR(x:Str):Option Int:=
 ze (geti x 0) fun L=>
 ze (Uk (x,[43,45])) fun r=>
 zW (X:=Str×Int) (
   ze (QZ (r,[101,69])) fun m=>
   bif decide (m>=0)then
    need (decide (0<=w64 (m+1))&&decide (w64 (m+1)<=(r.length:Int)))<|
    ze (Uk (List.drop (w64 (m+1)).toNat r,[43,45])) fun y=>
    need (decide (y.length<=maxLen))<|
    ZE (fun(p:Int×Int)=>
      bif decide (p.2<(y.length:Int))then
       need (decide (0<=p.2)&&decide (p.2<(y.length:Int)))<|
       ze y[p.2.toNat]? fun J=>
       some (LO.again (if 1048576<w64 (w64 (10*p.1)+w64 (wu8 ((J.toNat:Int) - 48)))then 1048576 else w64 (w64 (10*p.1)+w64 (wu8 ((J.toNat:Int) - 48))),w64 (p.2+1)))
      else
       some (LO.out p.1):Int×Int->Option (LO (Int×Int) (Int) _)) (0,0) fun o7=>
    zW (X:=Str×Int×Int) (
      ze (geti r (w64 (m+1))) fun O=>
      bif (O.toNat:Int)==45 then
       some (LX.out (r,3,w64 (0 - o7)))
      else
       some (LX.out (r,3,o7))) fun z=>
    need (decide (0<=m)&&decide (m<=(z.1.length:Int)))<|
    some (LX.out (List.take m.toNat z.1,w64 (z.2.1+z.2.2)))
   else
    some (LX.out (r,3))) fun d=>
 ze (cutF (d.1,[46])) fun c=>
 need (Ah c.1.length c.2.1.length)<|
 zW (X:=Str×Int) (
   bif decide (w64 (d.2 - (c.2.1.length:Int))<0)then
    need (decide (0<=(if w64 (((c.1++c.2.1).length:Int)+w64 (d.2 - (c.2.1.length:Int)))>0 then w64 (((c.1++c.2.1).length:Int)+w64 (d.2 - (c.2.1.length:Int)))else 0))&&decide ((if w64 (((c.1++c.2.1).length:Int)+w64 (d.2 - (c.2.1.length:Int)))>0 then w64 (((c.1++c.2.1).length:Int)+w64 (d.2 - (c.2.1.length:Int)))else 0)<=((c.1++c.2.1).length:Int)))<|
    some (LX.out (List.take (if w64 (((c.1++c.2.1).length:Int)+w64 (d.2 - (c.2.1.length:Int)))>0 then w64 (((c.1++c.2.1).length:Int)+w64 (d.2 - (c.2.1.length:Int)))else 0).toNat (c.1++c.2.1),w64 (d.2 - (c.2.1.length:Int))))
   else
    some (LX.out (c.1++c.2.1,w64 (d.2 - (c.2.1.length:Int))))) fun j=>
 need (decide (j.1.length<=maxLen))<|
 ZE (fun(f:Int×Int)=>
   bif decide (f.2<(j.1.length:Int))then
    need (decide (0<=f.2)&&decide (f.2<(j.1.length:Int)))<|
    ze j.1[f.2.toNat]? fun u=>
    some (LO.again (if 1000000000000<w64 (w64 (10*f.1)+w64 (wu8 ((u.toNat:Int) - 48)))then 1000000000000 else w64 (w64 (10*f.1)+w64 (wu8 ((u.toNat:Int) - 48))),w64 (f.2+1)))
   else
    some (LO.out f.1):Int×Int->Option (LO (Int×Int) (Int) _)) (0,0) fun A=>
 ZE (fun(i:Int×Int)=>
   bif bif bif decide (i.1>0)then decide (i.2>0)else false then decide (i.2<1000000000000)else false then
    some (LO.again (w64 (i.1 - 1),if 1000000000000<w64 (10*i.2)then 1000000000000 else w64 (10*i.2)))
   else
    some (LO.out i.2):Int×Int->Option (LO (Int×Int) (Int) _)) (j.2,A) fun v=>
 zW (X:=Int) (
   bif (L.toNat:Int)==45 then
    some (LX.out (w64 (0 - v)))
   else
    some (LX.out v)) fun B=>
 some B
def ZF(x:za):Option (zb×za):=
 ze (Z7 x) fun c=>
 need (decide (0<=x.at_)&&(decide (x.at_<=c.2.at_)&&decide (c.2.at_<=(c.2.s.length:Int))))<|
 ze (ZR (List.drop x.at_.toNat (List.take c.2.at_.toNat c.2.s))) fun d=>
 zW (X:=za×zb×zb) (
   ze (zF (0,c.2)) fun j=>
   bif j then
    ze (zM c.2) fun f=>
    some (LX.out (f.2,(⟨0,[],0,[],false⟩:zb),(⟨12,[],d,f.1,c.1⟩:zb)))
   else
    ze (zf (0,c.2)) fun m=>
    bif m==37 then
     some (LX.out ((⟨c.2.s,w64 (c.2.at_+1)⟩:za),(⟨0,[],0,[],false⟩:zb),(⟨11,[],d,[],false⟩:zb)))
    else
     some (LX.out (c.2,(⟨0,[],0,[],false⟩:zb),(⟨10,[],d,[],c.1⟩:zb)))) fun i=>
 some (i.2.2,i.1)
def ou(x:Str):Option Str:=
 need (decide (x.length<=maxLen))<|
 ZE (fun(c:Int×List UInt8)=>
   bif decide (c.1<(x.length:Int))then
    zW (X:=Int×List UInt8) (
      need (decide (0<=c.1)&&decide (c.1<(c.2.length:Int)))<|
      ze c.2[c.1.toNat]? fun d=>
      bif bif decide (65<=(d.toNat:Int))then decide ((d.toNat:Int)<=90)else false then
       need (decide (0<=c.1)&&decide (c.1<(c.2.length:Int)))<|
       ze c.2[c.1.toNat]? fun i=>
       need (decide (0<=c.1)&&decide (c.1<(c.2.length:Int)))<|
       ze c.2[c.1.toNat]? fun m=>
       ze (Zw (ibOr IntKind.u8 (i.toNat:Int) 32)) fun j=>
       some (LX.out (c.1,List.set c.2 c.1.toNat j))
      else
       some (LX.out (c.1,c.2))) fun f=>
    some (LO.again (w64 (f.1+1),f.2))
   else
    some (LO.out c.2):Int×List UInt8->Option (LO (Int×List UInt8) (List UInt8) _)) (0,x) fun o7=>
 some o7
def Wq(x:Str×Str):Option Bool:=
 ze (ou x.1) fun c=>
 ze (ou x.2) fun d=>
 some (c==d)
def ZQ(x:za):Option (zb×za):=
 ZE (fun(c:za×zb)=>
   ze (zf (0,c.1)) fun d=>
   bif d==(-1)then
    some (LO.ret ((⟨8,[],0,[],false⟩:zb),c.1))
   else
    ze (zt (0,c.1)) fun f=>
    bif f then
     ze (ZJ c.1) fun i=>
     some (LO.again (i.1,c.2))
    else
     ze (geti c.1.s (w64 (w64 (c.1.at_+1) - 1))) fun j=>
     bif (j.toNat:Int)==41 then
      some (LO.ret ((⟨8,[],0,[],false⟩:zb),(⟨c.1.s,w64 (c.1.at_+1)⟩:za)))
     else
      some (LO.again ((⟨c.1.s,w64 (c.1.at_+1)⟩:za),c.2)):za×zb->Option (LO (za×zb) (Unit) _)) (x,(⟨0,[],0,[],false⟩:zb)) fun o6=>
 none
def Qr(x:za):Option (zb×za):=
 ze (zS x) fun z=>
 ZE (fun(d:za×zb×List UInt8)=>
   ze (zf (0,d.1)) fun v=>
   zW (X:=Int×za×zb×List UInt8) (
     ze (qd v) fun A=>
     bif A then
      ze (zS d.1) fun m=>
      ze (zf (0,m)) fun p=>
      bif bif p != 41 then p != (-1)else false then
       ze (ZQ m) fun y=>
       some (LX.ret (LO.ret (y.1,y.2)))
      else
       some (LX.out (p,m,d.2.1,d.2.2))
     else
      some (LX.out (v,d.1,d.2.1,d.2.2))) fun c=>
   bif c.1==(-1)then
    some (LO.ret ((⟨7,c.2.2.2,0,[],false⟩:zb),c.2.1))
   else
    bif c.1==41 then
     some (LO.ret ((⟨7,c.2.2.2,0,[],false⟩:zb),(⟨c.2.1.s,w64 (c.2.1.at_+1)⟩:za)))
    else
     ze (zu (!(bif bif bif bif c.1==34 then true else c.1==39 then true else c.1==40 then true else decide (c.1<=8)then true else c.1==11)) (ZM (c.1,14,31)) (default:Bool)) fun B=>
     bif bif bif bif bif bif bif c.1==34 then true else c.1==39 then true else c.1==40 then true else decide (c.1<=8)then true else c.1==11 then true else B then true else c.1==127 then
      ze (ZQ c.2.1) fun f=>
      some (LO.ret (f.1,f.2))
     else
      bif c.1 != 92 then
       ze (Zw (wu8 c.1)) fun r=>
       need (Zb c.2.2.2.length 1 1)<|
       some (LO.again ((⟨c.2.1.s,w64 (c.2.1.at_+1)⟩:za),c.2.2.1,c.2.2.2++[r]))
      else
       ze (zt (0,c.2.1)) fun u=>
       bif u then
        ze (zO (c.2.1,c.2.2.2)) fun i=>
        some (LO.again (i.1,c.2.2.1,i.2))
       else
        ze (ZQ c.2.1) fun j=>
        some (LO.ret (j.1,j.2)):za×zb×List UInt8->Option (LO (za×zb×List UInt8) (Unit) _)) (z,(⟨0,[],0,[],false⟩:zb),[]) fun J=>
 none
def ZB(x:za):Option (zb×za):=
 ze (zM x) fun c=>
 ze (zf (0,c.2)) fun i=>
 bif i != 40 then
  some ((⟨1,c.1,0,[],false⟩:zb),c.2)
 else
  zW (X:=za×zb) (
    ze (Wq (c.1,[117,114,108])) fun j=>
    bif j then
     ze (zS (⟨c.2.s,w64 (c.2.at_+1)⟩:za)) fun m=>
     ze (zf (0,m)) fun d=>
     bif bif d != 34 then d != 39 else false then
      ze (Qr (⟨c.2.s,w64 (c.2.at_+1)⟩:za)) fun f=>
      some (LX.ret (f.1,f.2))
     else
      some (LX.out ((⟨c.2.s,w64 (c.2.at_+1)⟩:za),(⟨0,[],0,[],false⟩:zb)))
    else
     some (LX.out ((⟨c.2.s,w64 (c.2.at_+1)⟩:za),(⟨0,[],0,[],false⟩:zb)))) fun p=>
  some ((⟨2,c.1,0,[],false⟩:zb),p.1)
def strings_IndexByte(x:Str×Int):Option Int:=
 ze (Tx (x.1,x.2)) fun c=>
 some c
def qa(x:za):Option (zb×za):=
 ze (zf (0,x)) fun c=>
 need (decide (0<=x.at_)&&decide (x.at_<=(x.s.length:Int)))<|
 ze (qd c) fun A=>
 bif A then
  ze (zS x) fun B=>
  some ((⟨13,[],0,[],false⟩:zb),B)
 else
  bif bif c==34 then true else c==39 then
   ze (qi x) fun y=>
   some (y.1,y.2)
  else
   ze (zu (c==35) (zf (1,x)) (default:Int)) fun J=>
   ze (zu (c==35) (Av J) (default:Bool)) fun L=>
   ze (zu (!y6&&c==35) (zt (1,x)) (default:Bool)) fun O=>
   bif bif c==35 then bif L then true else O else false then
    ze (zF (1,x)) fun U=>
    ze (zM (⟨x.s,w64 (x.at_+1)⟩:za)) fun z=>
    some ((⟨4,z.1,0,[],U⟩:zb),z.2)
   else
    ze (Zu x) fun m=>
    bif m then
     ze (ZF x) fun d=>
     some (d.1,d.2)
    else
     ze (strings_HasPrefix (List.drop x.at_.toNat x.s,[45,45,62])) fun p=>
     bif p then
      some ((⟨15,[],0,[],false⟩:zb),(⟨x.s,w64 (x.at_+3)⟩:za))
     else
      ze (strings_HasPrefix (List.drop x.at_.toNat x.s,[60,33,45,45])) fun r=>
      bif r then
       some ((⟨14,[],0,[],false⟩:zb),(⟨x.s,w64 (x.at_+4)⟩:za))
      else
       ze (zu (c==64) (zF (1,x)) (default:Bool)) fun u=>
       bif bif c==64 then u else false then
        ze (zM (⟨x.s,w64 (x.at_+1)⟩:za)) fun f=>
        some ((⟨3,f.1,0,[],false⟩:zb),f.2)
       else
        ze (zF (0,x)) fun v=>
        bif v then
         ze (ZB x) fun i=>
         some (i.1,i.2)
        else
         ze (strings_IndexByte ([58,59,44,91,93,40,41,123,125],wu8 c)) fun j=>
         bif decide (j>=0)then
          some ((⟨wu8 (16+wu8 j),[],0,[],false⟩:zb),(⟨x.s,w64 (x.at_+1)⟩:za))
         else
          need (decide (1<=((List.drop x.at_.toNat x.s).length:Int)))<|
          some ((⟨9,List.take 1 (List.drop x.at_.toNat x.s),0,[],false⟩:zb),(⟨x.s,w64 (x.at_+1)⟩:za))
def QI(x:(zb×Int×Int)×List zb):Option (List zb):=
 need (Zb x.2.length 1 56)<|
 some (x.2++[x.1.1])
def dz(x:Str):Option (Int×List zb):=
 ze (ul x) fun d=>
 bif d.2 != 0 then
  some (d.2,[])
 else
  ze (Zh (⟨d.1,0⟩:za)) fun i=>
  ZE (fun(c:Int×List zb×za)=>
    bif decide (c.2.2.at_<(d.1.length:Int))then
     bif decide (w64 (c.1+1)>1500)then
      some (LO.ret (4,c.2.1))
     else
      ze (qa c.2.2) fun f=>
      ze (QI ((f.1,c.2.2.at_,f.2.at_),c.2.1)) fun j=>
      ze (Zh f.2) fun m=>
      some (LO.again (w64 (c.1+1),j,m))
    else
     some (LO.out (c.2.1,c.2.2)):Int×List zb×za->Option (LO (Int×List zb×za) (List zb×za) _)) (0,[],i) fun o7=>
  some (0,o7.1)
def ZL(x:Str):Option (List zb×Int):=
 ze (dz x) fun c=>
 bif c.1 != 0 then
  some ([],c.1)
 else
  some (c.2,0)
def qb(x:Int):Option Int:=
 bif x==2 then
  some 22
 else
  zW (X:=Bool) (
    bif x==19 then
     some (LX.out (x==19))
    else
     bif x==21 then
      some (LX.out (x==21))
     else
      some (LX.out (x==23))) fun c=>
  bif c then
   some (wu8 (x+1))
  else
   some 0
def bE(QG:List zg×Int->Option zI)(x:List zg×Int):Option zI:=
 ZE (fun(c:Int×zI)=>
   bif decide (c.1<(x.1.length:Int))then
    zW (X:=Int×zI) (
      ze (geti x.1 c.1) fun f=>
      ze (qb f.token.kind) fun j=>
      zW (X:=zI) (
        bif bif bif x.2 != 0 then f.token.kind==x.2 else false then true else bif j==0 then decide ((f.list.length:Int)>0)else false then
         some (LX.out (⟨c.2.depth,w64 (c.2.tokens+1),true⟩:zI))
        else
         some (LX.out (⟨c.2.depth,w64 (c.2.tokens+1),c.2.bad⟩:zI))) fun d=>
      bif j==0 then
       some (LX.out (c.1,d))
      else
       ze (QG (f.list,j)) fun i=>
       some (LX.out (c.1,(⟨if w64 (i.depth+1)>d.depth then w64 (i.depth+1)else d.depth,w64 (w64 (d.tokens+i.tokens)+1),bif d.bad then true else i.bad⟩:zI)))) fun m=>
    some (LO.again (w64 (m.1+1),m.2))
   else
    some (LO.out c.2):Int×zI->Option (LO (Int×zI) (zI) _)) (0,(⟨0,0,false⟩:zI)) fun o7=>
 some o7
def QG:List zg×Int->Option zI:=recE (bE)
def Rq(x:List zg):Option Int:=
 ze (QG (x,0)) fun c=>
 bif decide (c.depth>16)then
  some 20
 else
  bif decide (c.tokens>1500)then
   some 4
  else
   bif c.bad then
    some 8
   else
    some 0
def uE(qX:List zg×List zb->Option (List zb))(x:List zg×List zb):Option (List zb):=
 ZE (fun(c:Int×List zb)=>
   bif decide (c.1<(x.1.length:Int))then
    zW (X:=Int×List zb) (
      ze (geti x.1 c.1) fun d=>
      need (Zb c.2.length 1 56)<|
      ze (qb d.token.kind) fun f=>
      bif f != 0 then
       ze (qX (d.list,c.2++[d.token])) fun i=>
       need (Zb i.length 1 56)<|
       some (LX.out (c.1,i++[(⟨f,[],0,[],false⟩:zb)]))
      else
       some (LX.out (c.1,c.2++[d.token]))) fun j=>
    some (LO.again (w64 (j.1+1),j.2))
   else
    some (LO.out c.2):Int×List zb->Option (LO (Int×List zb) (List zb) _)) (0,x.2) fun o6=>
 some o6
def qX:List zg×List zb->Option (List zb):=recE (uE)
def nu(x:List zg):Option (List zb):=
 ZE (fun(c:Int×List zb)=>
   bif decide (c.1<(x.length:Int))then
    zW (X:=Int×List zb) (
      ze (geti x c.1) fun d=>
      need (Zb c.2.length 1 56)<|
      ze (qb d.token.kind) fun f=>
      bif f != 0 then
       ze (qX (d.list,c.2++[d.token])) fun i=>
       need (Zb i.length 1 56)<|
       some (LX.out (c.1,i++[(⟨f,[],0,[],false⟩:zb)]))
      else
       some (LX.out (c.1,c.2++[d.token]))) fun j=>
    some (LO.again (w64 (j.1+1),j.2))
   else
    some (LO.out c.2):Int×List zb->Option (LO (Int×List zb) (List zb) _)) (0,[]) fun o6=>
 some o6
def stringslite_TrimPrefix(x:Str×Str):Option Str:=
 ze (stringslite_HasPrefix (x.1,x.2)) fun c=>
 bif c then
  need (decide (0<=(x.2.length:Int))&&decide ((x.2.length:Int)<=(x.1.length:Int)))<|
  some (List.drop x.2.length x.1)
 else
  some x.1
def strings_TrimPrefix(x:Str×Str):Option Str:=
 ze (stringslite_TrimPrefix (x.1,x.2)) fun c=>
 some c
def qA(x:Int):Option Bool:=
 some (bif decide (48<=x)then decide (x<=57)else false)
def QY(x:Str):Option Bool:=
 ze (strings_TrimPrefix (x,[45])) fun c=>
 ze (zu (!(c==[])) (geti c 0) 0) fun d=>
 ze (zu (!(c==[])) (qA (d.toNat:Int)) (default:Bool)) fun f=>
 some (bif !(c==[])then f else false)
def su(x:Int):Option Bool:=
 some (bif bif decide (97<=ibOr IntKind.u8 x 32)then decide (ibOr IntKind.u8 x 32<=122)else false then decide (x<128)else false)
def Ho(x:Int):Option Bool:=
 ze (su x) fun c=>
 ze (zu (!y1) (qA x) (default:Bool)) fun d=>
 some (bif bif bif bif c then true else d then true else x==95 then true else x==45 then true else decide (x>=128))
def strings_Contains(x:Str×Str):Option Bool:=
 ze (Am (x.1,x.2)) fun c=>
 some (decide (c>=0))
def uy(x:zb):Option Bool:=
 need (Ah x.text.length x.unit.length)<|
 ze (strings_IndexByte (x.text++x.unit,0)) fun j=>
 zW (X:=Bool×Bool×Bool×Bool×Bool) (
   zW (X:=Bool×Bool×Bool×Bool×Bool×Bool) (
     bif x.kind==1 then
      some (LX.out (false,false,false,false,decide (j<0),x.kind==1))
     else
      bif x.kind==2 then
       some (LX.out (false,false,false,false,decide (j<0),x.kind==2))
      else
       some (LX.out (false,false,false,false,decide (j<0),x.kind==3))) fun d=>
   bif d.2.2.2.2.2 then
    some (LX.out (true,d.2.1,d.2.2.1,d.2.2.2.1,bif d.2.2.2.2.1 then !(x.text==[])else false))
   else
    bif x.kind==4 then
     ze (zu (!x.flag&&(bif d.2.2.2.2.1 then !(x.text==[])else false)) (QY x.text) (default:Bool)) fun m=>
     ze (zu (m&&(!x.flag&&(bif d.2.2.2.2.1 then !(x.text==[])else false))) (strings_HasPrefix (x.text,[45,45])) (default:Bool)) fun r=>
     some (LX.out (true,d.2.1,d.2.2.1,true,bif bif d.2.2.2.2.1 then !(x.text==[])else false then bif bif x.flag then true else bif m then !y4 else false then true else x.text==[45]else false))
    else
     zW (X:=Bool×Bool×Bool×Bool×Bool×Bool) (
       bif x.kind==5 then
        some (LX.out (d.1,d.2.1,d.2.2.1,d.2.2.2.1,d.2.2.2.2.1,x.kind==5))
       else
        some (LX.out (d.1,d.2.1,d.2.2.1,d.2.2.2.1,d.2.2.2.2.1,x.kind==7))) fun c=>
     bif c.2.2.2.2.2 then
      some (LX.out (true,c.2.1,c.2.2.1,c.2.2.2.1,c.2.2.2.2.1))
     else
      bif x.kind==9 then
       ze (zu (bif c.2.2.2.2.1 then(x.text.length:Int)==1 else false) (geti x.text 0) 0) fun p=>
       ze (zu (bif c.2.2.2.2.1 then(x.text.length:Int)==1 else false) (Ho (p.toNat:Int)) (default:Bool)) fun u=>
       ze (zu (bif bif bif c.2.2.2.2.1 then(x.text.length:Int)==1 else false then !y7 else false then true else x.text==[45]) (strings_Contains ([32,9,10,12,13,34,39,58,59,44,91,93,40,41,123,125],x.text)) (default:Bool)) fun v=>
       some (LX.out (true,c.2.1,c.2.2.1,c.2.2.2.1,bif bif bif bif c.2.2.2.2.1 then(x.text.length:Int)==1 else false then !y7 else false then true else x.text==[45]then !y8 else false))
      else
       zW (X:=Bool×Bool×Bool×Bool×Bool) (
         bif x.kind==10 then
          some (LX.out (c.2.1,c.2.2.1,c.2.2.2.1,c.2.2.2.2.1,x.kind==10))
         else
          bif x.kind==11 then
           some (LX.out (c.2.1,c.2.2.1,c.2.2.2.1,c.2.2.2.2.1,x.kind==11))
          else
           some (LX.out (c.2.1,c.2.2.1,c.2.2.2.1,c.2.2.2.2.1,x.kind==12))) fun i=>
       bif i.2.2.2.2 then
        some (LX.out (c.1,x.kind==12,true,x.kind != 11,bif bif bif bif i.2.2.2.1 then decide (x.num>=(-1000000000000))else false then decide (x.num<=1000000000000)else false then bif !x.flag then true else Int.tmod x.num 1000==0 else false then bif !(x.kind==12)then true else !(x.unit==[])else false))
       else
        some (LX.out (c.1,i.1,i.2.1,i.2.2.1,bif decide (x.kind>=13)then decide (x.kind<=24)else false))) fun f=>
 some (bif bif bif bif f.2.2.2.2 then bif f.1 then true else x.text==[]else false then bif f.2.1 then true else x.unit==[]else false then bif f.2.2.1 then true else x.num==0 else false then bif f.2.2.2.1 then true else !x.flag else false)
def ZK(x:(Int×Int)×List zb):Option Bool:=
 ze (zu (decide (x.1.1<(x.2.length:Int))) (geti x.2 x.1.1) (default:zb)) fun c=>
 some (bif decide (x.1.1<(x.2.length:Int))then c.kind==x.1.2 else false)
def QM(x:List zb):Option Int:=
 ze (geti x 0) fun c=>
 bif bif c.kind==9 then c.text==[92]else false then
  ze (ZK ((1,13),x)) fun j=>
  bif !y2 then
   some 0
  else
   some 2
 else
  ze (zu (c.kind==2) (Wq (c.text,[117,114,108])) (default:Bool)) fun f=>
  bif bif c.kind==2 then f else false then
   zW (X:=Int) (
     ze (ZK ((1,13),x)) fun i=>
     bif i then
      some (LX.out 2)
     else
      some (LX.out 1)) fun d=>
   ze (ZK ((d,5),x)) fun m=>
   bif !y6 then
    some 0
   else
    some (w64 (d+1))
  else
   some 1
def az(x:List zb):Option Int:=
 bif decide ((x.length:Int)>1500)then
  some 4
 else
  ZE (fun(c:Int)=>
    bif decide (c<(x.length:Int))then
     ze (geti x c) fun d=>
     ze (uy d) fun i=>
     need (decide (0<=c)&&decide (c<=(x.length:Int))|| !(!(!y3)))<|
     ze (zu (!(!y3)) (QM (List.drop c.toNat x)) (default:Int)) fun f=>
     bif bif !y3 then true else f==0 then
      some (LO.ret 8)
     else
      some (LO.again (w64 (c+1)))
    else
     some (LO.out ()):Int->Option (LO (Int) (Unit) _)) 0 fun o5=>
  some 0
def Pm(x:Str):Option Int:=
 ze (strings_HasPrefix (x,[45])) fun c=>
 bif c then
  some 2
 else
  some 1
def ZW(x:Int×List UInt8):Option (List UInt8):=
 ze (zu (bif decide (x.1>32)then decide (x.1<127)else false) (qA x.1) (default:Bool)) fun f=>
 ze (zu (bif bif decide (x.1>32)then decide (x.1<127)else false then !y1 else false) (su x.1) (default:Bool)) fun i=>
 bif bif bif bif decide (x.1>32)then decide (x.1<127)else false then !y1 else false then !y2 else false then
  ze (Zw x.1) fun d=>
  need (Zb x.2.length 2 1)<|
  some (x.2++[(92:UInt8),d])
 else
  need (Zb x.2.length 1 1)<|
  ze (Fq ((wu64 x.1,16),x.2++[(92:UInt8)])) fun c=>
  need (Zb c.length 1 1)<|
  some (c++[(32:UInt8)])
def qC(x:(Str×Int)×List UInt8):Option (List UInt8):=
 ZE (fun(c:Int×List UInt8)=>
   bif decide (c.1<(x.1.1.length:Int))then
    zW (X:=Int×List UInt8) (
      ze (geti x.1.1 c.1) fun d=>
      ze (Ho (d.toNat:Int)) fun f=>
      ze (zu (!(decide (c.1>=x.1.2))&&f) (qA (d.toNat:Int)) (default:Bool)) fun r=>
      bif bif bif f then bif decide (c.1>=x.1.2)then true else !y4 else false then bif x.1.2==0 then true else !(x.1.1==[45])else false then
       ze (Zw (d.toNat:Int)) fun j=>
       need (Zb c.2.length 1 1)<|
       some (LX.out (c.1,c.2++[j]))
      else
       ze (ZW ((d.toNat:Int),c.2)) fun m=>
       some (LX.out (c.1,m))) fun i=>
    some (LO.again (w64 (i.1+1),i.2))
   else
    some (LO.out c.2):Int×List UInt8->Option (LO (Int×List UInt8) (List UInt8) _)) (0,x.2) fun p=>
 some p
def Yz(x:Unit):Option QK:=
 some (⟨[32],[60,33,45,45],[45,45,62],[58],[59],[44],[91],[93],[40],[41],[123],[125]⟩:QK)
def QC(x:(Int×Bool)×List UInt8):Option (List UInt8):=
 zW (X:=Int×List UInt8) (
   bif decide (x.1.1<0)then
    need (Zb x.2.length 1 1)<|
    some (LX.out (w64 (0 - x.1.1),x.2++[(45:UInt8)]))
   else
    some (LX.out (x.1.1,x.2))) fun d=>
 ze (Gq ((w64 (Int.tdiv d.1 1000),10),d.2)) fun c=>
 ze (Tp (w64 (1000+Int.tmod d.1 1000),10)) fun i=>
 need (decide (1<=(i.length:Int)))<|
 ze (xm (List.drop 1 i,[48])) fun f=>
 zW (X:=List UInt8) (
   bif !(f==[])then
    need (Zb c.length 1 1)<|
    need (Zb (c++[(46:UInt8)]).length f.length 1)<|
    some (LX.out (c++[(46:UInt8)]++f))
   else
    bif x.1.2 then
     need (Zb c.length ([46,48]:Str).length 1)<|
     some (LX.out (c++([46,48]:Str)))
    else
     some (LX.out c)) fun j=>
 some j
def pu(x:zb×List UInt8):Option (List UInt8):=
 bif x.1.kind==1 then
  ze (Pm x.1.text) fun y1=>
  ze (qC ((x.1.text,y1),x.2)) fun y2=>
  some y2
 else
  bif x.1.kind==2 then
   ze (Pm x.1.text) fun y3=>
   ze (qC ((x.1.text,y3),x.2)) fun y4=>
   need (Zb y4.length 1 1)<|
   some (y4++[(40:UInt8)])
  else
   bif x.1.kind==3 then
    need (Zb x.2.length 1 1)<|
    ze (Pm x.1.text) fun y5=>
    ze (qC ((x.1.text,y5),x.2++[(64:UInt8)])) fun y6=>
    some y6
   else
    bif x.1.kind==4 then
     zW (X:=Int×List UInt8) (
       bif x.1.flag then
        ze (Pm x.1.text) fun y7=>
        some (LX.out (y7,x.2))
       else
        some (LX.out (0,x.2))) fun B=>
     need (Zb B.2.length 1 1)<|
     ze (qC ((x.1.text,B.1),B.2++[(35:UInt8)])) fun y9=>
     some y9
    else
     bif x.1.kind==5 then
      need (Zb x.2.length 1 1)<|
      need (decide (x.1.text.length<=maxLen))<|
      ZE (fun(d:Int×List UInt8)=>
        bif decide (d.1<(x.1.text.length:Int))then
         zW (X:=Int×List UInt8) (
           need (decide (0<=d.1)&&decide (d.1<(x.1.text.length:Int)))<|
           ze x.1.text[d.1.toNat]? fun m=>
           ze (strings_IndexByte ([10,12,13,34,92],(m.toNat:Int))) fun J=>
           bif decide (J>=0)then
            ze (ZW ((m.toNat:Int),d.2)) fun L=>
            some (LX.out (d.1,L))
           else
            ze (Zw (m.toNat:Int)) fun O=>
            need (Zb d.2.length 1 1)<|
            some (LX.out (d.1,d.2++[O]))) fun r=>
         some (LO.again (w64 (r.1+1),r.2))
        else
         some (LO.out d.2):Int×List UInt8->Option (LO (Int×List UInt8) (List UInt8) _)) (0,x.2++[(34:UInt8)]) fun u=>
      need (Zb u.length 1 1)<|
      some (u++[(34:UInt8)])
     else
      bif x.1.kind==7 then
       need (Zb x.2.length ([117,114,108,40]:Str).length 1)<|
       need (decide (x.1.text.length<=maxLen))<|
       ZE (fun(f:Int×List UInt8)=>
         bif decide (f.1<(x.1.text.length:Int))then
          zW (X:=Int×List UInt8) (
            need (decide (0<=f.1)&&decide (f.1<(x.1.text.length:Int)))<|
            ze x.1.text[f.1.toNat]? fun i=>
            ze (zu (!(decide ((i.toNat:Int)<=32))) (strings_IndexByte ([34,39,40,41,92,127],(i.toNat:Int))) (default:Int)) fun U=>
            bif bif decide ((i.toNat:Int)<=32)then true else decide (U>=0)then
             ze (ZW ((i.toNat:Int),f.2)) fun V=>
             some (LX.out (f.1,V))
            else
             ze (Zw (i.toNat:Int)) fun W=>
             need (Zb f.2.length 1 1)<|
             some (LX.out (f.1,f.2++[W]))) fun v=>
          some (LO.again (w64 (v.1+1),v.2))
         else
          some (LO.out f.2):Int×List UInt8->Option (LO (Int×List UInt8) (List UInt8) _)) (0,x.2++([117,114,108,40]:Str)) fun o23=>
       need (Zb o23.length 1 1)<|
       some (o23++[(41:UInt8)])
      else
       bif x.1.kind==9 then
        need (Zb x.2.length x.1.text.length 1)<|
        some (x.2++x.1.text)
       else
        bif x.1.kind==10 then
         ze (QC ((x.1.num, !x.1.flag),x.2)) fun Y=>
         some Y
        else
         bif x.1.kind==11 then
          ze (QC ((x.1.num,false),x.2)) fun y=>
          need (Zb y.length 1 1)<|
          some (y++[(37:UInt8)])
         else
          bif x.1.kind==12 then
           ze (QC ((x.1.num, !x.1.flag),x.2)) fun z=>
           ze (geti x.1.unit 0) fun j=>
           need (decide (1<=(x.1.unit.length:Int))|| !(ibOr IntKind.u8 (j.toNat:Int) 32==101))<|
           ze (zu (ibOr IntKind.u8 (j.toNat:Int) 32==101) (QY (List.drop 1 x.1.unit)) (default:Bool)) fun p=>
           need (decide (1<=(x.1.unit.length:Int))|| !(bif ibOr IntKind.u8 (j.toNat:Int) 32==101 then p else false))<|
           ze (zu (bif ibOr IntKind.u8 (j.toNat:Int) 32==101 then p else false) (strings_HasPrefix (List.drop 1 x.1.unit,[45,45])) (default:Bool)) fun a8=>
           bif bif bif ibOr IntKind.u8 (j.toNat:Int) 32==101 then p else false then !y29 else false then
            ze (geti x.1.unit 0) fun Z=>
            ze (ZW ((Z.toNat:Int),z)) fun a3=>
            need (decide (1<=(x.1.unit.length:Int)))<|
            ze (qC ((List.drop 1 x.1.unit,0),a3)) fun a5=>
            some a5
           else
            ze (Pm x.1.unit) fun a6=>
            ze (qC ((x.1.unit,a6),z)) fun a7=>
            some a7
          else
           ze (Yz ()) fun c=>
           ze (geti [c.e0,c.e1,c.e2,c.e3,c.e4,c.e5,c.e6,c.e7,c.e8,c.e9,c.e10,c.e11] (wu8 (x.1.kind - 13))) fun A=>
           need (Zb x.2.length A.length 1)<|
           some (x.2++A)
def Z9(x:List zb×List zb):Option Bool:=
 bif (x.1.length:Int) != (x.2.length:Int)then
  some false
 else
  ZE (fun(f:Int)=>
    bif decide (f<(x.1.length:Int))then
     ze (geti x.1 f) fun c=>
     ze (geti x.2 f) fun d=>
     bif !(c.kind==d.kind&&(c.text==d.text&&(c.num==d.num&&(c.unit==d.unit&&(c.flag==d.flag&&true)))))then
      some (LO.ret false)
     else
      some (LO.again (w64 (f+1)))
    else
     some (LO.out ()):Int->Option (LO (Int) (Unit) _)) 0 fun o4=>
  some true
def fu(x:List zb):Option (Str×Int):=
 ze (az x) fun v=>
 bif v != 0 then
  some ([],v)
 else
  ZE (fun(d:Int×List UInt8×List zz)=>
    bif decide (d.1<(x.length:Int))then
     need (decide (0<=d.1)&&decide (d.1<=(x.length:Int)))<|
     ze (QM (List.drop d.1.toNat x)) fun j=>
     need (decide (0<=d.1)&&(decide (d.1<=w64 (d.1+j))&&decide (w64 (d.1+j)<=(x.length:Int))))<|
     ZE (fun(p:Int×List UInt8)=>
       bif decide (p.1<((List.drop d.1.toNat (List.take (w64 (d.1+j)).toNat x)).length:Int))then
        ze (geti (List.drop d.1.toNat (List.take (w64 (d.1+j)).toNat x)) p.1) fun y=>
        ze (pu (y,p.2)) fun z=>
        some (LO.again (w64 (p.1+1),z))
       else
        some (LO.out p.2):Int×List UInt8->Option (LO (Int×List UInt8) (List UInt8) _)) (0,[]) fun o7=>
     zW (X:=Int×List UInt8×List zz×List UInt8) (
       ze (geti x d.1) fun A=>
       bif bif A.kind==9 then j==2 else false then
        some (LX.out (d.1,d.2.1,d.2.2,[(92:UInt8),(10:UInt8)]))
       else
        some (LX.out (d.1,d.2.1,d.2.2,o7))) fun f=>
     zW (X:=Int×List UInt8×List zz×zz) (
       bif decide (w64 ((f.2.2.1.length:Int) - 4)>=0)then
        need (decide (0<=w64 ((f.2.2.1.length:Int) - 4))&&decide (w64 ((f.2.2.1.length:Int) - 4)<(f.2.2.1.length:Int)))<|
        ze (f.2.2.1[(w64 ((f.2.2.1.length:Int) - 4)).toNat]?) fun r=>
        some (LX.out (f.1,f.2.1,f.2.2.1,r))
       else
        some (LX.out (f.1,f.2.1,f.2.2.1,(⟨0,0⟩:zz)))) fun c=>
     need (decide (0<=c.2.2.2.at_)&&decide (c.2.2.2.at_<=(c.2.1.length:Int)))<|
     need (decide (c.2.2.2.at_.toNat+(c.2.1.length - c.2.2.2.at_.toNat)<=c.2.1.length))<|
     need (Ah (List.take (c.2.1.length - c.2.2.2.at_.toNat) (List.drop c.2.2.2.at_.toNat c.2.1)).length f.2.2.2.length)<|
     ze (ZL (List.take (c.2.1.length - c.2.2.2.at_.toNat) (List.drop c.2.2.2.at_.toNat c.2.1)++f.2.2.2)) fun m=>
     zW (X:=Int×List zz×List UInt8) (
       need (decide (0<=c.2.2.2.token)&&(decide (c.2.2.2.token<=w64 (c.1+j))&&decide (w64 (c.1+j)<=(x.length:Int)))|| !(!(m.2 != 0)))<|
       ze (zu (!(m.2 != 0)) (Z9 (m.1,List.drop c.2.2.2.token.toNat (List.take (w64 (c.1+j)).toNat x))) (default:Bool)) fun B=>
       bif bif m.2 != 0 then true else !y13 then
        need (Zb c.2.1.length ([47,42,42,47]:Str).length 1)<|
        some (LX.out (c.1,c.2.2.1,c.2.1++([47,42,42,47]:Str)))
       else
        some (LX.out (c.1,c.2.2.1,c.2.1))) fun i=>
     need (Zb i.2.1.length 1 16)<|
     need (Zb i.2.2.length f.2.2.2.length 1)<|
     bif decide (((i.2.2++f.2.2.2).length:Int)>4000)then
      some (LO.ret ([],28))
     else
      some (LO.again (w64 (i.1+j),i.2.2++f.2.2.2,i.2.1++[(⟨i.1,(i.2.2.length:Int)⟩:zz)]))
    else
     some (LO.out d.2.1):Int×List UInt8×List zz->Option (LO (Int×List UInt8×List zz) (List UInt8) _)) (0,[],[]) fun u=>
  some (u,0)
def Bo(x:List zg):Option (Str×Int):=
 ze (Rq x) fun c=>
 bif c != 0 then
  some ([],c)
 else
  ze (nu x) fun f=>
  ze (fu f) fun d=>
  some (d.1,d.2)
def eu(x:List zg):Option (Int×Int):=
 ze (Rq x) fun c=>
 bif c != 0 then
  some (0,c)
 else
  ze (QG (x,0)) fun d=>
  some (d.depth,0)
def ME(x:Str):Option (Str×Int×Bool):=
 ze (ZL x) fun d=>
 ze (parseF d.1) fun c=>
 ze (Bo c.1) fun f=>
 ze (eu c.1) fun i=>
 some (f.1,i.1,bif bif bif d.2==0 then c.2==0 else false then f.2==0 else false then i.2==0 else false)
def Q3(x:Unit):Option Bool:=
 ze (ME [97,40,98,91,99,41,100]) fun c=>
 ze (ZL [97,40,98,91,99,41,100]) fun f=>
 ze (parseF f.1) fun d=>
 ze (zu (bif bif bif bif bif c.2.2 then c.1==[97,40,98,91,99,41,100,93,41]else false then c.2.1==2 else false then f.2==0 else false then d.2==0 else false then(d.1.length:Int)==1 else false) (geti d.1 0) (default:zg)) fun i=>
 ze (zu (bif bif bif bif bif bif c.2.2 then c.1==[97,40,98,91,99,41,100,93,41]else false then c.2.1==2 else false then f.2==0 else false then d.2==0 else false then(d.1.length:Int)==1 else false then(i.list.length:Int)==2 else false) (geti d.1 0) (default:zg)) fun j=>
 ze (zu (bif bif bif bif bif bif c.2.2 then c.1==[97,40,98,91,99,41,100,93,41]else false then c.2.1==2 else false then f.2==0 else false then d.2==0 else false then(d.1.length:Int)==1 else false then(i.list.length:Int)==2 else false) (geti j.list 1) (default:zg)) fun m=>
 some (bif bif bif bif bif bif bif c.2.2 then c.1==[97,40,98,91,99,41,100,93,41]else false then c.2.1==2 else false then f.2==0 else false then d.2==0 else false then(d.1.length:Int)==1 else false then(i.list.length:Int)==2 else false then(m.list.length:Int)==3 else false)
def dE(QQ:List zg×List zg->Option Bool)(x:List zg×List zg):Option Bool:=
 bif (x.1.length:Int) != (x.2.length:Int)then
  some false
 else
  ZE (fun(f:Int)=>
    bif decide (f<(x.1.length:Int))then
     ze (geti x.1 f) fun c=>
     ze (geti x.2 f) fun d=>
     ze (zu (!(!(c.token.kind==d.token.kind&&(c.token.text==d.token.text&&(c.token.num==d.token.num&&(c.token.unit==d.token.unit&&(c.token.flag==d.token.flag&&true))))))) (geti x.1 f) (default:zg)) fun i=>
     ze (zu (!(!(c.token.kind==d.token.kind&&(c.token.text==d.token.text&&(c.token.num==d.token.num&&(c.token.unit==d.token.unit&&(c.token.flag==d.token.flag&&true))))))) (geti x.2 f) (default:zg)) fun j=>
     ze (zu (!(!(c.token.kind==d.token.kind&&(c.token.text==d.token.text&&(c.token.num==d.token.num&&(c.token.unit==d.token.unit&&(c.token.flag==d.token.flag&&true))))))) (QQ (i.list,j.list)) (default:Bool)) fun m=>
     bif bif !(c.token.kind==d.token.kind&&(c.token.text==d.token.text&&(c.token.num==d.token.num&&(c.token.unit==d.token.unit&&(c.token.flag==d.token.flag&&true)))))then true else !y6 then
      some (LO.ret false)
     else
      some (LO.again (w64 (f+1)))
    else
     some (LO.out ()):Int->Option (LO (Int) (Unit) _)) 0 fun o7=>
  some true
def QQ:List zg×List zg->Option Bool:=recE (dE)
def Co(x:Str):Option Bool:=
 ZE (fun(c:Int)=>
   bif decide (c<(x.length:Int))then
    ze (geti x c) fun d=>
    bif (d.toNat:Int)==0 then
     some (LO.ret false)
    else
     some (LO.again (w64 (c+1)))
   else
    some (LO.out ()):Int->Option (LO (Int) (Unit) _)) 0 fun o3=>
 some true
def zX(x:Int):Option Bool:=
 some (bif decide (x>=48)then decide (x<=57)else false)
def Rz(x:Str):Option Bool:=
 bif x==[]then
  some false
 else
  ze (geti x 0) fun f=>
  ze (zX (f.toNat:Int)) fun c=>
  ze (zu (!(bif c then true else x==[45])) (geti x 0) 0) fun d=>
  ze (zu ((d.toNat:Int)==45&& !(bif c then true else x==[45])) (geti x 1) 0) fun i=>
  ze (zu ((d.toNat:Int)==45&& !(bif c then true else x==[45])) (zX (i.toNat:Int)) (default:Bool)) fun j=>
  some (bif bif c then true else x==[45]then true else bif (d.toNat:Int)==45 then j else false)
def qG(x:Int):Option Bool:=
 some (bif bif x==10 then true else x==9 then true else x==32)
def zU(x:Str×Int):Option Int:=
 bif decide (x.2<(x.1.length:Int))then
  ze (geti x.1 x.2) fun c=>
  some (c.toNat:Int)
 else
  some 0
def qy(x:Str×Int):Option Int:=
 ZE (fun(c:Int)=>
   ze (zU (x.1,c)) fun d=>
   ze (qG d) fun f=>
   bif f then
    some (LO.again (w64 (c+1)))
   else
    some (LO.out c):Int->Option (LO (Int) (Int) _)) x.2 fun o4=>
 some o4
def Pq(x:Unit):Option Str:=
 some [(239:UInt8),(191:UInt8),(189:UInt8)]
def qF(x:Int):Option Int:=
 bif bif decide (x>=65)then decide (x<=90)else false then
  some (wu8 (wu8 (x - 65)+97))
 else
  some x
def Nq(x:Int):Option Int:=
 ze (zX x) fun d=>
 bif d then
  some (w64 (wu8 (x - 48)))
 else
  ze (qF x) fun c=>
  bif bif decide (c>=97)then decide (c<=102)else false then
   some (w64 (w64 (wu8 (c - 97))+10))
  else
   some (-1)
def cz(x:Int):Option Str:=
 bif bif bif x==0 then true else bif decide (x>=55296)then decide (x<=57343)else false then true else decide (x>1114111)then
  ze (Pq ()) fun f=>
  some f
 else
  bif decide (x<128)then
   ze (Zw (wu8 x)) fun i=>
   some [i]
  else
   bif decide (x<2048)then
    ze (Zw (wu8 (w64 (192+w64 (Int.tdiv x 64))))) fun j=>
    ze (Zw (wu8 (w64 (128+Int.tmod x 64)))) fun m=>
    some [j,m]
   else
    bif decide (x<65536)then
     ze (Zw (wu8 (w64 (224+w64 (Int.tdiv x 4096))))) fun p=>
     ze (Zw (wu8 (w64 (128+Int.tmod (w64 (Int.tdiv x 64)) 64)))) fun r=>
     ze (Zw (wu8 (w64 (128+Int.tmod x 64)))) fun u=>
     some [p,r,u]
    else
     ze (Zw (wu8 (w64 (240+w64 (Int.tdiv x 262144))))) fun v=>
     ze (Zw (wu8 (w64 (128+Int.tmod (w64 (Int.tdiv x 4096)) 64)))) fun y=>
     ze (Zw (wu8 (w64 (128+Int.tmod (w64 (Int.tdiv x 64)) 64)))) fun c=>
     ze (Zw (wu8 (w64 (128+Int.tmod x 64)))) fun d=>
     some [v,y,c,d]
def ZI(x:Str×Int):Option (Str×Int):=
 bif decide (w64 (x.2+1)>=(x.1.length:Int))then
  ze (Pq ()) fun p=>
  some (p,w64 (x.2+1))
 else
  ze (geti x.1 (w64 (x.2+1))) fun r=>
  ze (Nq (r.toNat:Int)) fun u=>
  bif decide (u<0)then
   need (decide (0<=w64 (x.2+1))&&(decide (w64 (x.2+1)<=w64 (w64 (x.2+1)+1))&&decide (w64 (w64 (x.2+1)+1)<=(x.1.length:Int))))<|
   some (List.drop (w64 (x.2+1)).toNat (List.take (w64 (w64 (x.2+1)+1)).toNat x.1),w64 (w64 (x.2+1)+1))
  else
   ZE (fun(c:Int×Int)=>
     ze (zu (bif decide (c.2<(x.1.length:Int))then decide (c.2<w64 (w64 (x.2+1)+6))else false) (geti x.1 c.2) 0) fun v=>
     ze (zu (bif decide (c.2<(x.1.length:Int))then decide (c.2<w64 (w64 (x.2+1)+6))else false) (Nq (v.toNat:Int)) (default:Int)) fun y=>
     bif bif bif decide (c.2<(x.1.length:Int))then decide (c.2<w64 (w64 (x.2+1)+6))else false then decide (y>=0)else false then
      ze (geti x.1 c.2) fun z=>
      ze (Nq (z.toNat:Int)) fun A=>
      some (LO.again (w64 (w64 (16*c.1)+A),w64 (c.2+1)))
     else
      some (LO.out (c.1,c.2)):Int×Int->Option (LO (Int×Int) (Int×Int) _)) (0,w64 (x.2+1)) fun d=>
   zW (X:=Int) (
     ze (zU (x.1,d.2)) fun f=>
     ze (qG f) fun i=>
     bif i then
      some (LX.out (w64 (d.2+1)))
     else
      some (LX.out d.2)) fun j=>
   ze (cz d.1) fun m=>
   some (m,j)
def wz(x:Str×Int):Option (zb×Int):=
 ze (geti x.1 x.2) fun j=>
 ZE (fun(c:Int×zb×zb)=>
   bif decide (c.1<(x.1.length:Int))then
    ze (geti x.1 c.1) fun m=>
    bif (m.toNat:Int)==(j.toNat:Int)then
     some (LO.ret (c.2.2,w64 (c.1+1)))
    else
     ze (geti x.1 c.1) fun p=>
     bif (p.toNat:Int)==10 then
      some (LO.ret ((⟨6,[],0,[],false⟩:zb),c.1))
     else
      ze (geti x.1 c.1) fun r=>
      bif bif (r.toNat:Int)==92 then w64 (c.1+1)==(x.1.length:Int)else false then
       some (LO.again (w64 (c.1+1),c.2.1,c.2.2))
      else
       ze (geti x.1 c.1) fun i=>
       ze (zu ((i.toNat:Int)==92) (geti x.1 (w64 (c.1+1))) 0) fun u=>
       bif bif (i.toNat:Int)==92 then(u.toNat:Int)==10 else false then
        some (LO.again (w64 (c.1+2),c.2.1,c.2.2))
       else
        ze (geti x.1 c.1) fun v=>
        bif (v.toNat:Int)==92 then
         ze (ZI (x.1,c.1)) fun f=>
         need (Ah c.2.2.text.length f.1.length)<|
         some (LO.again (f.2,c.2.1,(⟨c.2.2.kind,c.2.2.text++f.1,c.2.2.num,c.2.2.unit,c.2.2.flag⟩:zb)))
        else
         need (decide (0<=c.1)&&(decide (c.1<=w64 (c.1+1))&&decide (w64 (c.1+1)<=(x.1.length:Int))))<|
         need (Ah c.2.2.text.length (List.drop c.1.toNat (List.take (w64 (c.1+1)).toNat x.1)).length)<|
         some (LO.again (w64 (c.1+1),c.2.1,(⟨c.2.2.kind,c.2.2.text++List.drop c.1.toNat (List.take (w64 (c.1+1)).toNat x.1),c.2.2.num,c.2.2.unit,c.2.2.flag⟩:zb)))
   else
    some (LO.out (c.1,c.2.1,c.2.2)):Int×zb×zb->Option (LO (Int×zb×zb) (Int×zb×zb) _)) (w64 (x.2+1),(⟨0,[],0,[],false⟩:zb),(⟨5,[],0,[],false⟩:zb)) fun d=>
 some (d.2.2,d.1)
def Qv(x:Int):Option Bool:=
 ze (qF x) fun c=>
 some (bif bif bif decide (c>=97)then decide (c<=122)else false then true else x==95 then true else decide (x>=128))
def Q7(x:Int):Option Bool:=
 ze (Qv x) fun c=>
 ze (zu (!y1) (zX x) (default:Bool)) fun d=>
 some (bif bif c then true else d then true else x==45)
def Zv(x:Str×Int):Option Bool:=
 ze (zU (x.1,x.2)) fun c=>
 ze (zu (c==92) (zU (x.1,w64 (x.2+1))) (default:Int)) fun d=>
 some (bif c==92 then d != 10 else false)
def Qa(x:Str×Int):Option (Str×Int):=
 ZE (fun(c:Int×Str)=>
   ze (zu (decide (c.1<(x.1.length:Int))) (geti x.1 c.1) 0) fun f=>
   ze (zu (decide (c.1<(x.1.length:Int))) (Q7 (f.toNat:Int)) (default:Bool)) fun i=>
   bif bif decide (c.1<(x.1.length:Int))then i else false then
    need (decide (0<=c.1)&&(decide (c.1<=w64 (c.1+1))&&decide (w64 (c.1+1)<=(x.1.length:Int))))<|
    need (Ah c.2.length (List.drop c.1.toNat (List.take (w64 (c.1+1)).toNat x.1)).length)<|
    some (LO.again (w64 (c.1+1),c.2++List.drop c.1.toNat (List.take (w64 (c.1+1)).toNat x.1)))
   else
    ze (zu (decide (c.1<(x.1.length:Int))) (Zv (x.1,c.1)) (default:Bool)) fun j=>
    bif bif decide (c.1<(x.1.length:Int))then j else false then
     ze (ZI (x.1,c.1)) fun d=>
     need (Ah c.2.length d.1.length)<|
     some (LO.again (d.2,c.2++d.1))
    else
     some (LO.ret (c.2,c.1)):Int×Str->Option (LO (Int×Str) (Unit) _)) (x.2,[]) fun o6=>
 none
def qU(x:Str×Int):Option Bool:=
 ze (zU (x.1,x.2)) fun f=>
 bif f==45 then
  ze (zU (x.1,w64 (x.2+1))) fun i=>
  ze (Qv i) fun c=>
  ze (zu (!y3) (zU (x.1,w64 (x.2+1))) (default:Int)) fun d=>
  ze (zu (!(bif c then true else d==45)) (Zv (x.1,w64 (x.2+1))) (default:Bool)) fun j=>
  some (bif bif c then true else d==45 then true else j)
 else
  ze (zU (x.1,x.2)) fun m=>
  ze (Qv m) fun p=>
  ze (zu (!y7) (Zv (x.1,x.2)) (default:Bool)) fun r=>
  some (bif p then true else r)
def LA(x:Str×Int):Option Bool:=
 zW (X:=Int) (
   ze (zU (x.1,x.2)) fun d=>
   bif bif d==43 then true else d==45 then
    some (LX.out (w64 (x.2+1)))
   else
    some (LX.out x.2)) fun c=>
 zW (X:=Int) (
   ze (zU (x.1,c)) fun f=>
   bif f==46 then
    some (LX.out (w64 (c+1)))
   else
    some (LX.out c)) fun i=>
 ze (zU (x.1,i)) fun j=>
 ze (zX j) fun m=>
 some m
def Q9(x:Str×Int):Option Int:=
 ZE (fun(c:Int)=>
   ze (zU (x.1,c)) fun d=>
   ze (zX d) fun f=>
   bif f then
    some (LO.again (w64 (c+1)))
   else
    some (LO.out c):Int->Option (LO (Int) (Int) _)) x.2 fun o4=>
 some o4
def Q8(x:Str×Int):Option (Int×Bool):=
 zW (X:=Int) (
   ze (zU (x.1,x.2)) fun v=>
   bif bif v==43 then true else v==45 then
    some (LX.out (w64 (x.2+1)))
   else
    some (LX.out x.2)) fun z=>
 ze (Q9 (x.1,z)) fun j=>
 zW (X:=Int×Bool) (
   ze (zU (x.1,j)) fun m=>
   ze (zu (m==46) (zU (x.1,w64 (j+1))) (default:Int)) fun A=>
   ze (zu (m==46) (zX A) (default:Bool)) fun B=>
   bif bif m==46 then B else false then
    ze (Q9 (x.1,w64 (j+1))) fun J=>
    some (LX.out (J,false))
   else
    some (LX.out (j,true))) fun c=>
 zW (X:=Int×Bool) (
   ze (zU (x.1,c.1)) fun y=>
   bif bif y==101 then true else y==69 then
    zW (X:=Int×Bool×Int) (
      ze (zU (x.1,w64 (c.1+1))) fun f=>
      bif bif f==43 then true else f==45 then
       some (LX.out (c.1,c.2,w64 (w64 (c.1+1)+1)))
      else
       some (LX.out (c.1,c.2,w64 (c.1+1)))) fun d=>
    ze (zU (x.1,d.2.2)) fun p=>
    ze (zX p) fun r=>
    bif r then
     ze (Q9 (x.1,d.2.2)) fun u=>
     some (LX.out (u,false))
    else
     some (LX.out (d.1,d.2.1))
   else
    some (LX.out (c.1,c.2))) fun i=>
 some (i.1,i.2)
def Qn(x:Str):Option Int:=
 ze (geti x 0) fun Y=>
 zW (X:=Str×Int×Int) (
   ze (geti x 0) fun Z=>
   bif bif (Z.toNat:Int)==43 then true else(Y.toNat:Int)==45 then
    some (LX.out ([],3,1))
   else
    some (LX.out ([],3,0))) fun L=>
 ZE (fun(j:Str×Int)=>
   ze (zU (x,j.2)) fun y5=>
   ze (zX y5) fun y6=>
   bif y6 then
    need (decide (0<=j.2)&&(decide (j.2<=w64 (j.2+1))&&decide (w64 (j.2+1)<=(x.length:Int))))<|
    need (Ah j.1.length (List.drop j.2.toNat (List.take (w64 (j.2+1)).toNat x)).length)<|
    some (LO.again (j.1++List.drop j.2.toNat (List.take (w64 (j.2+1)).toNat x),w64 (j.2+1)))
   else
    some (LO.out (j.1,j.2)):Str×Int->Option (LO (Str×Int) (Str×Int) _)) (L.1,L.2.2) fun o7=>
 zW (X:=Str×Int×Int) (
   ze (zU (x,o7.2)) fun y8=>
   bif y8==46 then
    ZE (fun(d:Str×Int×Int)=>
      ze (zU (x,d.2.2)) fun O=>
      ze (zX O) fun U=>
      bif U then
       need (decide (0<=d.2.2)&&(decide (d.2.2<=w64 (d.2.2+1))&&decide (w64 (d.2.2+1)<=(x.length:Int))))<|
       need (Ah d.1.length (List.drop d.2.2.toNat (List.take (w64 (d.2.2+1)).toNat x)).length)<|
       some (LO.again (d.1++List.drop d.2.2.toNat (List.take (w64 (d.2.2+1)).toNat x),w64 (d.2.1 - 1),w64 (d.2.2+1)))
      else
       some (LO.out (d.1,d.2.1,d.2.2)):Str×Int×Int->Option (LO (Str×Int×Int) (Str×Int×Int) _)) (o7.1,L.2.1,w64 (o7.2+1)) fun p=>
    some (LX.out (p.1,p.2.1,p.2.2))
   else
    some (LX.out (o7.1,L.2.1,o7.2))) fun c=>
 zW (X:=Int) (
   bif decide (c.2.2<(x.length:Int))then
    ze (geti x (w64 (c.2.2+1))) fun u=>
    zW (X:=Int×Int) (
      ze (geti x (w64 (c.2.2+1))) fun V=>
      bif bif (V.toNat:Int)==43 then true else(u.toNat:Int)==45 then
       some (LX.out (c.2.1,w64 (w64 (c.2.2+1)+1)))
      else
       some (LX.out (c.2.1,w64 (c.2.2+1)))) fun r=>
    ZE (fun(m:Int×Int)=>
      bif decide (m.1<(x.length:Int))then
       ze (geti x m.1) fun v=>
       some (LO.again (w64 (m.1+1),if w64 (w64 (10*m.2)+w64 (wu8 ((v.toNat:Int) - 48)))<10000 then w64 (w64 (10*m.2)+w64 (wu8 ((v.toNat:Int) - 48)))else 10000))
      else
       some (LO.out m.2):Int×Int->Option (LO (Int×Int) (Int) _)) (r.2,0) fun y=>
    zW (X:=Int×Int) (
      bif (u.toNat:Int)==45 then
       some (LX.out (r.1,w64 (0 - y)))
      else
       some (LX.out (r.1,y))) fun z=>
    some (LX.out (w64 (z.1+z.2)))
   else
    some (LX.out c.2.1)) fun A=>
 ZE (fun(f:Int×Int)=>
   bif bif decide (f.2<w64 ((c.1.length:Int)+A))then decide (f.2<(c.1.length:Int))else false then
    ze (geti c.1 f.2) fun B=>
    some (LO.again (if w64 (w64 (10*f.1)+w64 (wu8 ((B.toNat:Int) - 48)))<1000000000000 then w64 (w64 (10*f.1)+w64 (wu8 ((B.toNat:Int) - 48)))else 1000000000000,w64 (f.2+1)))
   else
    some (LO.out f.1):Int×Int->Option (LO (Int×Int) (Int) _)) (0,0) fun W=>
 ZE (fun(i:Int×Int)=>
   bif bif bif decide (i.1>0)then decide (i.2>0)else false then decide (i.2<1000000000000)else false then
    some (LO.again (w64 (i.1 - 1),if w64 (10*i.2)<1000000000000 then w64 (10*i.2)else 1000000000000))
   else
    some (LO.out i.2):Int×Int->Option (LO (Int×Int) (Int) _)) (A,W) fun J=>
 bif (Y.toNat:Int)==45 then
  some (w64 (0 - J))
 else
  some J
def pz(x:Str×Int):Option (zb×Int):=
 ze (Q8 (x.1,x.2)) fun c=>
 need (decide (0<=x.2)&&(decide (x.2<=c.1)&&decide (c.1<=(x.1.length:Int))))<|
 ze (Qn (List.drop x.2.toNat (List.take c.1.toNat x.1))) fun d=>
 zW (X:=Int×zb×zb) (
   ze (qU (x.1,c.1)) fun j=>
   bif j then
    ze (Qa (x.1,c.1)) fun f=>
    some (LX.out (f.2,(⟨0,[],0,[],false⟩:zb),(⟨12,[],d,f.1,c.2⟩:zb)))
   else
    ze (zU (x.1,c.1)) fun m=>
    bif m==37 then
     some (LX.out (w64 (c.1+1),(⟨0,[],0,[],false⟩:zb),(⟨11,[],d,[],false⟩:zb)))
    else
     some (LX.out (c.1,(⟨0,[],0,[],false⟩:zb),(⟨10,[],d,[],c.2⟩:zb)))) fun i=>
 some (i.2.2,i.1)
def Lu(x:Str×Int×Str):Option Bool:=
 need (decide (0<=x.2.1)&&(decide (x.2.1<=w64 (x.2.1+(x.2.2.length:Int)))&&decide (w64 (x.2.1+(x.2.2.length:Int))<=(x.1.length:Int)))|| !(decide (w64 ((x.1.length:Int) - x.2.1)>=(x.2.2.length:Int))))<|
 some (bif decide (w64 ((x.1.length:Int) - x.2.1)>=(x.2.2.length:Int))then List.drop x.2.1.toNat (List.take (w64 (x.2.1+(x.2.2.length:Int))).toNat x.1)==x.2.2 else false)
def Q6(x:Str):Option Str:=
 need (decide (x.length<=maxLen))<|
 ZE (fun(c:Int×List UInt8)=>
   bif decide (c.1<(c.2.length:Int))then
    need (decide (0<=c.1)&&decide (c.1<(c.2.length:Int)))<|
    ze c.2[c.1.toNat]? fun d=>
    ze (qF (d.toNat:Int)) fun f=>
    need (decide (0<=c.1)&&decide (c.1<(c.2.length:Int)))<|
    ze c.2[c.1.toNat]? fun j=>
    ze (Zw f) fun i=>
    some (LO.again (w64 (c.1+1),List.set c.2 c.1.toNat i))
   else
    some (LO.out c.2):Int×List UInt8->Option (LO (Int×List UInt8) (List UInt8) _)) (0,x) fun o6=>
 some o6
def qE(x:Str×Str):Option Bool:=
 ze (Q6 x.1) fun c=>
 ze (Q6 x.2) fun d=>
 some (c==d)
def Su(x:Str×Int):Option (zb×Int):=
 ZE (fun(c:Int)=>
   ze (zu (decide (c<(x.1.length:Int))) (geti x.1 c) 0) fun d=>
   bif bif decide (c<(x.1.length:Int))then(d.toNat:Int) != 41 else false then
    ze (Zv (x.1,c)) fun f=>
    bif f then
     ze (ZI (x.1,c)) fun i=>
     some (LO.again i.2)
    else
     some (LO.again (w64 (c+1)))
   else
    some (LO.out c):Int->Option (LO (Int) (Int) _)) x.2 fun o5=>
 some ((⟨8,[],0,[],false⟩:zb),if w64 (o5+1)<(x.1.length:Int)then w64 (o5+1)else(x.1.length:Int))
def Qo(x:Int):Option Bool:=
 some (bif bif bif decide (x<=8)then true else x==11 then true else bif decide (x>=14)then decide (x<=31)else false then true else x==127)
def Iz(x:Str×Int):Option (zb×Int):=
 ze (qy (x.1,x.2)) fun u=>
 ZE (fun(c:Int×zb×zb)=>
   ze (zu (decide (c.1<(x.1.length:Int))) (geti x.1 c.1) 0) fun v=>
   bif bif decide (c.1<(x.1.length:Int))then(v.toNat:Int) != 41 else false then
    ze (geti x.1 c.1) fun d=>
    ze (qG (d.toNat:Int)) fun y=>
    bif y then
     ze (qy (x.1,c.1)) fun j=>
     ze (zu (decide (j<(x.1.length:Int))) (geti x.1 j) 0) fun z=>
     bif bif decide (j<(x.1.length:Int))then(z.toNat:Int) != 41 else false then
      ze (Su (x.1,j)) fun p=>
      some (LO.ret (p.1,p.2))
     else
      some (LO.again (j,c.2.1,c.2.2))
    else
     ze (zu (!(bif bif (d.toNat:Int)==34 then true else(d.toNat:Int)==39 then true else(d.toNat:Int)==40)) (Qo (d.toNat:Int)) (default:Bool)) fun r=>
     ze (zu ((d.toNat:Int)==92&& !(bif bif bif (d.toNat:Int)==34 then true else(d.toNat:Int)==39 then true else(d.toNat:Int)==40 then true else r)) (Zv (x.1,c.1)) (default:Bool)) fun A=>
     bif bif bif bif bif (d.toNat:Int)==34 then true else(d.toNat:Int)==39 then true else(d.toNat:Int)==40 then true else r then true else bif (d.toNat:Int)==92 then !y10 else false then
      ze (Su (x.1,c.1)) fun m=>
      some (LO.ret (m.1,m.2))
     else
      bif (d.toNat:Int)==92 then
       ze (ZI (x.1,c.1)) fun f=>
       need (Ah c.2.2.text.length f.1.length)<|
       some (LO.again (f.2,c.2.1,(⟨c.2.2.kind,c.2.2.text++f.1,c.2.2.num,c.2.2.unit,c.2.2.flag⟩:zb)))
      else
       need (decide (0<=c.1)&&(decide (c.1<=w64 (c.1+1))&&decide (w64 (c.1+1)<=(x.1.length:Int))))<|
       need (Ah c.2.2.text.length (List.drop c.1.toNat (List.take (w64 (c.1+1)).toNat x.1)).length)<|
       some (LO.again (w64 (c.1+1),c.2.1,(⟨c.2.2.kind,c.2.2.text++List.drop c.1.toNat (List.take (w64 (c.1+1)).toNat x.1),c.2.2.num,c.2.2.unit,c.2.2.flag⟩:zb)))
   else
    some (LO.out (c.1,c.2.1,c.2.2)):Int×zb×zb->Option (LO (Int×zb×zb) (Int×zb×zb) _)) (u,(⟨0,[],0,[],false⟩:zb),(⟨7,[],0,[],false⟩:zb)) fun i=>
 some (i.2.2,if w64 (i.1+1)<(x.1.length:Int)then w64 (i.1+1)else(x.1.length:Int))
def Sz(x:Str×Int):Option (zb×Int):=
 ze (Qa (x.1,x.2)) fun c=>
 ze (zU (x.1,c.2)) fun i=>
 bif i != 40 then
  some ((⟨1,c.1,0,[],false⟩:zb),c.2)
 else
  zW (X:=zb) (
    ze (qE (c.1,[117,114,108])) fun j=>
    bif j then
     ze (qy (x.1,w64 (c.2+1))) fun m=>
     ze (zU (x.1,m)) fun d=>
     bif bif d != 34 then d != 39 else false then
      ze (Iz (x.1,w64 (c.2+1))) fun f=>
      some (LX.ret (f.1,f.2))
     else
      some (LX.out (⟨0,[],0,[],false⟩:zb))
    else
     some (LX.out (⟨0,[],0,[],false⟩:zb))) fun p=>
  some ((⟨2,c.1,0,[],false⟩:zb),w64 (c.2+1))
def Yu(x:Int):Option Int:=
 bif x==58 then
  some 16
 else
  bif x==59 then
   some 17
  else
   bif x==44 then
    some 18
   else
    bif x==91 then
     some 19
    else
     bif x==93 then
      some 20
     else
      bif x==40 then
       some 21
      else
       bif x==41 then
        some 22
       else
        bif x==123 then
         some 23
        else
         bif x==125 then
          some 24
         else
          some 0
def Jz(x:Str×Int):Option (zb×Int):=
 ze (geti x.1 x.2) fun c=>
 ze (qG (c.toNat:Int)) fun J=>
 bif J then
  ze (qy (x.1,x.2)) fun L=>
  some ((⟨13,[],0,[],false⟩:zb),L)
 else
  bif bif (c.toNat:Int)==34 then true else(c.toNat:Int)==39 then
   ze (wz (x.1,x.2)) fun z=>
   some (z.1,z.2)
  else
   ze (zu (decide (w64 (x.2+1)<(x.1.length:Int))&&(c.toNat:Int)==35) (geti x.1 (w64 (x.2+1))) 0) fun O=>
   ze (zu (decide (w64 (x.2+1)<(x.1.length:Int))&&(c.toNat:Int)==35) (Q7 (O.toNat:Int)) (default:Bool)) fun A=>
   ze (zu (!(bif decide (w64 (x.2+1)<(x.1.length:Int))then A else false)&&(c.toNat:Int)==35) (Zv (x.1,w64 (x.2+1))) (default:Bool)) fun U=>
   bif bif (c.toNat:Int)==35 then bif bif decide (w64 (x.2+1)<(x.1.length:Int))then A else false then true else U else false then
    ze (Qa (x.1,w64 (x.2+1))) fun B=>
    ze (qU (x.1,w64 (x.2+1))) fun V=>
    some ((⟨4,B.1,0,[],V⟩:zb),B.2)
   else
    ze (LA (x.1,x.2)) fun j=>
    bif j then
     ze (pz (x.1,x.2)) fun d=>
     some (d.1,d.2)
    else
     ze (Lu (x.1,x.2,[45,45,62])) fun m=>
     bif m then
      some ((⟨15,[],0,[],false⟩:zb),w64 (x.2+3))
     else
      ze (Lu (x.1,x.2,[60,33,45,45])) fun p=>
      bif p then
       some ((⟨14,[],0,[],false⟩:zb),w64 (x.2+4))
      else
       ze (zu ((c.toNat:Int)==64) (qU (x.1,w64 (x.2+1))) (default:Bool)) fun r=>
       bif bif (c.toNat:Int)==64 then r else false then
        ze (Qa (x.1,w64 (x.2+1))) fun f=>
        some ((⟨3,f.1,0,[],false⟩:zb),f.2)
       else
        ze (qU (x.1,x.2)) fun u=>
        bif u then
         ze (Sz (x.1,x.2)) fun i=>
         some (i.1,i.2)
        else
         ze (Yu (c.toNat:Int)) fun v=>
         bif v != 0 then
          ze (Yu (c.toNat:Int)) fun y=>
          some ((⟨y,[],0,[],false⟩:zb),w64 (x.2+1))
         else
          need (decide (0<=x.2)&&(decide (x.2<=w64 (x.2+1))&&decide (w64 (x.2+1)<=(x.1.length:Int))))<|
          some ((⟨9,List.drop x.2.toNat (List.take (w64 (x.2+1)).toNat x.1),0,[],false⟩:zb),w64 (x.2+1))
def qH(x:Int):Option Bool:=
 ze (Zw x) fun c=>
 ze (Jz ([c,(10:UInt8)],0)) fun d=>
 some (bif bif bif bif decide (x>=1)then decide (x<=127)else false then x != 12 else false then x != 13 else false then d.1.kind==9 else false)
def Pz(x:zb):Option Bool:=
 zW (X:=Bool×zb) (
   bif x.kind==1 then
    some (LX.out (x.kind==1,x))
   else
    bif x.kind==2 then
     some (LX.out (x.kind==2,x))
    else
     some (LX.out (x.kind==3,x))) fun d=>
 bif d.1 then
  ze (zu (!(x.text==[])) (Co x.text) (default:Bool)) fun p=>
  some (bif bif !(x.text==[])then p else false then d.2.kind==x.kind&&(([]:Str)==[]&&(d.2.num==0&&(d.2.unit==[]&&(d.2.flag==false&&true))))else false)
 else
  bif x.kind==4 then
   ze (zu (!(x.text==[])) (Co x.text) (default:Bool)) fun m=>
   ze (zu (!x.flag&&(bif !(x.text==[])then m else false)) (Rz x.text) (default:Bool)) fun r=>
   some (bif bif bif !(x.text==[])then m else false then bif x.flag then true else r else false then d.2.kind==x.kind&&(([]:Str)==[]&&(d.2.num==0&&(d.2.unit==[]&&(false==false&&true))))else false)
  else
   zW (X:=Bool×zb) (
     bif x.kind==5 then
      some (LX.out (x.kind==5,d.2))
     else
      some (LX.out (x.kind==7,d.2))) fun c=>
   bif c.1 then
    ze (Co x.text) fun u=>
    some (bif u then c.2.kind==x.kind&&(([]:Str)==[]&&(c.2.num==0&&(c.2.unit==[]&&(c.2.flag==false&&true))))else false)
   else
    bif x.kind==9 then
     ze (zu ((x.text.length:Int)==1) (geti x.text 0) 0) fun v=>
     ze (zu ((x.text.length:Int)==1) (qH (v.toNat:Int)) (default:Bool)) fun y=>
     some (bif bif (x.text.length:Int)==1 then y else false then c.2.kind==x.kind&&(([]:Str)==[]&&(c.2.num==0&&(c.2.unit==[]&&(c.2.flag==false&&true))))else false)
    else
     zW (X:=Bool×zb) (
       bif x.kind==10 then
        some (LX.out (x.kind==10,c.2))
       else
        bif x.kind==11 then
         some (LX.out (x.kind==11,c.2))
        else
         some (LX.out (x.kind==12,c.2))) fun f=>
     bif f.1 then
      ze (zu ((!(x.unit==[]))==(x.kind==12)) (Co x.unit) (default:Bool)) fun i=>
      some (bif bif bif bif bif decide (x.num>=(-1000000000000))then decide (x.num<=1000000000000)else false then bif !x.flag then true else Int.tmod x.num 1000==0 else false then bif (!(x.unit==[]))==(x.kind==12)then i else false else false then bif x.kind != 11 then true else !x.flag else false then f.2.kind==x.kind&&(f.2.text==[]&&(0==0&&(([]:Str)==[]&&(false==false&&true))))else false)
     else
      zW (X:=Bool) (
        bif x.kind==6 then
         some (LX.out (x.kind==6))
        else
         some (LX.out (x.kind==8))) fun j=>
      bif j then
       some false
      else
       some (bif bif decide (x.kind>=1)then decide (x.kind<=24)else false then x.kind==x.kind&&(x.text==[]&&(x.num==0&&(x.unit==[]&&(x.flag==false&&true))))else false)
def lu(x:List zb):Option Int:=
 bif decide ((x.length:Int)>1500)then
  some 4
 else
  ZE (fun(c:Int)=>
    bif decide (c<(x.length:Int))then
     ze (geti x c) fun p=>
     ze (Pz p) fun B=>
     bif !y3 then
      some (LO.ret 8)
     else
      zW (X:=Unit) (
        ze (geti x c) fun i=>
        ze (zu (i.kind==2) (geti x c) (default:zb)) fun r=>
        ze (zu (i.kind==2) (qE (r.text,[117,114,108])) (default:Bool)) fun u=>
        bif bif i.kind==2 then u else false then
         zW (X:=Int) (
           ze (zu (decide (w64 (c+1)<(x.length:Int))) (geti x (w64 (c+1))) (default:zb)) fun v=>
           bif bif decide (w64 (c+1)<(x.length:Int))then v.kind==13 else false then
            some (LX.out (w64 (w64 (c+1)+1)))
           else
            some (LX.out (w64 (c+1)))) fun j=>
         ze (zu (!(decide (j>=(x.length:Int)))) (geti x j) (default:zb)) fun y=>
         bif bif decide (j>=(x.length:Int))then true else y.kind != 5 then
          some (LX.ret (LO.ret 8))
         else
          some (LX.out ())
        else
         some (LX.out ())) fun z=>
      ze (geti x c) fun d=>
      ze (zu (d.kind==9) (geti x c) (default:zb)) fun f=>
      ze (zu (!(w64 (c+1)==(x.length:Int))&&(bif d.kind==9 then f.text==[92]else false)) (geti x (w64 (c+1))) (default:zb)) fun m=>
      bif bif bif d.kind==9 then f.text==[92]else false then bif w64 (c+1)==(x.length:Int)then true else m.kind != 13 else false then
       some (LO.ret 8)
      else
       some (LO.again (w64 (c+1)))
    else
     some (LO.out ()):Int->Option (LO (Int) (Unit) _)) 0 fun A=>
  some 0
def nz(x:List zb):Option Bool:=
 bif bif bif decide ((x.length:Int)>100)then decide ((x.length:Int)<=1500)else false then true else decide ((x.length:Int)>1510)then
  some true
 else
  ZE (fun(c:Int×Int)=>
    bif decide (c.2<(x.length:Int))then
     ze (geti x c.2) fun d=>
     ze (geti x c.2) fun f=>
     bif decide (w64 (c.1+w64 ((d.text.length:Int)+(f.unit.length:Int)))>1000)then
      some (LO.ret true)
     else
      some (LO.again (w64 (c.1+w64 ((d.text.length:Int)+(f.unit.length:Int))),w64 (c.2+1)))
    else
     some (LO.out ()):Int×Int->Option (LO (Int×Int) (Unit) _)) (0,0) fun o4=>
  some false
def DF(x:Str):Option Bool:=
 bif decide ((x.length:Int)>500)then
  ze (Q3 ()) fun u=>
  some u
 else
  ze (ZL x) fun i=>
  ze (parseF i.1) fun f=>
  ze (zu (!(bif i.2 != 0 then true else f.2 != 0)) (nz i.1) (default:Bool)) fun p=>
  ze (zu (!(bif bif i.2 != 0 then true else f.2 != 0 then true else p)) (qz f.1) (default:List zb)) fun v=>
  ze (zu (!(bif bif i.2 != 0 then true else f.2 != 0 then true else p)) (lu v) (default:Int)) fun y=>
  bif bif bif bif i.2 != 0 then true else f.2 != 0 then true else p then true else y != 0 then
   ze (Q3 ()) fun z=>
   some z
  else
   ze (Bo f.1) fun m=>
   bif m.2 != 0 then
    ze (zu (m.2==28) (Q3 ()) (default:Bool)) fun A=>
    some (bif m.2==28 then A else false)
   else
    ze (ZL m.1) fun c=>
    ze (parseF c.1) fun d=>
    ze (zu (bif c.2==0 then d.2==0 else false) (QQ (f.1,d.1)) (default:Bool)) fun j=>
    ze (zu (bif bif c.2==0 then d.2==0 else false then j else false) (Q3 ()) (default:Bool)) fun r=>
    some (bif bif bif c.2==0 then d.2==0 else false then j else false then r else false)
end Go.Lv.VT
end
