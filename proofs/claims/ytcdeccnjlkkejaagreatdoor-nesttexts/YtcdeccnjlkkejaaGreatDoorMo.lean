/- Laws for the plain texts: loops that look for something; bytes. -/
import Derived.Test.YtcdeccnjlkkejaaGreatDoorLf
import Derived.Test.YtcdeccnjlkkejaaGreatDoorTx
set_option linter.unusedSimpArgs false
set_option linter.unusedVariables false
namespace Go.Lv.VT
abbrev big:Nat:=4194304
theorem ek{i n:Nat}(h:i<n):decide ((i:Int)<(n:Int))=true:=Ja (by omega)
theorem Kl(n:Nat):decide ((n:Int)<(n:Int))=false:=Db (by omega)
theorem Qd{i n:Nat}(h:i<n)(hn:n<=big):w64 ((i:Int)+1)=((i+1:Nat):Int):=by rw[w64,Jm (by omega) (by unfold big at hn;omega)];omega
theorem Rm{α:Type}(b:Bool)(v d:α):zu b (some v) d=some (bif b then v else d):=by cases b<;>rfl
theorem rR {α X R:Type} {step:Int->Option (LO Int X R)} {k:X->Option R} (l:List α) (q:α->Option R) (x:X)
  (y: ∀(i:Nat) (h:i<l.length),step (i:Int)=some (match q l[i]with|some r=> .ret r|none=> .again ((i+1:Nat):Int)))
  (hf:step (l.length:Int)=some (.out x)):ZE step 0 k=match l.findSome? q with|some r=>some r|none=>k x:=by
 have u: ∀(m:List α) (i:Nat),l.drop i=m->i<=l.length-> ∃n,Qs step n (i:Int)=some (match m.findSome? q with|some r=> .ret r|none=> .out x):=by
  intro m
  induction m with
  |nil=>
   intro i d hi;have:i=l.length:=by have:=Ff.1 d;omega
   subst c;exact⟨1,by simp only[Qs,hf,List.findSome?_nil]⟩
  |cons v m z=>
   intro i d hi;have f:i<l.length:=by
    rcases Yc i l.length with h|h
    ·exact h
    ·rw[Re h]at d;cases d
   have hv:l[i]=v:=by have:=Yb f;rw[d]at c;injection c with h1 _;exact h1.symm
   have j:=y i f;rw[hv]at j;cases p:q v with
   |some r=> rw[p]at j;exact⟨1,by simp only[Qs,j,List.findSome?_cons,p]⟩
   |none=> rw[p]at j;obtain⟨n,hn⟩:=z (i+1) (by rw[Yb f]at d;injection d) (by omega);refine⟨n+1,?_⟩;simp only[Qs,j,List.findSome?_cons,p];exact hn
 obtain⟨n,hn⟩:=u l 0 rfl (by omega);replace hn:Qs step n 0=_:=hn;rw[Yp (dn hn)];cases l.findSome? q<;>rfl
theorem II{α R:Type}(p:α->Bool)(r:R): ∀(l:List α),l.findSome? (fun v=>bif p v then none else some r)=bif l.all p then none else some r
 |[]=>rfl
 |v::l=>by
  rw[List.findSome?_cons,Pd];cases p v with
  |false=>rfl
  |true=>exact II p r l
def idxS{α:Type}(p:α->Bool):List α->Int
 |[]=> -1
 |v::l=>bif p v then 0 else bif decide (idxS p l<0)then -1 else idxS p l+1
set_option maxRecDepth 100000
def ZX(n:Nat)(x:Int):Option Bool:=
 some (bif decide (x>=48)then decide (x<=57)else false)
theorem qw(n:Nat)(x:Int):Le (ZX n x) (zX x):=by unfold ZX zX;exact .rfl
def tu(n:Nat)(x:Int):Option Bool:=
 some (bif bif x==10 then true else x==9 then true else x==32)
theorem MF(n:Nat)(x:Int):Le (tu n x) (qG x):=by unfold tu qG;exact .rfl
def zV(n:Nat)(x:Str×Int):Option Int:=
 bif decide (x.2<(x.1.length:Int))then
  ze (geti x.1 x.2) fun c=>
  some (c.toNat:Int)
 else
  some 0
theorem zN(n:Nat)(x:Str×Int):Le (zV n x) (zU x):=by unfold zV zU;exact(.bif (.bind .rfl fun _=> .rfl) .rfl)
def QP(n:Nat)(x:Str×Int):Option Int:=
 Ti n (fun(c:Int)=>
   ze (zV n (x.1,c)) fun d=>
   ze (tu n d) fun f=>
   bif f then
    some (LO.again (w64 (c+1)))
   else
    some (LO.out c):Int->Option (LO (Int) (Int) _)) x.2 fun o4=>
 some o4
theorem BF(n:Nat)(x:Str×Int):Le (QP n x) (qy x):=by unfold QP qy;exact(.loop (fun _=>(.bind (zN n _) fun _=>(.bind (MF n _) fun _=>(.bif .rfl .rfl)))) fun _=> .rfl)
def iE(n:Nat)(x:Unit):Option Str:=
 some [(239:UInt8),(191:UInt8),(189:UInt8)]
theorem TU(n:Nat)(x:Unit):Le (iE n x) (Pq x):=by unfold iE Pq;exact .rfl
def rz(n:Nat)(x:Int):Option Int:=
 bif bif decide (x>=65)then decide (x<=90)else false then
  some (wu8 (wu8 (x - 65)+97))
 else
  some x
theorem nK(n:Nat)(x:Int):Le (rz n x) (qF x):=by unfold rz qF;exact(.bif .rfl .rfl)
def oz(n:Nat)(x:Int):Option Int:=
 ze (ZX n x) fun d=>
 bif d then
  some (w64 (wu8 (x - 48)))
 else
  ze (rz n x) fun c=>
  bif bif decide (c>=97)then decide (c<=102)else false then
   some (w64 (w64 (wu8 (c - 97))+10))
  else
   some (-1)
theorem GK(n:Nat)(x:Int):Le (oz n x) (Nq x):=by unfold oz Nq;exact(.bind (qw n _) fun _=>(.bif .rfl (.bind (nK n _) fun _=>(.bif .rfl .rfl))))
def NK(n:Nat)(x:Int):Option Str:=
 bif bif bif x==0 then true else bif decide (x>=55296)then decide (x<=57343)else false then true else decide (x>1114111)then
  ze (iE n ()) fun f=>
  some f
 else
  bif decide (x<128)then
   ze (Zw (wu8 x)) fun i=>
   some [i]
  else
   bif decide (x<2048)then
    ze (Zw (wu8 (w64 (192+w64 (Int.tdiv x 64))))) fun j=>
    ze (Zw (wu8 (w64 (128+Int.tmod x 64)))) fun m=>
    some [j,m]
   else
    bif decide (x<65536)then
     ze (Zw (wu8 (w64 (224+w64 (Int.tdiv x 4096))))) fun p=>
     ze (Zw (wu8 (w64 (128+Int.tmod (w64 (Int.tdiv x 64)) 64)))) fun r=>
     ze (Zw (wu8 (w64 (128+Int.tmod x 64)))) fun u=>
     some [p,r,u]
    else
     ze (Zw (wu8 (w64 (240+w64 (Int.tdiv x 262144))))) fun v=>
     ze (Zw (wu8 (w64 (128+Int.tmod (w64 (Int.tdiv x 4096)) 64)))) fun y=>
     ze (Zw (wu8 (w64 (128+Int.tmod (w64 (Int.tdiv x 64)) 64)))) fun c=>
     ze (Zw (wu8 (w64 (128+Int.tmod x 64)))) fun d=>
     some [v,y,c,d]
theorem zoS(n:Nat)(x:Int):Le (NK n x) (cz x):=by unfold NK cz;exact(.bif (.bind (TU n _) fun _=> .rfl) (.bif (.bind .rfl fun _=> .rfl) (.bif (.bind .rfl fun _=>(.bind .rfl fun _=> .rfl)) (.bif (.bind .rfl fun _=>(.bind .rfl fun _=>(.bind .rfl fun _=> .rfl))) (.bind .rfl fun _=>(.bind .rfl fun _=>(.bind .rfl fun _=>(.bind .rfl fun _=> .rfl))))))))
def Qm(n:Nat)(x:Str×Int):Option (Str×Int):=
 bif decide (w64 (x.2+1)>=(x.1.length:Int))then
  ze (iE n ()) fun p=>
  some (p,w64 (x.2+1))
 else
  ze (geti x.1 (w64 (x.2+1))) fun r=>
  ze (oz n (r.toNat:Int)) fun u=>
  bif decide (u<0)then
   need (decide (0<=w64 (x.2+1))&&(decide (w64 (x.2+1)<=w64 (w64 (x.2+1)+1))&&decide (w64 (w64 (x.2+1)+1)<=(x.1.length:Int))))<|
   some (List.drop (w64 (x.2+1)).toNat (List.take (w64 (w64 (x.2+1)+1)).toNat x.1),w64 (w64 (x.2+1)+1))
  else
   Ti n (fun(c:Int×Int)=>
     ze (zu (bif decide (c.2<(x.1.length:Int))then decide (c.2<w64 (w64 (x.2+1)+6))else false) (geti x.1 c.2) 0) fun v=>
     ze (zu (bif decide (c.2<(x.1.length:Int))then decide (c.2<w64 (w64 (x.2+1)+6))else false) (oz n (v.toNat:Int)) (default:Int)) fun y=>
     bif bif bif decide (c.2<(x.1.length:Int))then decide (c.2<w64 (w64 (x.2+1)+6))else false then decide (y>=0)else false then
      ze (geti x.1 c.2) fun z=>
      ze (oz n (z.toNat:Int)) fun A=>
      some (LO.again (w64 (w64 (16*c.1)+A),w64 (c.2+1)))
     else
      some (LO.out (c.1,c.2)):Int×Int->Option (LO (Int×Int) (Int×Int) _)) (0,w64 (x.2+1)) fun d=>
   zW (X:=Int) (
     ze (zV n (x.1,d.2)) fun f=>
     ze (tu n f) fun i=>
     bif i then
      some (LX.out (w64 (d.2+1)))
     else
      some (LX.out d.2)) fun j=>
   ze (NK n d.1) fun m=>
   some (m,j)
theorem UF(n:Nat)(x:Str×Int):Le (Qm n x) (ZI x):=by unfold Qm ZI;exact(.bif (.bind (TU n _) fun _=> .rfl) (.bind .rfl fun _=>(.bind (GK n _) fun _=>(.bif (.need .rfl) (.loop (fun _=>(.bind .rfl fun _=>(.bind (.cond (GK n _)) fun _=>(.bif (.bind .rfl fun _=>(.bind (GK n _) fun _=> .rfl)) .rfl)))) fun _=>(.join (.bind (zN n _) fun _=>(.bind (MF n _) fun _=>(.bif .rfl .rfl))) fun _=>(.bind (zoS n _) fun _=> .rfl)))))))
def kK(n:Nat)(x:Str×Int):Option (zb×Int):=
 ze (geti x.1 x.2) fun j=>
 Ti n (fun(c:Int×zb×zb)=>
   bif decide (c.1<(x.1.length:Int))then
    ze (geti x.1 c.1) fun m=>
    bif (m.toNat:Int)==(j.toNat:Int)then
     some (LO.ret (c.2.2,w64 (c.1+1)))
    else
     ze (geti x.1 c.1) fun p=>
     bif (p.toNat:Int)==10 then
      some (LO.ret ((⟨6,[],0,[],false⟩:zb),c.1))
     else
      ze (geti x.1 c.1) fun r=>
      bif bif (r.toNat:Int)==92 then w64 (c.1+1)==(x.1.length:Int)else false then
       some (LO.again (w64 (c.1+1),c.2.1,c.2.2))
      else
       ze (geti x.1 c.1) fun i=>
       ze (zu ((i.toNat:Int)==92) (geti x.1 (w64 (c.1+1))) 0) fun u=>
       bif bif (i.toNat:Int)==92 then(u.toNat:Int)==10 else false then
        some (LO.again (w64 (c.1+2),c.2.1,c.2.2))
       else
        ze (geti x.1 c.1) fun v=>
        bif (v.toNat:Int)==92 then
         ze (Qm n (x.1,c.1)) fun f=>
         need (Ah c.2.2.text.length f.1.length)<|
         some (LO.again (f.2,c.2.1,(⟨c.2.2.kind,c.2.2.text++f.1,c.2.2.num,c.2.2.unit,c.2.2.flag⟩:zb)))
        else
         need (decide (0<=c.1)&&(decide (c.1<=w64 (c.1+1))&&decide (w64 (c.1+1)<=(x.1.length:Int))))<|
         need (Ah c.2.2.text.length (List.drop c.1.toNat (List.take (w64 (c.1+1)).toNat x.1)).length)<|
         some (LO.again (w64 (c.1+1),c.2.1,(⟨c.2.2.kind,c.2.2.text++List.drop c.1.toNat (List.take (w64 (c.1+1)).toNat x.1),c.2.2.num,c.2.2.unit,c.2.2.flag⟩:zb)))
   else
    some (LO.out (c.1,c.2.1,c.2.2)):Int×zb×zb->Option (LO (Int×zb×zb) (Int×zb×zb) _)) (w64 (x.2+1),(⟨0,[],0,[],false⟩:zb),(⟨5,[],0,[],false⟩:zb)) fun d=>
 some (d.2.2,d.1)
theorem zlv(n:Nat)(x:Str×Int):Le (kK n x) (wz x):=by unfold kK wz;exact(.bind .rfl fun _=>(.loop (fun _=>(.bif (.bind .rfl fun _=>(.bif .rfl (.bind .rfl fun _=>(.bif .rfl (.bind .rfl fun _=>(.bif .rfl (.bind .rfl fun _=>(.bind .rfl fun _=>(.bif .rfl (.bind .rfl fun _=>(.bif (.bind (UF n _) fun _=>(.need .rfl)) (.need (.need .rfl))))))))))))) .rfl)) fun _=> .rfl))
def KA(n:Nat)(x:Int):Option Bool:=
 ze (rz n x) fun c=>
 some (bif bif bif decide (c>=97)then decide (c<=122)else false then true else x==95 then true else decide (x>=128))
theorem sK(n:Nat)(x:Int):Le (KA n x) (Qv x):=by unfold KA Qv;exact(.bind (nK n _) fun _=> .rfl)
def KF(n:Nat)(x:Int):Option Bool:=
 ze (KA n x) fun c=>
 ze (zu (!y1) (ZX n x) (default:Bool)) fun d=>
 some (bif bif c then true else d then true else x==45)
theorem JV(n:Nat)(x:Int):Le (KF n x) (Q7 x):=by unfold KF Q7;exact(.bind (sK n _) fun _=>(.bind (.cond (qw n _)) fun _=> .rfl))
def qx(n:Nat)(x:Str×Int):Option Bool:=
 ze (zV n (x.1,x.2)) fun c=>
 ze (zu (c==92) (zV n (x.1,w64 (x.2+1))) (default:Int)) fun d=>
 some (bif c==92 then d != 10 else false)
theorem Qi(n:Nat)(x:Str×Int):Le (qx n x) (Zv x):=by unfold qx Zv;exact(.bind (zN n _) fun _=>(.bind (.cond (zN n _)) fun _=> .rfl))
def uu(n:Nat)(x:Str×Int):Option (Str×Int):=
 Ti n (fun(c:Int×Str)=>
   ze (zu (decide (c.1<(x.1.length:Int))) (geti x.1 c.1) 0) fun f=>
   ze (zu (decide (c.1<(x.1.length:Int))) (KF n (f.toNat:Int)) (default:Bool)) fun i=>
   bif bif decide (c.1<(x.1.length:Int))then i else false then
    need (decide (0<=c.1)&&(decide (c.1<=w64 (c.1+1))&&decide (w64 (c.1+1)<=(x.1.length:Int))))<|
    need (Ah c.2.length (List.drop c.1.toNat (List.take (w64 (c.1+1)).toNat x.1)).length)<|
    some (LO.again (w64 (c.1+1),c.2++List.drop c.1.toNat (List.take (w64 (c.1+1)).toNat x.1)))
   else
    ze (zu (decide (c.1<(x.1.length:Int))) (qx n (x.1,c.1)) (default:Bool)) fun j=>
    bif bif decide (c.1<(x.1.length:Int))then j else false then
     ze (Qm n (x.1,c.1)) fun d=>
     need (Ah c.2.length d.1.length)<|
     some (LO.again (d.2,c.2++d.1))
    else
     some (LO.ret (c.2,c.1)):Int×Str->Option (LO (Int×Str) (Unit) _)) (x.2,[]) fun o6=>
 none
theorem NF(n:Nat)(x:Str×Int):Le (uu n x) (Qa x):=by unfold uu Qa;exact(.loop (fun _=>(.bind .rfl fun _=>(.bind (.cond (JV n _)) fun _=>(.bif (.need (.need .rfl)) (.bind (.cond (Qi n _)) fun _=>(.bif (.bind (UF n _) fun _=>(.need .rfl)) .rfl)))))) fun _=> .none)
def QO(n:Nat)(x:Str×Int):Option Bool:=
 ze (zV n (x.1,x.2)) fun f=>
 bif f==45 then
  ze (zV n (x.1,w64 (x.2+1))) fun i=>
  ze (KA n i) fun c=>
  ze (zu (!y3) (zV n (x.1,w64 (x.2+1))) (default:Int)) fun d=>
  ze (zu (!(bif c then true else d==45)) (qx n (x.1,w64 (x.2+1))) (default:Bool)) fun j=>
  some (bif bif c then true else d==45 then true else j)
 else
  ze (zV n (x.1,x.2)) fun m=>
  ze (KA n m) fun p=>
  ze (zu (!y7) (qx n (x.1,x.2)) (default:Bool)) fun r=>
  some (bif p then true else r)
theorem CF(n:Nat)(x:Str×Int):Le (QO n x) (qU x):=by unfold QO qU;exact(.bind (zN n _) fun _=>(.bif (.bind (zN n _) fun _=>(.bind (sK n _) fun _=>(.bind (.cond (zN n _)) fun _=>(.bind (.cond (Qi n _)) fun _=> .rfl)))) (.bind (zN n _) fun _=>(.bind (sK n _) fun _=>(.bind (.cond (Qi n _)) fun _=> .rfl)))))
def pK(n:Nat)(x:Str×Int):Option Bool:=
 zW (X:=Int) (
   ze (zV n (x.1,x.2)) fun d=>
   bif bif d==43 then true else d==45 then
    some (LX.out (w64 (x.2+1)))
   else
    some (LX.out x.2)) fun c=>
 zW (X:=Int) (
   ze (zV n (x.1,c)) fun f=>
   bif f==46 then
    some (LX.out (w64 (c+1)))
   else
    some (LX.out c)) fun i=>
 ze (zV n (x.1,i)) fun j=>
 ze (ZX n j) fun m=>
 some m
theorem ziM(n:Nat)(x:Str×Int):Le (pK n x) (LA x):=by unfold pK LA;exact(.join (.bind (zN n _) fun _=>(.bif .rfl .rfl)) fun _=>(.join (.bind (zN n _) fun _=>(.bif .rfl .rfl)) fun _=>(.bind (zN n _) fun _=>(.bind (qw n _) fun _=> .rfl))))
def JA(n:Nat)(x:Str×Int):Option Int:=
 Ti n (fun(c:Int)=>
   ze (zV n (x.1,c)) fun d=>
   ze (ZX n d) fun f=>
   bif f then
    some (LO.again (w64 (c+1)))
   else
    some (LO.out c):Int->Option (LO (Int) (Int) _)) x.2 fun o4=>
 some o4
theorem wK(n:Nat)(x:Str×Int):Le (JA n x) (Q9 x):=by unfold JA Q9;exact(.loop (fun _=>(.bind (zN n _) fun _=>(.bind (qw n _) fun _=>(.bif .rfl .rfl)))) fun _=> .rfl)
def xK(n:Nat)(x:Str×Int):Option (Int×Bool):=
 zW (X:=Int) (
   ze (zV n (x.1,x.2)) fun v=>
   bif bif v==43 then true else v==45 then
    some (LX.out (w64 (x.2+1)))
   else
    some (LX.out x.2)) fun z=>
 ze (JA n (x.1,z)) fun j=>
 zW (X:=Int×Bool) (
   ze (zV n (x.1,j)) fun m=>
   ze (zu (m==46) (zV n (x.1,w64 (j+1))) (default:Int)) fun A=>
   ze (zu (m==46) (ZX n A) (default:Bool)) fun B=>
   bif bif m==46 then B else false then
    ze (JA n (x.1,w64 (j+1))) fun J=>
    some (LX.out (J,false))
   else
    some (LX.out (j,true))) fun c=>
 zW (X:=Int×Bool) (
   ze (zV n (x.1,c.1)) fun y=>
   bif bif y==101 then true else y==69 then
    zW (X:=Int×Bool×Int) (
      ze (zV n (x.1,w64 (c.1+1))) fun f=>
      bif bif f==43 then true else f==45 then
       some (LX.out (c.1,c.2,w64 (w64 (c.1+1)+1)))
      else
       some (LX.out (c.1,c.2,w64 (c.1+1)))) fun d=>
    ze (zV n (x.1,d.2.2)) fun p=>
    ze (ZX n p) fun r=>
    bif r then
     ze (JA n (x.1,d.2.2)) fun u=>
     some (LX.out (u,false))
    else
     some (LX.out (d.1,d.2.1))
   else
    some (LX.out (c.1,c.2))) fun i=>
 some (i.1,i.2)
theorem zhS(n:Nat)(x:Str×Int):Le (xK n x) (Q8 x):=by unfold xK Q8;exact(.join (.bind (zN n _) fun _=>(.bif .rfl .rfl)) fun _=>(.bind (wK n _) fun _=>(.join (.bind (zN n _) fun _=>(.bind (.cond (zN n _)) fun _=>(.bind (.cond (qw n _)) fun _=>(.bif (.bind (wK n _) fun _=> .rfl) .rfl)))) fun _=>(.join (.bind (zN n _) fun _=>(.bif (.join (.bind (zN n _) fun _=>(.bif .rfl .rfl)) fun _=>(.bind (zN n _) fun _=>(.bind (qw n _) fun _=>(.bif (.bind (wK n _) fun _=> .rfl) .rfl)))) .rfl)) fun _=> .rfl))))
def CL(n:Nat)(x:Str):Option Int:=
 ze (geti x 0) fun Y=>
 zW (X:=Str×Int×Int) (
   ze (geti x 0) fun Z=>
   bif bif (Z.toNat:Int)==43 then true else(Y.toNat:Int)==45 then
    some (LX.out ([],3,1))
   else
    some (LX.out ([],3,0))) fun L=>
 Ti n (fun(j:Str×Int)=>
   ze (zV n (x,j.2)) fun y5=>
   ze (ZX n y5) fun y6=>
   bif y6 then
    need (decide (0<=j.2)&&(decide (j.2<=w64 (j.2+1))&&decide (w64 (j.2+1)<=(x.length:Int))))<|
    need (Ah j.1.length (List.drop j.2.toNat (List.take (w64 (j.2+1)).toNat x)).length)<|
    some (LO.again (j.1++List.drop j.2.toNat (List.take (w64 (j.2+1)).toNat x),w64 (j.2+1)))
   else
    some (LO.out (j.1,j.2)):Str×Int->Option (LO (Str×Int) (Str×Int) _)) (L.1,L.2.2) fun o7=>
 zW (X:=Str×Int×Int) (
   ze (zV n (x,o7.2)) fun y8=>
   bif y8==46 then
    Ti n (fun(d:Str×Int×Int)=>
      ze (zV n (x,d.2.2)) fun O=>
      ze (ZX n O) fun U=>
      bif U then
       need (decide (0<=d.2.2)&&(decide (d.2.2<=w64 (d.2.2+1))&&decide (w64 (d.2.2+1)<=(x.length:Int))))<|
       need (Ah d.1.length (List.drop d.2.2.toNat (List.take (w64 (d.2.2+1)).toNat x)).length)<|
       some (LO.again (d.1++List.drop d.2.2.toNat (List.take (w64 (d.2.2+1)).toNat x),w64 (d.2.1 - 1),w64 (d.2.2+1)))
      else
       some (LO.out (d.1,d.2.1,d.2.2)):Str×Int×Int->Option (LO (Str×Int×Int) (Str×Int×Int) _)) (o7.1,L.2.1,w64 (o7.2+1)) fun p=>
    some (LX.out (p.1,p.2.1,p.2.2))
   else
    some (LX.out (o7.1,L.2.1,o7.2))) fun c=>
 zW (X:=Int) (
   bif decide (c.2.2<(x.length:Int))then
    ze (geti x (w64 (c.2.2+1))) fun u=>
    zW (X:=Int×Int) (
      ze (geti x (w64 (c.2.2+1))) fun V=>
      bif bif (V.toNat:Int)==43 then true else(u.toNat:Int)==45 then
       some (LX.out (c.2.1,w64 (w64 (c.2.2+1)+1)))
      else
       some (LX.out (c.2.1,w64 (c.2.2+1)))) fun r=>
    Ti n (fun(m:Int×Int)=>
      bif decide (m.1<(x.length:Int))then
       ze (geti x m.1) fun v=>
       some (LO.again (w64 (m.1+1),if w64 (w64 (10*m.2)+w64 (wu8 ((v.toNat:Int) - 48)))<10000 then w64 (w64 (10*m.2)+w64 (wu8 ((v.toNat:Int) - 48)))else 10000))
      else
       some (LO.out m.2):Int×Int->Option (LO (Int×Int) (Int) _)) (r.2,0) fun y=>
    zW (X:=Int×Int) (
      bif (u.toNat:Int)==45 then
       some (LX.out (r.1,w64 (0 - y)))
      else
       some (LX.out (r.1,y))) fun z=>
    some (LX.out (w64 (z.1+z.2)))
   else
    some (LX.out c.2.1)) fun A=>
 Ti n (fun(f:Int×Int)=>
   bif bif decide (f.2<w64 ((c.1.length:Int)+A))then decide (f.2<(c.1.length:Int))else false then
    ze (geti c.1 f.2) fun B=>
    some (LO.again (if w64 (w64 (10*f.1)+w64 (wu8 ((B.toNat:Int) - 48)))<1000000000000 then w64 (w64 (10*f.1)+w64 (wu8 ((B.toNat:Int) - 48)))else 1000000000000,w64 (f.2+1)))
   else
    some (LO.out f.1):Int×Int->Option (LO (Int×Int) (Int) _)) (0,0) fun W=>
 Ti n (fun(i:Int×Int)=>
   bif bif bif decide (i.1>0)then decide (i.2>0)else false then decide (i.2<1000000000000)else false then
    some (LO.again (w64 (i.1 - 1),if w64 (10*i.2)<1000000000000 then w64 (10*i.2)else 1000000000000))
   else
    some (LO.out i.2):Int×Int->Option (LO (Int×Int) (Int) _)) (A,W) fun J=>
 bif (Y.toNat:Int)==45 then
  some (w64 (0 - J))
 else
  some J
theorem zgk(n:Nat)(x:Str):Le (CL n x) (Qn x):=by unfold CL Qn;exact(.bind .rfl fun _=>(.join (.bind .rfl fun _=>(.bif .rfl .rfl)) fun _=>(.loop (fun _=>(.bind (zN n _) fun _=>(.bind (qw n _) fun _=>(.bif (.need (.need .rfl)) .rfl)))) fun _=>(.join (.bind (zN n _) fun _=>(.bif (.loop (fun _=>(.bind (zN n _) fun _=>(.bind (qw n _) fun _=>(.bif (.need (.need .rfl)) .rfl)))) fun _=> .rfl) .rfl)) fun _=>(.join (.bif (.bind .rfl fun _=>(.join (.bind .rfl fun _=>(.bif .rfl .rfl)) fun _=>(.loop (fun _=>(.bif (.bind .rfl fun _=> .rfl) .rfl)) fun _=>(.join (.bif .rfl .rfl) fun _=> .rfl)))) .rfl) fun _=>(.loop (fun _=>(.bif (.bind .rfl fun _=> .rfl) .rfl)) fun _=>(.loop (fun _=>(.bif .rfl .rfl)) fun _=>(.bif .rfl .rfl))))))))
def uK(n:Nat)(x:Str×Int):Option (zb×Int):=
 ze (xK n (x.1,x.2)) fun c=>
 need (decide (0<=x.2)&&(decide (x.2<=c.1)&&decide (c.1<=(x.1.length:Int))))<|
 ze (CL n (List.drop x.2.toNat (List.take c.1.toNat x.1))) fun d=>
 zW (X:=Int×zb×zb) (
   ze (QO n (x.1,c.1)) fun j=>
   bif j then
    ze (uu n (x.1,c.1)) fun f=>
    some (LX.out (f.2,(⟨0,[],0,[],false⟩:zb),(⟨12,[],d,f.1,c.2⟩:zb)))
   else
    ze (zV n (x.1,c.1)) fun m=>
    bif m==37 then
     some (LX.out (w64 (c.1+1),(⟨0,[],0,[],false⟩:zb),(⟨11,[],d,[],false⟩:zb)))
    else
     some (LX.out (c.1,(⟨0,[],0,[],false⟩:zb),(⟨10,[],d,[],c.2⟩:zb)))) fun i=>
 some (i.2.2,i.1)
theorem zjW(n:Nat)(x:Str×Int):Le (uK n x) (pz x):=by unfold uK pz;exact(.bind (zhS n _) fun _=>(.need (.bind (zgk n _) fun _=>(.join (.bind (CF n _) fun _=>(.bif (.bind (NF n _) fun _=> .rfl) (.bind (zN n _) fun _=>(.bif .rfl .rfl)))) fun _=> .rfl))))
def WE(n:Nat)(x:Str×Int×Str):Option Bool:=
 need (decide (0<=x.2.1)&&(decide (x.2.1<=w64 (x.2.1+(x.2.2.length:Int)))&&decide (w64 (x.2.1+(x.2.2.length:Int))<=(x.1.length:Int)))|| !(decide (w64 ((x.1.length:Int) - x.2.1)>=(x.2.2.length:Int))))<|
 some (bif decide (w64 ((x.1.length:Int) - x.2.1)>=(x.2.2.length:Int))then List.drop x.2.1.toNat (List.take (w64 (x.2.1+(x.2.2.length:Int))).toNat x.1)==x.2.2 else false)
theorem vT(n:Nat)(x:Str×Int×Str):Le (WE n x) (Lu x):=by unfold WE Lu;exact(.need .rfl)
def pE(n:Nat)(x:Str):Option Str:=
 need (decide (x.length<=maxLen))<|
 Ti n (fun(c:Int×List UInt8)=>
   bif decide (c.1<(c.2.length:Int))then
    need (decide (0<=c.1)&&decide (c.1<(c.2.length:Int)))<|
    ze c.2[c.1.toNat]? fun d=>
    ze (rz n (d.toNat:Int)) fun f=>
    need (decide (0<=c.1)&&decide (c.1<(c.2.length:Int)))<|
    ze c.2[c.1.toNat]? fun j=>
    ze (Zw f) fun i=>
    some (LO.again (w64 (c.1+1),List.set c.2 c.1.toNat i))
   else
    some (LO.out c.2):Int×List UInt8->Option (LO (Int×List UInt8) (List UInt8) _)) (0,x) fun o6=>
 some o6
theorem vU(n:Nat)(x:Str):Le (pE n x) (Q6 x):=by unfold pE Q6;exact(.need (.loop (fun _=>(.bif (.need (.bind .rfl fun _=>(.bind (nK n _) fun _=>(.need (.bind .rfl fun _=>(.bind .rfl fun _=> .rfl)))))) .rfl)) fun _=> .rfl))
def XK(n:Nat)(x:Str×Str):Option Bool:=
 ze (pE n x.1) fun c=>
 ze (pE n x.2) fun d=>
 some (c==d)
theorem zmS(n:Nat)(x:Str×Str):Le (XK n x) (qE x):=by unfold XK qE;exact(.bind (vU n _) fun _=>(.bind (vU n _) fun _=> .rfl))
def XE(n:Nat)(x:Str×Int):Option (zb×Int):=
 Ti n (fun(c:Int)=>
   ze (zu (decide (c<(x.1.length:Int))) (geti x.1 c) 0) fun d=>
   bif bif decide (c<(x.1.length:Int))then(d.toNat:Int) != 41 else false then
    ze (qx n (x.1,c)) fun f=>
    bif f then
     ze (Qm n (x.1,c)) fun i=>
     some (LO.again i.2)
    else
     some (LO.again (w64 (c+1)))
   else
    some (LO.out c):Int->Option (LO (Int) (Int) _)) x.2 fun o5=>
 some ((⟨8,[],0,[],false⟩:zb),if w64 (o5+1)<(x.1.length:Int)then w64 (o5+1)else(x.1.length:Int))
theorem wT(n:Nat)(x:Str×Int):Le (XE n x) (Su x):=by unfold XE Su;exact(.loop (fun _=>(.bind .rfl fun _=>(.bif (.bind (Qi n _) fun _=>(.bif (.bind (UF n _) fun _=> .rfl) .rfl)) .rfl))) fun _=> .rfl)
def BL(n:Nat)(x:Int):Option Bool:=
 some (bif bif bif decide (x<=8)then true else x==11 then true else bif decide (x>=14)then decide (x<=31)else false then true else x==127)
theorem zgl(n:Nat)(x:Int):Le (BL n x) (Qo x):=by unfold BL Qo;exact .rfl
def BK(n:Nat)(x:Str×Int):Option (zb×Int):=
 ze (QP n (x.1,x.2)) fun u=>
 Ti n (fun(c:Int×zb×zb)=>
   ze (zu (decide (c.1<(x.1.length:Int))) (geti x.1 c.1) 0) fun v=>
   bif bif decide (c.1<(x.1.length:Int))then(v.toNat:Int) != 41 else false then
    ze (geti x.1 c.1) fun d=>
    ze (tu n (d.toNat:Int)) fun y=>
    bif y then
     ze (QP n (x.1,c.1)) fun j=>
     ze (zu (decide (j<(x.1.length:Int))) (geti x.1 j) 0) fun z=>
     bif bif decide (j<(x.1.length:Int))then(z.toNat:Int) != 41 else false then
      ze (XE n (x.1,j)) fun p=>
      some (LO.ret (p.1,p.2))
     else
      some (LO.again (j,c.2.1,c.2.2))
    else
     ze (zu (!(bif bif (d.toNat:Int)==34 then true else(d.toNat:Int)==39 then true else(d.toNat:Int)==40)) (BL n (d.toNat:Int)) (default:Bool)) fun r=>
     ze (zu ((d.toNat:Int)==92&& !(bif bif bif (d.toNat:Int)==34 then true else(d.toNat:Int)==39 then true else(d.toNat:Int)==40 then true else r)) (qx n (x.1,c.1)) (default:Bool)) fun A=>
     bif bif bif bif bif (d.toNat:Int)==34 then true else(d.toNat:Int)==39 then true else(d.toNat:Int)==40 then true else r then true else bif (d.toNat:Int)==92 then !y10 else false then
      ze (XE n (x.1,c.1)) fun m=>
      some (LO.ret (m.1,m.2))
     else
      bif (d.toNat:Int)==92 then
       ze (Qm n (x.1,c.1)) fun f=>
       need (Ah c.2.2.text.length f.1.length)<|
       some (LO.again (f.2,c.2.1,(⟨c.2.2.kind,c.2.2.text++f.1,c.2.2.num,c.2.2.unit,c.2.2.flag⟩:zb)))
      else
       need (decide (0<=c.1)&&(decide (c.1<=w64 (c.1+1))&&decide (w64 (c.1+1)<=(x.1.length:Int))))<|
       need (Ah c.2.2.text.length (List.drop c.1.toNat (List.take (w64 (c.1+1)).toNat x.1)).length)<|
       some (LO.again (w64 (c.1+1),c.2.1,(⟨c.2.2.kind,c.2.2.text++List.drop c.1.toNat (List.take (w64 (c.1+1)).toNat x.1),c.2.2.num,c.2.2.unit,c.2.2.flag⟩:zb)))
   else
    some (LO.out (c.1,c.2.1,c.2.2)):Int×zb×zb->Option (LO (Int×zb×zb) (Int×zb×zb) _)) (u,(⟨0,[],0,[],false⟩:zb),(⟨7,[],0,[],false⟩:zb)) fun i=>
 some (i.2.2,if w64 (i.1+1)<(x.1.length:Int)then w64 (i.1+1)else(x.1.length:Int))
theorem zqN(n:Nat)(x:Str×Int):Le (BK n x) (Iz x):=by unfold BK Iz;exact(.bind (BF n _) fun _=>(.loop (fun _=>(.bind .rfl fun _=>(.bif (.bind .rfl fun _=>(.bind (MF n _) fun _=>(.bif (.bind (BF n _) fun _=>(.bind .rfl fun _=>(.bif (.bind (wT n _) fun _=> .rfl) .rfl))) (.bind (.cond (zgl n _)) fun _=>(.bind (.cond (Qi n _)) fun _=>(.bif (.bind (wT n _) fun _=> .rfl) (.bif (.bind (UF n _) fun _=>(.need .rfl)) (.need (.need .rfl))))))))) .rfl))) fun _=> .rfl))
def MK(n:Nat)(x:Str×Int):Option (zb×Int):=
 ze (uu n (x.1,x.2)) fun c=>
 ze (zV n (x.1,c.2)) fun i=>
 bif i != 40 then
  some ((⟨1,c.1,0,[],false⟩:zb),c.2)
 else
  zW (X:=zb) (
    ze (XK n (c.1,[117,114,108])) fun j=>
    bif j then
     ze (QP n (x.1,w64 (c.2+1))) fun m=>
     ze (zV n (x.1,m)) fun d=>
     bif bif d != 34 then d != 39 else false then
      ze (BK n (x.1,w64 (c.2+1))) fun f=>
      some (LX.ret (f.1,f.2))
     else
      some (LX.out (⟨0,[],0,[],false⟩:zb))
    else
     some (LX.out (⟨0,[],0,[],false⟩:zb))) fun p=>
  some ((⟨2,c.1,0,[],false⟩:zb),w64 (c.2+1))
theorem zoT(n:Nat)(x:Str×Int):Le (MK n x) (Sz x):=by unfold MK Sz;exact(.bind (NF n _) fun _=>(.bind (zN n _) fun _=>(.bif .rfl (.join (.bind (zmS n _) fun _=>(.bif (.bind (BF n _) fun _=>(.bind (zN n _) fun _=>(.bif (.bind (zqN n _) fun _=> .rfl) .rfl))) .rfl)) fun _=> .rfl))))
def fE(n:Nat)(x:Int):Option Int:=
 bif x==58 then
  some 16
 else
  bif x==59 then
   some 17
  else
   bif x==44 then
    some 18
   else
    bif x==91 then
     some 19
    else
     bif x==93 then
      some 20
     else
      bif x==40 then
       some 21
      else
       bif x==41 then
        some 22
       else
        bif x==123 then
         some 23
        else
         bif x==125 then
          some 24
         else
          some 0
theorem RU(n:Nat)(x:Int):Le (fE n x) (Yu x):=by unfold fE Yu;exact(.bif .rfl (.bif .rfl (.bif .rfl (.bif .rfl (.bif .rfl (.bif .rfl (.bif .rfl (.bif .rfl (.bif .rfl .rfl)))))))))
def CK(n:Nat)(x:Str×Int):Option (zb×Int):=
 ze (geti x.1 x.2) fun c=>
 ze (tu n (c.toNat:Int)) fun J=>
 bif J then
  ze (QP n (x.1,x.2)) fun L=>
  some ((⟨13,[],0,[],false⟩:zb),L)
 else
  bif bif (c.toNat:Int)==34 then true else(c.toNat:Int)==39 then
   ze (kK n (x.1,x.2)) fun z=>
   some (z.1,z.2)
  else
   ze (zu (decide (w64 (x.2+1)<(x.1.length:Int))&&(c.toNat:Int)==35) (geti x.1 (w64 (x.2+1))) 0) fun O=>
   ze (zu (decide (w64 (x.2+1)<(x.1.length:Int))&&(c.toNat:Int)==35) (KF n (O.toNat:Int)) (default:Bool)) fun A=>
   ze (zu (!(bif decide (w64 (x.2+1)<(x.1.length:Int))then A else false)&&(c.toNat:Int)==35) (qx n (x.1,w64 (x.2+1))) (default:Bool)) fun U=>
   bif bif (c.toNat:Int)==35 then bif bif decide (w64 (x.2+1)<(x.1.length:Int))then A else false then true else U else false then
    ze (uu n (x.1,w64 (x.2+1))) fun B=>
    ze (QO n (x.1,w64 (x.2+1))) fun V=>
    some ((⟨4,B.1,0,[],V⟩:zb),B.2)
   else
    ze (pK n (x.1,x.2)) fun j=>
    bif j then
     ze (uK n (x.1,x.2)) fun d=>
     some (d.1,d.2)
    else
     ze (WE n (x.1,x.2,[45,45,62])) fun m=>
     bif m then
      some ((⟨15,[],0,[],false⟩:zb),w64 (x.2+3))
     else
      ze (WE n (x.1,x.2,[60,33,45,45])) fun p=>
      bif p then
       some ((⟨14,[],0,[],false⟩:zb),w64 (x.2+4))
      else
       ze (zu ((c.toNat:Int)==64) (QO n (x.1,w64 (x.2+1))) (default:Bool)) fun r=>
       bif bif (c.toNat:Int)==64 then r else false then
        ze (uu n (x.1,w64 (x.2+1))) fun f=>
        some ((⟨3,f.1,0,[],false⟩:zb),f.2)
       else
        ze (QO n (x.1,x.2)) fun u=>
        bif u then
         ze (MK n (x.1,x.2)) fun i=>
         some (i.1,i.2)
        else
         ze (fE n (c.toNat:Int)) fun v=>
         bif v != 0 then
          ze (fE n (c.toNat:Int)) fun y=>
          some ((⟨y,[],0,[],false⟩:zb),w64 (x.2+1))
         else
          need (decide (0<=x.2)&&(decide (x.2<=w64 (x.2+1))&&decide (w64 (x.2+1)<=(x.1.length:Int))))<|
          some ((⟨9,List.drop x.2.toNat (List.take (w64 (x.2+1)).toNat x.1),0,[],false⟩:zb),w64 (x.2+1))
theorem zqM(n:Nat)(x:Str×Int):Le (CK n x) (Jz x):=by unfold CK Jz;exact(.bind .rfl fun _=>(.bind (MF n _) fun _=>(.bif (.bind (BF n _) fun _=> .rfl) (.bif (.bind (zlv n _) fun _=> .rfl) (.bind .rfl fun _=>(.bind (.cond (JV n _)) fun _=>(.bind (.cond (Qi n _)) fun _=>(.bif (.bind (NF n _) fun _=>(.bind (CF n _) fun _=> .rfl)) (.bind (ziM n _) fun _=>(.bif (.bind (zjW n _) fun _=> .rfl) (.bind (vT n _) fun _=>(.bif .rfl (.bind (vT n _) fun _=>(.bif .rfl (.bind (.cond (CF n _)) fun _=>(.bif (.bind (NF n _) fun _=> .rfl) (.bind (CF n _) fun _=>(.bif (.bind (zoT n _) fun _=> .rfl) (.bind (RU n _) fun _=>(.bif (.bind (RU n _) fun _=> .rfl) (.need .rfl)))))))))))))))))))))
def WK(n:Nat)(x:Int):Option Bool:=
 ze (Zw x) fun c=>
 ze (CK n ([c,(10:UInt8)],0)) fun d=>
 some (bif bif bif bif decide (x>=1)then decide (x<=127)else false then x != 12 else false then x != 13 else false then d.1.kind==9 else false)
theorem zmT(n:Nat)(x:Int):Le (WK n x) (qH x):=by unfold WK qH;exact(.bind .rfl fun _=>(.bind (zqM n _) fun _=> .rfl))
end Go.Lv.VT
