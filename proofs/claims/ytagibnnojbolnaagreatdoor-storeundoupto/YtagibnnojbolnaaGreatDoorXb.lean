/- Lemmas on conditions: what the texts of the older seat had. -/
import Derived.Test.YtagibnnojbolnaaGreatDoorXa
set_option linter.unusedSimpArgs false
set_option linter.unusedVariables false
namespace Go.Lv.VT
theorem qX(x:Zu):zq (Zv x)=3+x.name.length+zL zD x.value:=by simp only[Zv,zq,bPV,zL];omega
theorem Ik(x:zu):zq (zk x)=4+x.name.length+zq (Zv x.decl)+zL zk x.list - 1+1:=by rw[qX];rw[Oz];simp only[zq,bPV,zL];omega
theorem Nk(x:Zu):1<=zq (Zv x):=by have:=qX x;omega
theorem nk{α:Type}(l:List α):decide ((l.length:Int)>0)= !l.isEmpty:=by
 cases l with
 |nil=>rfl
 |cons a l=>exact Fa (by simp only[Ga];omega)
theorem Wx(x:zu):1<=zq (zk x):=by have:=Ik x;omega
theorem Pt{a b:Nat}(h:a+b<=big):w64 ((a:Int)+(b:Int))=((a+b:Nat):Int):=by rw[w64,ZT (by omega) (by unfold big at h;omega)];omega
theorem UB{d:Zu}(h:zq (Zv d)<=big):szL d.value<=big/\d.name.length<=big:=by have:=qX d;have:=Lh d.value;constructor<;>omega
theorem BS{d:Zu}(h:zq (Zv d)<=big):Kn d=some (bif Lf d then 0 else 8):=FR (UB h).1 (UB h).2
theorem wS{d:Zu}(h:zq (Zv d)<=big):Hr d=some (bif Lf d then 0 else 8):=zu5 (UB h).1 (UB h).2
theorem Zm(c:zu):(⟨c.kind,c.name,c.num,c.decl,c.list⟩:zu)=c:=by cases c;rfl
def Jj(d:Zu):Bool:=d.name==[]&&(d.value.isEmpty&& !d.important)
def Hg(c:zu):Bool:=c.name==[]&&(c.num==0&&Jj c.decl)
theorem Ep(c:zu):ll c=some (Hg c):=by unfold ll Hg Jj;rw[ZI];cases c.name==[]<;>cases c.num==0<;>cases c.decl.name==[]<;>cases c.decl.value.isEmpty<;>rfl
theorem KS(d:Zu):lu d=some (Jj d):=by unfold lu Jj;rw[ZI];cases d.name==[]<;>cases d.value.isEmpty<;>rfl
theorem Uv(c:zu):Pn c=some (Hg c):=by unfold Pn Hg;simp only[KS,zX,za,Aa];cases c.name==[]<;>cases c.num==0<;>rfl
def keyS(x:Str):Bool:=x==[]||(x==[97,110,100]||(x==[111,114]||(x==[110,111,116]||x==[111,110,108,121])))
def medS(x:Str):Bool:= !keyS x&&(decide (x.length<=64)&&(lowS x==x&&Qs x))
theorem znv(l:List Str)(x:Str)(h:l.length<=big):slices_Contains_string (l,x)=some (l.any fun v=>x==v):=by
 unfold slices_Contains_string slices_Index_string;refine Dl (Li l (fun v=>x==v) h (fun i hi=> ?_) ?_) (Mk _ _)
 ·simp only[zO hi,Ca,zM hi,za,Aa]
 ·simp only[zW,Ba]
theorem zL6(x:Str):(([[],[97,110,100],[111,114],[110,111,116],[111,110,108,121]]:List Str).any fun v=>x==v)=keyS x:=by simp only[Hf,List.any_nil,Ud];rfl
theorem CS{x:Str}(h:x.length<=big):Dv x=some (medS x):=by
 have e:decide ((x.length:Int)<=64)=decide (x.length<=64):=gp _ 64;have e1:decide (Lib.indexByte x (0:Int).toNat.toUInt8<0)=Qs x:=by rw[IW,iw,ve]
 have hcs:=znv [[],[97,110,100],[111,114],[110,111,116],[111,110,108,121]] x (by decide);unfold Dv medS;simp only[hcs,zL6,pq h,Pv,zX,za,Aa,e];cases keyS x<;>cases decide (x.length<=64)<;>try rfl
 simp only[Ua,Ca,aa];cases lowS x==x
 ·rfl
 ·exact congrArg some e1
theorem zte{x:Str}(h:x.length<=big):Jz x=some (medS x):=by
 have e:decide ((x.length:Int)>64)= !decide (x.length<=64):=Tg _ 64;have ec:=fD x (lowS x);unfold Jz medS;simp only[Ay h,zX,za,Aa,e];have hl:zU (fun(s1:Int)=>bif decide (s1<(x.length:Int))then
    (geti x s1).bind fun y2=>bif (y2.toNat:Int)==0 then some (LO.ret false)else some (LO.again (w64 (s1+1)))
   else some (LO.out ()):Int->Option (LO (Int) (Unit) _)) 0 (fun _=>some true)=some (Qs x):=by
  refine(qf x (fun b=>bif (!(b==0))then none else some false) () (fun i hi=> ?_) ?_).trans ?_
  ·simp only[zO hi,Ca,zM hi,Aa,byte_zero,zG hi h];cases x[i]==0<;>rfl
  ·simp only[zW,Ba]
  ·rw[Bi];unfold Qs;cases x.all (fun b=> !(b==0))<;>rfl
 rw[hl];unfold keyS;cases x==[]<;>cases decide (x.length<=64)<;>cases x==[97,110,100]<;>cases x==[111,114]<;>cases x==[110,111,116]<;>cases x==[111,110,108,121]<;>
  first|rfl|(simp only[Ca,Ba,Ud,Ua,Ya,aa,ec];cases lowS x==x<;>rfl)
def isN(n:Int):Bool:=decide (-1000000000000<=n)&&decide (n<=1000000000000)
theorem zCK(n:Int):ww n=some (isN n):=by unfold ww isN;show some (bif decide (-1000000000000<=n)then _ else _)=_;cases decide (-1000000000000<=n)<;>rfl
theorem xR(n:Int):Gv n=some (bif isN n then 0 else 8):=by
 unfold Gv gK;have e1:decide (n< -1000000000000)= !decide (-1000000000000<=n):=by have:=II n (-1000000000000);show _= !decide (n>=_);rw[this,ve]
 have e2:decide (n>1000000000000)= !decide (n<=1000000000000):=by have:=II 1000000000000 n;show decide (1000000000000<n)= !decide (1000000000000>=n);rw[this,ve]
 have:zU (fun(s1:Int)=>
   bif decide (s1<(([n]:List Int).length:Int))then
    za (geti [n] s1) fun y2=>
    bif bif decide (y2<(-1000000000000))then true else decide (y2>1000000000000)then
     some (LO.ret (8:Int))
    else
     some (LO.again (w64 (s1+1)))
   else
    some (LO.out ()):Int->Option (LO (Int) (Unit) Int)) 0 (fun o3=>some (0:Int))=some (bif isN n then 0 else 8):=by
  refine(qf [n] (fun n=>bif isN n then none else some 8) () (fun i hi=> ?_) ?_).trans ?_
  ·obtain rfl:i=0:=by simpa using hi
   simp only[zO hi,Ca,zM hi,za,Aa,List.getElem_cons_zero,e1,e2,isN];cases decide (-1000000000000<=n)<;>cases decide (n<=1000000000000)<;>rfl
  ·simp only[zW,Ba]
  ·rw[Bi];simp only[Ad,List.all_nil,Rb];cases isN n<;>rfl
 rw[this];rfl
def ig(first:Bool)(y:zu):Bool:=
 y.list.isEmpty&&(Jj y.decl&&((first&&(y.kind==4&&(y.num==0&&medS y.name)))||((y.kind==5||y.kind==6)&&(y.name==[]&&(decide (0<=y.num)&&isN y.num)))))
def Mq(l:List zu):Bool:=(List.range l.length).all fun i=>ig (i==0) (l.getD i default)
def di(c:zu):Bool:=c.kind==1&&(Hg c&&(!c.list.isEmpty&&Mq c.list))
def Wp(c:zu):Bool:=match c.list with
 |[]=>false
 |y::_=>y.kind==4
theorem zKG(i:Nat):((i:Int)==0)=(i==0):=by rw[Ve,Db,Db];omega
theorem zMI(i:Nat):decide ((i:Int)>0)= !(i==0):=by
 cases i with
 |zero=>rfl
 |succ i=>exact Fa (by omega)
theorem zGU{c:zu}(h:zq (zk c)<=big)(i:Nat)(R:Type)(A:Option R)(k:Int->Option R):
  (Zi (X:=Int) (
       za (zF (!(decide ((c.list.length:Int)>0))) (ll (⟨c.kind,[],0,c.decl,c.list⟩:zu)) (default:Bool)) fun y4=>
       bif bif decide ((c.list.length:Int)>0)then true else !y4 then
        A.map LX.ret
       else
        bif c.kind==4 then
         za (zF (!(bif decide ((i:Int)>0)then true else c.num != 0)) (Dv c.name) (default:Bool)) fun y5=>
         bif bif bif decide ((i:Int)>0)then true else c.num != 0 then true else !y5 then
          A.map LX.ret
         else
          some (LX.out (i:Int))
        else
         Zi (X:=Bool) (
           bif c.kind==5 then
            some (LX.out (c.kind==5))
           else
            some (LX.out (c.kind==6))) fun j6=>
         bif j6 then
          za (zF (!(bif !(c.name==[])then true else decide (c.num<0))) (Gv c.num) (default:Int)) fun y7=>
          bif bif bif !(c.name==[])then true else decide (c.num<0)then true else y7 != 0 then
           A.map LX.ret
          else
           some (LX.out (i:Int))
         else
          A.map LX.ret) k)=bif ig (i==0) c then k (i:Int)else A:=by
 have hz:=Ik c;have hn:c.name.length<=big:=by have:=Nk c.decl;omega
 have hA:Zi (A.map LX.ret) k=A:=by cases A<;>rfl
 have e1:decide (c.num<0)= !decide (0<=c.num):=by have:=II c.num 0;show _= !decide (c.num>=0);rw[this,ve]
 have e2:((bif isN c.num then(0:Int)else 8) != 0)= !isN c.num:=by cases isN c.num<;>rfl
 have eb:Hg ⟨c.kind,[],0,c.decl,c.list⟩=Jj c.decl:=rfl;unfold ig;simp only[Ep,eb,nk,zX,za,Aa,CS hn,xR,zMI i,e1,bne];cases c.list.isEmpty with
 |false=>exact hA
 |true=>
  cases Jj c.decl with
  |false=>exact hA
  |true=>
   simp only[Ya,Ua,Ca,Ba,aa];by_cases k4:c.kind=4
   ·simp only[k4,Int.reduceBEq,Ca,Ud,Ac,aa];cases (i==0)<;>cases c.num==0<;>cases medS c.name<;>first|rfl|exact hA
   ·have b4:=Ea.2 k4;simp only[b4,Ba,Ac,Lc,Ld];by_cases k5:c.kind=5
    ·simp only[k5,Int.reduceBEq,Ca,zI,Ff,aa];cases c.name==[]<;>cases decide (0<=c.num)<;>cases isN c.num<;>first|rfl|exact hA
    ·have b5:=Ea.2 k5;simp only[b5,Ba,zI,Ld];cases c.kind==6
     ·exact hA
     ·cases c.name==[]<;>cases decide (0<=c.num)<;>cases isN c.num<;>first|rfl|exact hA
theorem qW{c y:zu}(h:y∈c.list):zq (zk y)<zq (zk c):=by have hz:=Ik c;have:=ZU (f:=zk) h;have:=Nk c.decl;omega
theorem Qb(c:zu):c.list.length<=zq (zk c):=by have hz:=Ik c;have:=ZF Wx c.list;have:=Nk c.decl;omega
theorem Gy(c:zu):zq (Zv c.decl)<=zq (zk c):=by have hz:=Ik c;omega
theorem GR{c:zu}(h:zq (zk c)<=big):Ty c=some (di c):=by
 have hlen:=Qb c;unfold Ty di;simp only[Zm,Ep,zX,za,Aa,ZI,bne];cases c.kind==1 with
 |false=>rfl
 |true=>
  cases Hg c with
  |false=>rfl
  |true=>
   cases c.list.isEmpty with
   |true=>rfl
   |false=>
    simp only[Ya,Ua,Ca,Ba,aa];refine(Dz c.list.length (fun i=>ig (i==0) (c.list.getD i default)) false (fun i hi=> ?_) ?_).trans ?_
    ·have hm:=qW (Ha hi);have hgd:c.list.getD i default=c.list[i]:=by simp[hi]
     have:=zGU (c:=c.list[i]) (by omega) i (LO Int Unit Bool) (some (LO.ret false)) fun j=>some (.again (w64 (j+1)));simp only[Ep,Uv,zX,za,Aa,bne,Cc]at this;simp only[zO hi,Ca,zM hi,Aa,hgd];refine this.trans ?_;rw[zG hi (by omega)];cases ig (i==0) c.list[i]<;>rfl
    ·simp only[zW,Ba]
    ·unfold Mq;cases (List.range c.list.length).all fun i=>ig (i==0) (c.list.getD i default)<;>rfl
theorem zJO{c:zu}(h:zq (zk c)<=big)(i:Nat)(R:Type)(A:Option R)(k:Int->Option R):
  (Zi (X:=Int) (
       za (zF (!(decide ((c.list.length:Int)>0))) (lu c.decl) (default:Bool)) fun y4=>
       bif bif decide ((c.list.length:Int)>0)then true else !y4 then
        A.map LX.ret
       else
        za (zF (bif bif (i:Int)==0 then c.kind==4 else false then c.num==0 else false) (Jz c.name) (default:Bool)) fun y5=>
        bif bif bif bif (i:Int)==0 then c.kind==4 else false then c.num==0 else false then y5 else false then
         some (LX.out (i:Int))
        else
         za (zF (!(bif bif bif c.kind != 5 then c.kind != 6 else false then true else !(c.name==[])then true else decide (c.num<0))) (ww c.num) (default:Bool)) fun y6=>
         bif bif bif bif bif c.kind != 5 then c.kind != 6 else false then true else !(c.name==[])then true else decide (c.num<0)then true else !y6 then
          A.map LX.ret
         else
          some (LX.out (i:Int))) k)=bif ig (i==0) c then k (i:Int)else A:=by
 have hz:=Ik c;have hn:c.name.length<=big:=by have:=Nk c.decl;omega
 have hA:Zi (A.map LX.ret) k=A:=by cases A<;>rfl
 have e1:decide (c.num<0)= !decide (0<=c.num):=by have:=II c.num 0;show _= !decide (c.num>=0);rw[this,ve]
 unfold ig;simp only[KS,nk,zX,za,Aa,zte hn,zCK,zKG i,e1,bne];cases c.list.isEmpty with
 |false=>exact hA
 |true=>
  cases Jj c.decl with
  |false=>exact hA
  |true=>
   simp only[Ya,Ua,Ca,Ba,aa];by_cases k4:c.kind=4
   ·simp only[k4,Int.reduceBEq,Ca,Ud,Ac,aa,Ua,Gg];cases (i==0)<;>cases c.num==0<;>cases medS c.name<;>first|rfl|exact hA
   ·have b4:=Ea.2 k4;have hc:(bif bif (i==0)then false else false then c.num==0 else false)=false:=by cases (i==0)<;>rfl
    simp only[b4,hc,Ba,Ac,Lc,Ld];cases c.kind==5<;>cases c.kind==6<;>cases c.name==[]<;>cases decide (0<=c.num)<;>cases isN c.num<;>first|rfl|exact hA
theorem lQ{c:zu}(h:zq (zk c)<=big):Cy c=some (di c,di c&&Wp c):=by
 have hlen:=Qb c;unfold Cy di;simp only[Zm,Uv,zX,za,Aa,ZI,bne];cases c.kind==1 with
 |false=>rfl
 |true=>
  cases Hg c with
  |false=>rfl
  |true=>
   cases he:c.list.isEmpty with
   |true=>rfl
   |false=>
    simp only[Ya,Ua,Ca,Ba,aa];refine(Dz c.list.length (fun i=>ig (i==0) (c.list.getD i default)) (false,false) (fun i hi=> ?_) ?_).trans ?_
    ·have hm:=qW (Ha hi);have hgd:c.list.getD i default=c.list[i]:=by simp[hi]
     have:=zJO (c:=c.list[i]) (by omega) i (LO Int Unit (Bool×Bool)) (some (LO.ret (false,false))) fun j=>some (.again (w64 (j+1)));simp only[Ep,Uv,zX,za,Aa,bne,Cc]at this;simp only[zO hi,Ca,zM hi,Aa,hgd];refine this.trans ?_;rw[zG hi (by omega)];cases ig (i==0) c.list[i]<;>rfl
    ·simp only[zW,Ba]
    ·unfold Mq Wp;cases hl:c.list with
     |nil=>rw[hl]at he;cases he
     |cons y r=> have:geti (y::r) 0=some y:=rfl;simp only[this,Aa];cases (List.range (y::r).length).all fun i=>ig (i==0) ((y::r).getD i default)<;>rfl
theorem G8(c:zu):xD c=some (Wp c):=by
 unfold xD Wp;cases c.list with
 |nil=>rfl
 |cons y r=> have e1:decide (((y::r).length:Int)>0)=true:=Fa (by simp only[Ga];omega);have e2:geti (y::r) 0=some y:=rfl;simp only[e1,e2,z8,za,Aa,Ca]
def Sg(c:zu):Bool:=bif c.kind==3 then Hg c&&(match c.list with
 |[y]=>di y&&Wp y
 |_=>false)else di c
theorem KO{α:Type}(y z:α)(r:List α):(((y::z::r).length:Int)==1)=false:=Ea.2 (by simp only[Ga];omega)
theorem zAf{c:zu}(h:zq (zk c)<=big):OD c=some (Sg c):=by
 unfold OD Sg;simp only[Zm,Ep,za,Aa,GR h,G8];cases c.kind==3 with
 |false=>rfl
 |true=>
  simp only[Ca];cases Hg c with
  |false=>rfl
  |true=>
   cases hl:c.list with
   |nil=>rfl
   |cons y r=>
    cases r with
    |nil=>
     have hm:=qW (c:=c) (y:=y) (by rw[hl];exact Ob);have e2:geti [y] 0=some y:=rfl;have e3:(([y]:List zu).length:Int)==1:=rfl;simp only[e2,e3,Ca,z8,Aa,GR (show zq (zk y)<=big by omega),aa];cases di y
     ·rfl
     ·simp only[z8,Aa,Ca,aa]
    |cons z r=> simp only[KO,Ca,ZO,Aa,Ba,Lc]
theorem zvb{c:zu}(h:zq (zk c)<=big):jy c=some (Sg c):=by
 unfold jy Sg;simp only[Zm,Uv,za,Aa,lQ h,bne];cases c.kind==3 with
 |false=>rfl
 |true=>
  simp only[Ca];cases Hg c with
  |false=>rfl
  |true=>
   cases hl:c.list with
   |nil=>rfl
   |cons y r=>
    cases r with
    |nil=>
     have hm:=qW (c:=c) (y:=y) (by rw[hl];exact Ob);have e2:geti [y] 0=some y:=rfl;have e3:(([y]:List zu).length:Int)==1:=rfl;simp only[e2,e3,Ba,Ya,Aa,lQ (show zq (zk y)<=big by omega),aa];cases di y<;>cases Wp y<;>rfl
    |cons z r=> simp only[KO,Ya,Ua,Ba,Ca,Lc]
def Bl(c:zu):Bool:=Hg c&&((c.kind==1&&c.list.isEmpty)||(c.kind==2&&(!c.list.isEmpty&&(decide (c.list.length<=64)&&c.list.all Sg))))
theorem F8{l:List zu}(hl:l.length<=big)(h: ∀c∈l,zq (zk c)<=big):QE l=some (!l.all Sg):=by
 unfold QE tL;refine Dl (Li l (fun c=> !Sg c) hl (fun i hi=> ?_) ?_) ((Mk _ _).trans (Iq _ _))
 ·have:RH l[i]=some (!Sg l[i]):=by unfold RH;simp only[Zm,zAf (h _ (Ha hi)),za,Aa]
  simp only[zO hi,Ca,zM hi,za,Aa,Zm,this]
 ·simp only[zW,Ba]
theorem znr{c:zu}(h:zq (zk c)<=big):fG c=some (bif Bl c then 0 else 8):=by
 have hlen:=Qb c;have e:decide ((c.list.length:Int)<=64)=decide (c.list.length<=64):=gp _ 64;unfold fG Bl;simp only[Zm,Ep,F8 (show c.list.length<=big by omega) (fun y hy=>by have:=qW hy;omega),zX,za,Aa,nk,ZI,e];have h12:c.kind==1->c.kind==2->False:=fun a b=>by rw[Db]at a b;omega
 cases Hg c with
 |false=>rfl
 |true=> cases c.kind==1<;>cases c.kind==2<;>cases c.list.isEmpty<;>cases decide (c.list.length<=64)<;>cases c.list.all Sg<;>rfl
theorem ztd{c:zu}(h:zq (zk c)<=big):JF c=some (Bl c):=by
 have hlen:=Qb c;have e:decide ((c.list.length:Int)>64)= !decide (c.list.length<=64):=Tg _ 64;unfold JF Bl;simp only[Zm,Uv,za,Aa,wy,ZI,e,bne];cases Hg c with
 |false=>rfl
 |true=>
  simp only[Ya,Ba,aa];by_cases k1:c.kind=1
  ·simp only[k1,Int.reduceBEq,Ca,aa,Ac,Ud]
  ·have b1:=Ea.2 k1;simp only[b1,Ba,Ac,Ld];have hl:zU (fun(s2:Int)=>
      bif decide (s2<(c.list.length:Int))then
       (geti c.list s2).bind fun y3=>
       (jy y3).bind fun y4=>
       bif !y4 then
        some (LO.ret false)
       else
        some (LO.again (w64 (s2+1)))
      else
       some (LO.out ()):Int->Option (LO (Int) (Unit) _)) 0 (fun _=>some true)=some (c.list.all Sg):=by
    refine(qf c.list (fun v=>bif Sg v then none else some false) () (fun i hi=> ?_) ?_).trans ?_
    ·have hm:=qW (Ha hi);simp only[zO hi,Ca,zM hi,Aa,zvb (show zq (zk c.list[i])<=big by omega),zG hi (show c.list.length<=big by omega)];cases Sg c.list[i]<;>rfl
    ·simp only[zW,Ba]
    ·rw[Bi];cases c.list.all Sg<;>rfl
   rw[hl];cases c.kind==2<;>cases c.list.isEmpty<;>cases decide (c.list.length<=64)<;>rfl
theorem Xm{n:Nat}(h:n<=big):w64 ((n:Int)+1)=((n+1:Nat):Int):=by rw[w64,ZT (by omega) (by unfold big at h;omega)];omega
theorem YI{n:Nat}(h:n<=big):w64 (1+(n:Int))=((n+1:Nat):Int):=by rw[w64,ZT (by omega) (by unfold big at h;omega)];omega
theorem Oo{α:Type}(f:α->Nat): ∀{l:List α} {i:Nat} (h:i<l.length),((l.take (i+1)).map f).sum=((l.take i).map f).sum+f l[i]
 |[],_,h=>by cases h
 |v::l,0,_=>by simp
 |v::l,i+1,h=>by simp only[Be,Jc,He,List.getElem_cons_succ];rw[Oo f (l:=l) (i:=i) (by simpa using h)];omega
theorem Xy{α:Type}(f:α->Nat): ∀(l:List α) (i:Nat),((l.take i).map f).sum<=(l.map f).sum
 |[],_=>by simp
 |v::l,0=>by simp
 |v::l,i+1=>by simp only[Be,Jc,He];have:=Xy f l i;omega
theorem dw{α:Type}(f:α->Nat): ∀{l:List α} {i:Nat} (h:i<l.length),mx f (l.take (i+1))=max (mx f (l.take i)) (f l[i])
 |[],_,h=>by cases h
 |v::l,0,_=>by simp[mx]
 |v::l,i+1,h=>by simp only[Be,mx,List.getElem_cons_succ];rw[dw f (l:=l) (i:=i) (by simpa using h)];omega
theorem Ju{α:Type}(p:α->Bool): ∀{l:List α} {i:Nat} (h:i<l.length),(l.take (i+1)).all p=((l.take i).all p&&p l[i])
 |[],_,h=>by cases h
 |v::l,0,_=>by simp
 |v::l,i+1,h=>by simp only[Be,Ad,List.getElem_cons_succ];rw[Ju p (l:=l) (i:=i) (by simpa using h),Vh]
theorem zLg{α:Type}{p:α->Bool}{l:List α}{i:Nat}(h:i<l.length)(hp:p l[i]=false):l.all p=false:=by rw[List.all_eq_false];exact⟨l[i],Ha h,by rw[hp];simp⟩
theorem zKj(l:List zb):Am (l,[])=some l.isEmpty:=by
 refine ZG (fun _=>0) (fun x:List zb×List zb=>x.2=[]) (fun x=>x.1.isEmpty) (fun S x hx _=> ?_) (x:=(l,[])) rfl;obtain⟨l,m⟩:=x;obtain rfl:m=[]:=hx;unfold Ez;cases l with
 |nil=>
  refine(qf ([]:List zb) (fun _=>none) () (fun i hi=>by cases hi) ?_).trans rfl;simp only[Eb,zW,Ba]
 |cons v l=> have:(((v::l).length:Int) != (([]:List zb).length:Int))=true:=Xe.2 (by simp only[Ga,Eb];omega);simp only[this,Ca];rfl
mutual
def sizC:zu->Nat
 |⟨_,_,_,_,l⟩=>1+Tk l
def Tk:List zu->Nat
 |[]=>0
 |c::r=>sizC c+Tk r
end
theorem pY(l:List zu):Tk l=(l.map sizC).sum:=by
 induction l with
 |nil=>rw[Tk];rfl
 |cons c l ih=>rw[Tk,ih];rfl
theorem aO(c:zu):sizC c=1+(c.list.map sizC).sum:=by obtain⟨k,n,m,d,l⟩:=c;rw[sizC,pY]
theorem zKp: ∀l:List zu,Tk l<=zL zk l:=by
 have key: ∀(n:Nat) (l:List zu),zL zk l<n->Tk l<=zL zk l:=by
  intro n
  induction n with
  |zero=>intro l h;omega
  |succ n ih=>
   intro l
   induction l with
   |nil=>intro _;rw[Tk];exact Va _
   |cons v l ihl=> intro h;rw[Z6]at h ⊢;rw[Tk,aO,<-pY];have hz:=Ik v;have hd:=Nk v.decl;have h1:=ih v.list (by omega);have h2:=ihl (by omega);omega
 exact fun l=>key _ l (Fe _)
theorem dV(c:zu):sizC c<=zq (zk c):=by have:=zKp [c];rw[Tk,Tk,Z6,og]at this;omega
theorem MS{c:zu}{m:Nat}(h:zq (zk c)<=big)(hm:m<=big):
  ∃r:Nat,QD (c,(m:Int))=some (r:Int)/\r<=sizC c/\(sizC c<=m->r=sizC c)/\(m<sizC c->m<r):=by
 have key: ∃y:Int,QD (c,(m:Int))=some y/\ ∃r:Nat,y=(r:Int)/\r<=sizC c/\ ∀m':Nat,(m:Int)=(m':Int)->(sizC c<=m'->r=sizC c)/\(m'<sizC c->m'<r):=by
  refine El zsq (fun x:zu×Int=>zq (zk x.1)) (fun x=>zq (zk x.1)<=big/\ ∃m:Nat,x.2=(m:Int)/\m<=big)
   (fun x (y:Int)=> ∃r:Nat,y=(r:Int)/\r<=sizC x.1/\ ∀m':Nat,x.2=(m':Int)->(sizC x.1<=m'->r=sizC x.1)/\(m'<sizC x.1->m'<r)) (fun S x hx hS=> ?_) (x:=(c,(m:Int))) ⟨h,m,rfl,hm⟩
  obtain⟨c,n⟩:=x;obtain⟨hc,m,hn,hm⟩:=hx;have hn:n=(m:Int):=hn;have hc:zq (zk c)<=big:=hc;subst hn;have hlen:=Qb c;have hsz:=dV c;have he:=aO c;unfold Bv;have hw: ∀a:Nat,a<=big->w64 ((a:Int)+0)=(a:Int):=fun a ha=>by rw[w64,ZT (by omega) (by unfold big at ha;omega)];omega
  refine Lx (A:=Nat) c.list.length (fun i a=>((a:Int),(i:Int))) (fun i a=>a<=1+((c.list.take i).map sizC).sum/\(1+((c.list.take i).map sizC).sum<=m->a=1+((c.list.take i).map sizC).sum)/\(m<1+((c.list.take i).map sizC).sum->m<a)) _ (a0:=1) rfl (by simp) (fun i a hi hI=> ?_) (fun a hI=> .inl ?_)
  ·obtain⟨i1,i2,i3⟩:=hI;have ht:=Xy sizC c.list i;have ht1:=Xy sizC c.list (i+1);rw[Oo sizC hi]at ht1;have hmm:=qW (Ha hi);by_cases ham:a<=m
   ·have ha:a=1+((c.list.take i).map sizC).sum:=i2 (by omega);have e1:decide ((a:Int)<=(m:Int))=true:=Fa (by omega);have hw2:w64 ((m:Int) - (a:Int))=((m - a:Nat):Int):=by rw[w64,ZT (by omega) (by unfold big at hm;omega)];omega
    obtain⟨y,hy1,r,hy2,hy3,hy4⟩:=hS (c.list[i],((m - a:Nat):Int)) ⟨by show zq (zk c.list[i])<=big;omega,m - a,rfl,by omega⟩ hmm;have hy3:r<=sizC c.list[i]:=hy3;obtain⟨hy5,hy6⟩:=hy4 (m - a) rfl;have hy5:sizC c.list[i]<=m - a->r=sizC c.list[i]:=hy5;have hy6:m - a<sizC c.list[i]->m - a<r:=hy6;have hw3:w64 ((a:Int)+(r:Int))=((a+r:Nat):Int):=Pt (by omega);refine .inl ⟨a+r,?_,?_,?_,?_⟩
    ·simp only[zO hi,e1,Ca,zM hi,za,Aa,Zm,hw2,hy1,hy2,hw3,zG hi (show c.list.length<=big by omega)]
    ·rw[Oo sizC hi];omega
    ·rw[Oo sizC hi];omega
    ·rw[Oo sizC hi];omega
   ·have e1:decide ((a:Int)<=(m:Int))=false:=Ia (by omega);refine .inr (.inr ⟨(a:Int),?_,(a:Int),rfl,a,rfl,?_,fun m' hm'=>⟨fun h=> ?_,fun h=> ?_⟩⟩)
    ·simp only[zO hi,e1,Ca,Ba]
    ·show a<=sizC c;omega
    ·have hm':(m:Int)=(m':Int):=hm';have h:sizC c<=m':=h;show a=sizC c;omega
    ·have hm':(m:Int)=(m':Int):=hm';show m'<a;omega
  ·rw[Vd]at hI;obtain⟨i1,i2,i3⟩:=hI;refine⟨(a:Int),?_,(a:Int),rfl,a,rfl,?_,fun m' hm'=>⟨fun h=> ?_,fun h=> ?_⟩⟩
   ·simp only[zW,Ba]
   ·show a<=sizC c;omega
   ·have hm':(m:Int)=(m':Int):=hm';have h:sizC c<=m':=h;show a=sizC c;omega
   ·have hm':(m:Int)=(m':Int):=hm';have h:m'<sizC c:=h;show m'<a;omega
 obtain⟨y,h1,r,rfl,h2,h3⟩:=key;exact⟨r,h1,h2,h3 m rfl⟩
def Ih(c:zu):Bool:=c.kind==7||c.kind==8
mutual
def Mf:zu->Nat
 |⟨k,_,_,d,l⟩=>bif k==7 then 1+Zc d.value else bif k==8 then 1 else AB l
def AB:List zu->Nat
 |[]=>0
 |c::r=>max ((bif Ih c then 0 else 1)+Mf c) (AB r)
end
def Yf(c:zu):Nat:=(bif Ih c then 0 else 1)+Mf c
theorem TZ(l:List zu):AB l=mx Yf l:=by
 induction l with
 |nil=>rw[AB];rfl
 |cons c l ih=>rw[AB,ih];rfl
theorem uC(c:zu):Mf c=bif c.kind==7 then 1+Zc c.decl.value else bif c.kind==8 then 1 else mx Yf c.list:=by obtain⟨k,n,m,d,l⟩:=c;rw[Mf,TZ]
theorem tC: ∀c:zu,Mf c<=zq (zk c):=by
 have key: ∀(n:Nat) (c:zu),zq (zk c)<n->Mf c<=zq (zk c):=by
  intro n
  induction n with
  |zero=>intro c h;omega
  |succ n ih=>
   intro c h;have hz:=Ik c;have hd:=qX c.decl;rw[uC];cases c.kind==7 with
   |true=> have h1:=lm c.decl.value;have h2:=Lh c.decl.value;simp only[Ca];omega
   |false=>
    cases c.kind==8 with
    |true=>simp only[Ca,Ba];omega
    |false=>
     simp only[Ba];have: ∀l:List zu,(∀y∈l,y∈c.list)->mx Yf l<=1+zL zk l:=by
      intro l
      induction l with
      |nil=>intro _;exact Va _
      |cons y l ihl=>
       intro hl;have h1:=ihl fun z hz=>hl z (Kb _ hz);have h2:=qW (hl y Ob);have h3:=ih y (by omega);have h4:Yf y<=1+Mf y:=by unfold Yf;cases Ih y<;>simp only[Ca,Ba]<;>omega
       rw[mx,Z6];omega
     have:=this c.list fun _ h=>h;omega
 exact fun c=>key _ c (Fe _)
theorem AR{c:zu}(h:zq (zk c)<=big):yl c=some (Mf c:Int):=by
 refine ZG (fun c=>zq (zk c)) (fun c=>zq (zk c)<=big) (fun c=>(Mf c:Int)) (fun S c hc hS=> ?_) h;have hz:=Ik c;have hd:=qX c.decl;have hlen:=Qb c;have hv:=Lh c.decl.value;unfold KF;rw[uC];cases h7:c.kind==7 with
 |true=> have h1:=lm c.decl.value;simp only[Ca,UC (show szL c.decl.value<=big by omega),za,Aa,YI (show Zc c.decl.value<=big by omega)];rw[Re]
 |false=>
  cases h8:c.kind==8 with
  |true=>rfl
  |false=>
   simp only[Ba];refine(gm c.list Yf (fun a i=>((a:Int),(i:Int))) (fun a=>(a:Int)) (a0:=0) rfl (fun i a hi=> ?_) (fun a=> ?_)).trans ?_
   ·have hm:=qW (Ha hi);have hs:=hS c.list[i] (by omega) hm;have hst:=tC c.list[i];simp only[zO hi,Ca,zM hi,za,Aa,Zm,hs,zG hi (show c.list.length<=big by omega)];have hlf:(bif c.list[i].kind==7 then true else c.list[i].kind==8)=Ih c.list[i]:=by unfold Ih;cases c.list[i].kind==7<;>rfl
    rw[hlf];have hst':Yf c.list[i]=(bif Ih c.list[i]then 0 else 1)+Mf c.list[i]:=rfl;cases hlc:Ih c.list[i]with
    |true=>
     rw[hlc,Ca,jc]at hst';have hw:w64 (0+(Mf c.list[i]:Int))=(Yf c.list[i]:Int):=by rw[w64,ZT (by omega) (by unfold big at hc;omega)];omega
     simp only[Ca,zI,hw,Mj]
    |false=>
     rw[hlc,Ba]at hst';have hw:w64 (1+(Mf c.list[i]:Int))=(Yf c.list[i]:Int):=by rw[w64,ZT (by omega) (by unfold big at hc;omega)];omega
     simp only[Ba,zI,hw,Mj]
   ·simp only[zW,Ba]
   ·rw[Nat.zero_max]
mutual
def supC:zu->Bool
 |⟨k,n,m,d,l⟩=>bif k==7 then l.isEmpty&&(n==[]&&(m==0&&Lf d))else bif k==8 then l.isEmpty&&Hg ⟨k,n,m,d,l⟩else
  (k==3||(k==1||k==2))&&(Hg ⟨k,n,m,d,l⟩&&((bif k==3 then l.length==1 else decide (2<=l.length))&&GA l))
def GA:List zu->Bool
 |[]=>true
 |c::r=>supC c&&GA r
end
theorem zIC(l:List zu):GA l=l.all supC:=by
 induction l with
 |nil=>rw[GA];rfl
 |cons c l ih=>rw[GA,ih];rfl
theorem tO(c:zu):supC c=bif c.kind==7 then c.list.isEmpty&&(c.name==[]&&(c.num==0&&Lf c.decl))else bif c.kind==8 then c.list.isEmpty&&Hg c else
  (c.kind==3||(c.kind==1||c.kind==2))&&(Hg c&&((bif c.kind==3 then c.list.length==1 else decide (2<=c.list.length))&&c.list.all supC)):=by
 obtain⟨k,n,m,d,l⟩:=c;rw[supC,zIC]
theorem vU{α:Type}(l:List α):decide ((l.length:Int)<2)= !decide (2<=l.length):=by
 by_cases h:2<=l.length
 ·rw[Fa h,Ia (by omega)];rfl
 ·rw[Ia h,Fa (by omega)];rfl
theorem TY{α:Type}(l:List α):((l.length:Int)==1)=(l.length==1):=by rw[Ve,Db,Db];omega
theorem zon{c:zu}(h:zq (zk c)<=big):qw c=some (supC c):=by
 refine ZG (fun c=>zq (zk c)) (fun c=>zq (zk c)<=big) (fun c=>supC c) (fun S c hc hS=> ?_) h;have hlen:=Qb c;have hd:=Gy c;unfold XH;rw[tO];simp only[Zm,Uv,wS (show zq (Zv c.decl)<=big by omega),ZI,zX,za,Aa];cases h7:c.kind==7 with
 |true=>
  simp only[Ca];cases c.name==[]<;>cases c.num==0<;>cases c.list.isEmpty<;>cases Lf c.decl<;>rfl
 |false=>
  cases h8:c.kind==8 with
  |true=>
   simp only[Ca,Ba];cases Hg c<;>cases c.list.isEmpty<;>rfl
  |false=>
   simp only[Ba];cases h3:c.kind==3 with
   |true=>
    simp only[Ca,Ff,aa,TY];cases Hg c with
    |false=>rfl
    |true=>
     cases hl:c.list with
     |nil=>rfl
     |cons y r=>
      cases r with
      |nil=> have hm:=qW (c:=c) (y:=y) (by rw[hl];exact Ob);have e2:geti [y] 0=some y:=rfl;have e3:(([y]:List zu).length==1)=true:=rfl;simp only[e2,e3,Ca,z8,Aa,hS y (show zq (zk y)<=big by omega) hm,aa,Ad,List.all_nil,Rb]
      |cons z r=>
       have e3:((y::z::r).length==1)=false:=by simp
       simp only[e3,Ca,ZO,Aa,Ba,Ac,Lc]
   |false=>
    have hj: ∀{R:Type} (k:Bool->Option R),Zi (X:=Bool) (bif c.kind==1 then some (LX.out (c.kind==1))else some (LX.out (c.kind==2))) k=k (c.kind==1||c.kind==2):=by intro R k;cases c.kind==1<;>rfl
    simp only[Ba,Ld];rw[hj];cases (c.kind==1||c.kind==2)with
    |false=>rfl
    |true=>
     simp only[Ca,vU,aa];have hl:zU (fun(s8:Int)=>
        bif decide (s8<(c.list.length:Int))then
         (geti c.list s8).bind fun y9=>
         (S y9).bind fun y10=>
         bif !y10 then
          some (LO.ret false)
         else
          some (LO.again (w64 (s8+1)))
        else
         some (LO.out ()):Int->Option (LO (Int) (Unit) _)) 0 (fun _=>some true)=some (c.list.all supC):=by
      refine(qf c.list (fun v=>bif supC v then none else some false) () (fun i hi=> ?_) ?_).trans ?_
      ·have hm:=qW (Ha hi);simp only[zO hi,Ca,zM hi,Aa,hS _ (show zq (zk c.list[i])<=big by omega) hm,zG hi (show c.list.length<=big by omega)];cases supC c.list[i]<;>rfl
      ·simp only[zW,Ba]
      ·rw[Bi];cases c.list.all supC<;>rfl
     rw[hl];cases Hg c<;>cases decide (2<=c.list.length)<;>rfl
theorem zAg(c:zu):ND c=some (Ih c):=by unfold ND Ih;cases c.kind==7<;>rfl
theorem H8{c:zu}{m:Nat}(h:zq (zk c)<=big)(hm:m<=1500):
  ∃y:(Int×Bool)×Int,Pk (c,(m:Int))=some y/\y.1.2=(supC c&&decide (m+sizC c<=1500))/\(y.1.2=true->y.1.1=(Mf c:Int)/\y.2=((m+sizC c:Nat):Int)):=by
 have key: ∃y:(Int×Bool)×Int,Pk (c,(m:Int))=some y/\ ∀m':Nat,(m:Int)=(m':Int)->y.1.2=(supC c&&decide (m'+sizC c<=1500))/\(y.1.2=true->y.1.1=(Mf c:Int)/\y.2=((m'+sizC c:Nat):Int)):=by
  refine El zuq (fun x:zu×Int=>zq (zk x.1)) (fun x=>zq (zk x.1)<=big/\ ∃m:Nat,x.2=(m:Int)/\m<=1500)
   (fun x (y:(Int×Bool)×Int)=> ∀m':Nat,x.2=(m':Int)->y.1.2=(supC x.1&&decide (m'+sizC x.1<=1500))/\(y.1.2=true->y.1.1=(Mf x.1:Int)/\y.2=((m'+sizC x.1:Nat):Int))) (fun S x hx hS=> ?_) (x:=(c,(m:Int))) ⟨h,m,rfl,hm⟩
  obtain⟨c,n⟩:=x;obtain⟨hc,m,hn,hm⟩:=hx;have hn:n=(m:Int):=hn;have hc:zq (zk c)<=big:=hc;subst hn;have hlen:=Qb c;have hd:=Gy c;have hsz:=dV c;have he:=aO c;have hv:=Lh c.decl.value;have hzd:=qX c.decl;have fin: ∀(d:Int) (b:Bool) (n:Int),b=(supC c&&decide (m+sizC c<=1500))->(b=true->d=(Mf c:Int)/\n=((m+sizC c:Nat):Int))->
    ∀m':Nat,(m:Int)=(m':Int)->b=(supC c&&decide (m'+sizC c<=1500))/\(b=true->d=(Mf c:Int)/\n=((m'+sizC c:Nat):Int)):=by
   intro d b n h1 h2 m' hm';obtain rfl:m=m':=by omega
   exact⟨h1,h2⟩
  have hw:w64 ((m:Int)+1)=((m+1:Nat):Int):=Xm (by unfold big;omega);unfold Ev;simp only[hw,Zm];by_cases hm1:m+1>1500
  ·have e1:decide (((m+1:Nat):Int)>1500)=true:=Fa (by omega);simp only[e1,Ca];have e2:decide (m+sizC c<=1500)=false:=Ia (by omega);exact⟨_,rfl,fin _ _ _ (by rw[e2,Lc]) (fun h=>by cases h)⟩
  have e1:decide (((m+1:Nat):Int)>1500)=false:=Ia (by omega);simp only[e1,Ba];have hs:=tO c;have hdp:=uC c;cases h7:c.kind==7 with
  |true=>
   rw[h7]at hs hdp;simp only[Ca]at hs hdp ⊢;rw[vJ (show szL c.decl.value<=big by omega),BS (show zq (Zv c.decl)<=big by omega)];simp only[za,Aa,ZI,zX];refine⟨_,rfl,fin _ _ _ ?_ ?_⟩
   ·rw[hs];have hde:Lf c.decl=(Lf c.decl&&(errS c.decl.value==0)):=by unfold Lf;cases sj c.decl.name<;>cases errS c.decl.value==0<;>simp
    cases hle:c.list.isEmpty with
    |false=>rfl
    |true=>
     have hl:c.list=[]:=We.1 hle;rw[hl]at he;have e2:decide (m+sizC c<=1500)=true:=Fa (by rw[he];simp;omega);rw[e2];by_cases her:errS c.decl.value=0
     ·rw[Sa her];cases c.name==[]<;>cases c.num==0<;>cases Lf c.decl<;>rfl
     ·rw[Oa her];have her':=Ea.2 her;rw[her',Lc]at hde;rw[hde];simp only[her'];cases c.name==[]<;>cases c.num==0<;>rfl
   ·intro hf;have her:errS c.decl.value=0:=by
     by_cases her:errS c.decl.value=0
     ·exact her
     ·rw[Oa her]at hf;have her':=Ea.2 her;simp only[her']at hf;revert hf;cases c.list.isEmpty<;>cases c.name==[]<;>cases c.num==0<;>intro h<;>cases h
    have hl:c.list=[]:=by
     cases hle:c.list.isEmpty with
     |true=>exact We.1 hle
     |false=>rw[hle]at hf;cases hf
    have h1:=lm c.decl.value;rw[Sa her,hdp];rw[hl]at he;simp only[Xm (show Zc c.decl.value<=big by omega)];refine⟨by rw[Re],?_⟩;rw[he];rfl
  |false=>
   rw[h7]at hs hdp;simp only[Ba]at hs hdp ⊢;cases h8:c.kind==8 with
   |true=>
    rw[h8]at hs hdp;simp only[Ca]at hs hdp ⊢;simp only[za,Aa,ZI,zX,Ep];refine⟨_,rfl,fin _ _ _ ?_ ?_⟩
    ·rw[hs];cases hle:c.list.isEmpty with
     |false=>rfl
     |true=> have hl:c.list=[]:=We.1 hle;rw[hl]at he;have e2:decide (m+sizC c<=1500)=true:=Fa (by rw[he];simp;omega);rw[e2];cases Hg c<;>rfl
    ·intro hf;have hl:c.list=[]:=by
      cases hle:c.list.isEmpty with
      |true=>exact We.1 hle
      |false=>rw[hle]at hf;cases hf
     rw[hl]at he;rw[hdp,he];exact⟨rfl,rfl⟩
   |false=>
    rw[h8]at hs hdp;simp only[Ba]at hs hdp ⊢;have hj: ∀{R:Type} (k:Bool->Option R),Zi (X:=Bool) (bif c.kind==3 then some (LX.out (c.kind==3))else bif c.kind==1 then some (LX.out (c.kind==1))else some (LX.out (c.kind==2))) k=k (c.kind==3||(c.kind==1||c.kind==2)):=by intro R k;cases c.kind==3<;>cases c.kind==1<;>rfl
    rw[hj];cases hk:(c.kind==3||(c.kind==1||c.kind==2))with
    |false=>
     rw[hk]at hs;exact⟨_,rfl,fin _ _ _ (by rw[hs];rfl) (fun h=>by cases h)⟩
    |true=>
     rw[hk]at hs;simp only[Ca,aa]at hs ⊢;have hg:(bif bif !Hg c then true else bif c.kind==3 then(c.list.length:Int) != 1 else false then true else bif c.kind != 3 then decide ((c.list.length:Int)<2)else false)= !(Hg c&&(bif c.kind==3 then c.list.length==1 else decide (2<=c.list.length))):=by rw[vU,bne,bne,TY];cases Hg c<;>cases c.kind==3<;>cases c.list.length==1<;>rfl
     simp only[Ep,za,Aa,hg];cases hb:(Hg c&&(bif c.kind==3 then c.list.length==1 else decide (2<=c.list.length)))with
     |false=>
      rw[<-Vh,hb]at hs;exact⟨_,rfl,fin _ _ _ (by rw[hs];rfl) (fun h=>by cases h)⟩
     |true=>
      rw[<-Vh,hb,aa]at hs;simp only[Ya,Ba];refine Lx (A:=Nat×Nat) c.list.length (fun i a=>(((a.1:Int),(i:Int)),(a.2:Int))) (fun i a=>a.2=m+1+((c.list.take i).map sizC).sum/\a.2<=1500/\a.1=mx Yf (c.list.take i)/\(c.list.take i).all supC=true) _ (a0:=(0,m+1)) rfl ⟨by simp,by show m+1<=1500;omega,by simp[mx],by simp⟩ (fun i a hi hI=> ?_) (fun a hI=> .inl ?_)
      ·obtain⟨i1,i2,i3,i4⟩:=hI;have ht:=Xy sizC c.list (i+1);rw[Oo sizC hi]at ht;have hmm:=qW (Ha hi);obtain⟨y,hy1,hy2⟩:=hS (c.list[i],(a.2:Int)) ⟨by show zq (zk c.list[i])<=big;omega,a.2,rfl,i2⟩ hmm;obtain⟨hy3,hy4⟩:=hy2 a.2 rfl;have hy3:y.1.2=(supC c.list[i]&&decide (a.2+sizC c.list[i]<=1500)):=hy3;simp only[zO hi,Ca,zM hi,Aa,Zm,hy1];cases hf:y.1.2 with
       |false=>
        refine .inr (.inl ⟨_,rfl,fin _ _ _ ?_ (fun h=>by cases h)⟩);rw[hf]at hy3;cases hsi:supC c.list[i]with
        |false=>rw[hs,zLg hi hsi];rfl
        |true=> rw[hsi,aa]at hy3;have:=De hy3.symm;have e2:decide (m+sizC c<=1500)=false:=Ia (by omega);rw[e2,Lc]
       |true=>
        obtain⟨hy5,hy6⟩:=hy4 hf;rw[hf]at hy3;have hy3:=hy3.symm;rw[Da]at hy3;have hle:=Ib hy3.2;have hdl:=tC c.list[i];have hy5:y.1.1=(Mf c.list[i]:Int):=hy5;have hy6:y.2=((a.2+sizC c.list[i]:Nat):Int):=hy6;refine .inl ⟨(max a.1 (Yf c.list[i]),a.2+sizC c.list[i]),?_,?_,hle,?_,?_⟩
        ·have hst:Yf c.list[i]=(bif Ih c.list[i]then 0 else 1)+Mf c.list[i]:=rfl;have hw2:=Xm (n:=Mf c.list[i]) (by omega);simp only[Ya,Ba,zAg,Aa,hy5,hy6,hw2,zG hi (show c.list.length<=big by omega)];cases hlf:Ih c.list[i]with
         |true=> rw[hlf]at hst;rw[Ca,jc]at hst;simp only[Ya,Ba,zI,hst,Mj]
         |false=> rw[hlf]at hst;rw[Ba,Re]at hst;simp only[Ua,Ca,zI,hst,Mj]
        ·rw[Oo sizC hi,i1];show _+_+_+_=_;omega
        ·rw[dw Yf hi,i3]
        ·rw[Ju supC hi,i4,hy3.1];rfl
      ·rw[Vd]at hI;obtain⟨i1,i2,i3,i4⟩:=hI;refine⟨((a.1:Int),(a.2:Int)),?_,_,rfl,fin _ _ _ ?_ (fun _=>⟨?_,?_⟩)⟩
       ·simp only[zW,Ba]
       ·have e2:decide (m+sizC c<=1500)=true:=Fa (by omega);rw[hs,i4,e2];rfl
       ·rw[hdp,i3]
       ·show(a.2:Int)=_;rw[i1,he];congr 1;omega
 obtain⟨y,h1,h2⟩:=key;exact⟨y,h1,h2 m rfl⟩
def Jk(c:zu):Bool:=supC c&&(decide (sizC c<=1500)&&decide (Mf c<=16))
theorem vT{c:zu}(h:zq (zk c)<=big):uz c=some (bif Jk c then 0 else 8):=by
 obtain⟨y,h1,h2,h3⟩:=H8 (m:=0) h (by omega);unfold uz Jk;replace h1:Pk (c,0)=some y:=h1;simp only[Zm,h1,za,Aa];rw[jc]at h2;cases hf:y.1.2 with
 |false=> rw[hf]at h2;rw[<-Vh,<-h2];rfl
 |true=> have e:decide ((Mf c:Int)>16)= !decide (Mf c<=16):=Tg _ 16;rw[(h3 hf).1,e];rw[hf]at h2;rw[<-Vh,<-h2];cases decide (Mf c<=16)<;>rfl
theorem zmV{c:zu}(h:zq (zk c)<=big):FH c=some (Jk c):=by
 obtain⟨r,h1,h2,h3,h4⟩:=MS (m:=1500) h (by unfold big;omega);replace h1:QD (c,1500)=some (r:Int):=h1;have e:decide ((Mf c:Int)<=16)=decide (Mf c<=16):=gp _ 16;have e2:decide ((r:Int)<=1500)=decide (sizC c<=1500):=by
  by_cases hs:sizC c<=1500
  ·rw[Fa hs,h3 hs,Fa (by omega)]
  ·have:=h4 (by omega);rw[Ia hs,Ia (by omega)]
 unfold FH Jk;simp only[Zm,h1,za,Aa,AR h,zon h,zX,e2];cases decide (sizC c<=1500)with
 |false=>simp
 |true=>simp only[Ca,e];cases decide (Mf c<=16)<;>cases supC c<;>rfl
--< pulled
--p pK
theorem pK(l:Str)(m:Int):xu (l,m)=some (decide ((l.length:Int)>m)|| !Qs l):=by
 unfold xu;simp only[Pv,zX,za,Aa];cases decide ((l.length:Int)>m)with
 |true=>rfl
 |false=>exact congrArg some (iw l)
--p BL
theorem BL(l:Str):Sv l=some (bg l):=by unfold Sv bg;simp only[pK,zX,za,Aa];have:decide ((l.length:Int)>64)= !decide (l.length<=64):=Tg _ 64;rw[this];cases l==[]<;>cases decide (l.length<=64)<;>cases Qs l<;>rfl
--p kK
theorem kK{l:Str}(m:Int)(h:l.length<=big):ky (l,m)=some (Qs l&&decide ((l.length:Int)<=m)):=by
 unfold ky;refine(qf l (fun b=>bif (!(b==0))then none else some false) () (fun i hi=> ?_) ?_).trans ?_
 ·simp only[zO hi,Ca,zM hi,za,Aa,byte_zero,zG hi h];cases l[i]==0<;>rfl
 ·simp only[zW,Ba]
 ·rw[Bi];show _=some (Qs l&&_);unfold Qs;cases l.all (fun b=> !(b==0))<;>rfl
--p NF
theorem NF{l:Str}(h:l.length<=big):Er l=some (bg l):=by
 unfold Er bg;simp only[kK _ h,zX,za,Aa];have:decide ((l.length:Int)<=64)=decide (l.length<=64):=by
  by_cases h:l.length<=64
  ·rw[Fa h,Fa (by omega)]
  ·rw[Ia h,Ia (by omega)]
 rw[this];cases l==[]<;>cases decide (l.length<=64)<;>cases Qs l<;>rfl
--p AL
theorem AL{l:Str}(h:l.length<=big):Jv l=some (Vl l):=by unfold Jv Vl;simp only[BL,pq h,zX,za,Aa];cases bg l<;>rfl
--p lK
theorem lK{l:Str}(h:l.length<=big):ny l=some (Vl l):=by
 unfold ny Vl;simp only[NF h,Ay h,zX,za,Aa];cases bg l
 ·rfl
 ·exact congrArg some (fD l (lowS l))
--p yK
theorem yK(l:Str):Sz l=some (!bg l):=by unfold Sz bg;simp only[Pv,zX,za,Aa];have:decide ((l.length:Int)>64)= !decide (l.length<=64):=Tg _ 64;rw[this];cases l==[]<;>cases decide (l.length<=64)<;>first|rfl|exact congrArg some (iw l)
--p oZ
theorem oZ{l:List Str}(h:l.length<=big):Qw l=some (idxS (fun v=> !bg v) l):=by
 unfold Qw;refine Li l _ h (fun i hi=> ?_) ?_
 ·simp only[zO hi,Ca,zM hi,za,Aa,yK]
 ·simp only[zW,Ba]
--p DR
theorem DR{l:List Str}(h:l.length<=big):qK l=some (!l.all bg):=by unfold qK;exact Dl (oZ h) ((Mk _ _).trans (Iq _ _))
--p dP
theorem dP{l:List Str}(h:l.length<=big):JE l=some (Ig l):=by
 unfold JE Ig;have e1:decide ((l.length:Int)>0)= !l.isEmpty:=by
  cases l with
  |nil=>rfl
  |cons a l=>exact Fa (by simp only[Ga];omega)
 have e2:decide ((l.length:Int)<=16)=decide (l.length<=16):=gp _ 16;simp only[DR h,zX,za,Aa,e1,e2];cases l.isEmpty<;>cases decide (l.length<=16)<;>cases l.all bg<;>rfl
--p RQ
theorem RQ{l:List Str}(h:l.length<=big)(hv: ∀v∈l,v.length<=big):yu l=some (Ig l):=by
 unfold yu Ig;have e2:decide ((l.length:Int)>16)= !decide (l.length<=16):=Tg _ 16;rw[wy,e2];have e3: ∀(k:Unit->Option Bool),k ()=some true->zU (fun(s1:Int)=>
    bif decide (s1<(l.length:Int))then
     za (geti l s1) fun y2=>
     za (Er y2) fun y3=>
     bif !y3 then
      some (LO.ret false)
     else
      some (LO.again (w64 (s1+1)))
    else
     some (LO.out ())) 0 k=some (l.all bg):=by
  intro k hk;refine(qf l (fun b=>bif bg b then none else some false) () (fun i hi=> ?_) ?_).trans ?_
  ·simp only[zO hi,Ca,zM hi,za,Aa,NF (hv _ (Ha hi)),zG hi h];cases bg l[i]<;>rfl
  ·simp only[zW,Ba]
  ·rw[Bi];cases l.all bg
   ·rfl
   ·exact hk
 rw[e3 _ rfl];cases l.isEmpty<;>cases decide (l.length<=16)<;>rfl
--p Qp
theorem Qp(x:zm):zq (zf x)=3+zL zZ x.parts+x.combs.length:=by rw[KH];simp only[zq,bPV,mU,zL];omega
--p qI
theorem qI(x:zQ):zq (zZ x)=2+x.tag.length+zL zY x.simples:=by rw[aH];simp only[zq,bPV,zL];omega
--p Qq
theorem Qq(x:zJ):zq (zY x)=9+x.name.length+x.value.length+zL zf x.list:=by rw[dG];simp only[zq,bPV,zL];omega
--p uN
theorem uN(x:List Str):zq [.sl (x.map fun y=>[.str y])]=1+zL (fun y=>[.str y]) x:=by simp only[zq,bPV,zL];omega
--p Mi
theorem Mi(x:zN):zq (zy x)=5+zL zf x.selectors+zL Zv x.decls+zq (zk x.cond)+zL (fun l=>[.sl (l.map fun y=>[.str y])]) x.names+zL zy x.rules:=by rw[sF,Ik,qX];simp only[zq,bPV,zL];omega
--p qH
theorem qH(x:zm):1<=zq (zf x):=by have:=Qp x;omega
--p Qx
theorem Qx(x:zQ):1<=zq (zZ x):=by have:=qI x;omega
--p Gm
theorem Gm(x:zJ):1<=zq (zY x):=by have:=Qq x;omega
--p Rk
theorem Rk(x:zN):1<=zq (zy x):=by have:=Mi x;omega
--p Nh
def Nh(c:zu):Bool:=c.kind==0&&(c.list.isEmpty&&Hg c)
--p eP
theorem eP(c:zu):gu c=some (Nh c):=by unfold gu Nh Hg Jj;rw[ZI,ZI];cases c.kind==0<;>cases c.name==[]<;>cases c.num==0<;>cases c.list.isEmpty<;>cases c.decl.name==[]<;>cases c.decl.value.isEmpty<;>rfl
--p OP
theorem OP(c:zu):au c=some (Nh c):=by
 unfold au;have:Sk (c,(⟨0,[],0,(⟨[],[],false⟩:Zu),[]⟩:zu))=some (Nh c):=by
  refine ZG (fun _=>0) (fun x:zu×zu=>x.2=(⟨0,[],0,(⟨[],[],false⟩:Zu),[]⟩:zu)) (fun x=>Nh x.1) (fun S x hx _=> ?_) (x:=(c,_)) rfl;obtain⟨c,m⟩:=x;obtain rfl:m=_:=hx;have e5:oo (c.decl,(⟨[],[],false⟩:Zu))=some (Jj c.decl):=by unfold oo Jj;simp only[zKj,zX,za,Aa];cases c.decl.name==[]<;>cases c.decl.important<;>cases c.decl.value.isEmpty<;>rfl
  have el:((c.list.length:Int) != (([]:List zu).length:Int))= !c.list.isEmpty:=by rw[bne,Eb,Int.natCast_zero,ZI]
  unfold Kz Nh Hg;simp only[e5,el,zX,za,Aa,bne];cases c.kind==0 with
  |false=>rfl
  |true=>
   cases hl:c.list with
   |cons y r=>cases c.name==[]<;>cases c.num==0<;>cases Jj c.decl<;>rfl
   |nil=>
    cases c.name==[]<;>cases c.num==0<;>cases Jj c.decl<;>try rfl
    refine(qf ([]:List zu) (fun _=>none) () (fun i hi=>by cases hi) ?_).trans rfl;simp only[Eb,zW,Ba]
 simp only[Zm,this,za,Aa]
--p bP
theorem bP{c:zu}(h:zq (zk c)<=big): ∃y:Int,ol c=some y/\(supC c=true->y=(Mf c:Int)):=by
 refine El zst (fun c=>zq (zk c)) (fun c=>zq (zk c)<=big) (fun c (y:Int)=>supC c=true->y=(Mf c:Int)) (fun S c hc hS=> ?_) h;have hlen:=Qb c;have hv:=Lh c.decl.value;have hz:=Ik c;have hzd:=qX c.decl;have hs:=tO c;have hdp:=uC c;unfold tu;cases h7:c.kind==7 with
 |true=>
  rw[h7]at hs hdp;simp only[Ca]at hs hdp ⊢;rw[vJ (show szL c.decl.value<=big by omega)];refine⟨_,rfl,fun h=> ?_⟩;have her:errS c.decl.value=0:=by rw[hs]at h;unfold Lf at h;simp only[Da,Db]at h;exact h.2.2.2.2.1
  have h1:=lm c.decl.value;rw[Sa her,hdp,Xm (show Zc c.decl.value<=big by omega),Re]
 |false=>
  rw[h7]at hs hdp;simp only[Ba]at hs hdp ⊢;cases h8:c.kind==8 with
  |true=> rw[h8]at hdp;exact⟨_,rfl,fun _=>by rw[hdp];rfl⟩
  |false=>
   rw[h8]at hs hdp;simp only[Ba]at hs hdp ⊢;refine Lx (A:=Int) c.list.length (fun i a=>(a,(i:Int))) (fun i a=>supC c=true->a=(mx Yf (c.list.take i):Int)) _ (a0:=0) rfl (fun _=>by simp[mx]) (fun i a hi hI=> .inl ?_) (fun a hI=> .inl ?_)
   ·have hm:=qW (Ha hi);obtain⟨y,hy1,hy2⟩:=hS c.list[i] (by omega) hm;have hlf:(bif c.list[i].kind != 7 then c.list[i].kind != 8 else false)= !Ih c.list[i]:=by unfold Ih;rw[bne,bne];cases c.list[i].kind==7<;>rfl
    refine⟨if(bif Ih c.list[i]then y else w64 (y+1))>a then(bif Ih c.list[i]then y else w64 (y+1))else a,?_,fun h=> ?_⟩
    ·simp only[zO hi,Ca,zM hi,za,Aa,Zm,hy1,hlf,zG hi (show c.list.length<=big by omega)];cases Ih c.list[i]<;>rfl
    ·have ha:=hI h;have hall:c.list.all supC=true:=by rw[hs]at h;simp only[Da]at h;exact h.2.2.2
     have hy:=hy2 (Pb.1 hall _ (Ha hi));have hst:Yf c.list[i]=(bif Ih c.list[i]then 0 else 1)+Mf c.list[i]:=rfl;have hdl:=tC c.list[i];rw[dw Yf hi,ha,hy];cases hlf2:Ih c.list[i]with
     |true=> rw[hlf2,Ca,jc]at hst;simp only[Ca,<-hst,Mj]
     |false=> rw[hlf2,Ba,Re]at hst;simp only[Ba,Xm (show Mf c.list[i]<=big by omega),<-hst,Mj]
   ·refine⟨a,?_,a,rfl,fun h=> ?_⟩
    ·simp only[zW,Ba]
    ·rw[hI h,Vd,hdp]
--> pulled
theorem xy(c:zm):(⟨c.lead,c.parts,c.combs⟩:zm)=c:=by cases c;rfl
theorem oQ(c:zQ):(⟨c.tag,c.simples⟩:zQ)=c:=by cases c;rfl
theorem Qi(c:zJ):(⟨c.kind,c.name,c.op,c.value,c.fold,c.anb,c.of_,c.list⟩:zJ)=c:=by cases c;rfl
def IB(n:Int):Bool:=decide (-1000000000<=n)&&decide (n<=1000000000)
def anbS(a:VAnb):Bool:=IB a.a&&IB a.b
def anb0(a:VAnb):Bool:=a.a==0&&a.b==0
def PI(x:zJ):Bool:=x.op==0&&(x.value==[]&&(!x.fold&&(anb0 x.anb&& !x.of_)))
def jr(x:zJ):Bool:=
 bif x.kind==1||x.kind==2 then bg x.name&&PI x
 else bif x.kind==3 then Vl x.name&&(decide (x.op<=6)&&((Qs x.value&&decide (x.value.length<=400))&&((!(x.op==0)||x.value==[]&& !x.fold)&&(anb0 x.anb&& !x.of_))))
 else bif x.kind==9||x.kind==10 then anbS x.anb&&(x.name==[]&&(x.op==0&&(x.value==[]&& !x.fold)))
 else(decide (4<=x.kind)&&decide (x.kind<=14))&&(x.name==[]&&PI x)
def hasS(x:zJ):Bool:=bif x.kind==9||x.kind==10 then x.of_ else decide (11<=x.kind)&&decide (x.kind<=14)
def Vs(x:zJ):Bool:=x.kind==11||x.kind==12
def Ii(b:UInt8):Bool:=decide (1<=b.toNat)&&decide (b.toNat<=4)
def tagS(t:Str):Bool:=t==[]||(t==[42]||Vl t)
def bA(c:zQ):Bool:=tagS c.tag&&((!(c.tag==[])|| !c.simples.isEmpty)&&decide (c.simples.length<=64))
def Fj(c:zm)(b:Bool):Bool:=(b==(c.lead != 0))&&(decide (c.lead<=4)&&(decide (c.combs.length+1=c.parts.length)&&(decide (c.parts.length<=64)&&c.combs.all Ii)))
mutual
def Ag:zm->Nat->Bool->Bool->Bool
 |⟨lead,parts,combs⟩,d,h,b=>Fj ⟨lead,parts,combs⟩ b&&nA parts d h
def nA:List zQ->Nat->Bool->Bool
 |[],_,_=>true
 |c::r,d,h=>Qz c d h&&nA r d h
def Qz:zQ->Nat->Bool->Bool
 |⟨tag,simples⟩,d,h=>bA ⟨tag,simples⟩&&sw simples d h
def sw:List zJ->Nat->Bool->Bool
 |[],_,_=>true
 |x::r,d,h=>Ki x d h&&sw r d h
def Ki:zJ->Nat->Bool->Bool
 |⟨kind,name,op,value,fold,anb,of_,list⟩,d,h=>jr ⟨kind,name,op,value,fold,anb,of_,list⟩&&
   (bif hasS ⟨kind,name,op,value,fold,anb,of_,list⟩then
    !(d==3||h&&kind==14)&&((Vs ⟨kind,name,op,value,fold,anb,of_,list⟩|| !list.isEmpty)&&UA list (d+1) (h||kind==14) (kind==14))
   else list.isEmpty)
def UA:List zm->Nat->Bool->Bool->Bool
 |[],_,_,_=>true
 |c::r,d,h,b=>Ag c d h b&&UA r d h b
end
theorem MJ(c:zm)(d:Nat)(h b:Bool):Ag c d h b=(Fj c b&&c.parts.all fun c=>Qz c d h):=by
 obtain⟨lead,parts,combs⟩:=c;rw[Ag];have: ∀l,nA l d h=l.all fun c=>Qz c d h:=by
  intro l
  induction l with
  |nil=>rw[nA];rfl
  |cons c l ih=>rw[nA,ih];rfl
 rw[this]
theorem CL(c:zQ)(d:Nat)(h:Bool):Qz c d h=(bA c&&c.simples.all fun x=>Ki x d h):=by
 obtain⟨tag,simples⟩:=c;rw[Qz];have: ∀l,sw l d h=l.all fun c=>Ki c d h:=by
  intro l
  induction l with
  |nil=>rw[sw];rfl
  |cons c l ih=>rw[sw,ih];rfl
 rw[this]
theorem zGX(l:List zm)(d:Nat)(h b:Bool):UA l d h b=l.all fun c=>Ag c d h b:=by
 induction l with
 |nil=>rw[UA];rfl
 |cons c l ih=>rw[UA,ih];rfl
theorem JQ(x:zJ)(d:Nat)(h:Bool):Ki x d h=(jr x&&
   (bif hasS x then !(d==3||h&&x.kind==14)&&((Vs x|| !x.list.isEmpty)&&x.list.all fun c=>Ag c (d+1) (h||x.kind==14) (x.kind==14))else x.list.isEmpty)):=by
 obtain⟨kind,name,op,value,fold,anb,of_,list⟩:=x;rw[Ki,zGX]
theorem pQ(a:VAnb):Vu a=some (bif anbS a then 0 else 8):=by unfold Vu EE anbS IB;simp only[zX,za,Aa];cases decide (-1000000000<=a.a)<;>cases decide (a.a<=1000000000)<;>cases decide (-1000000000<=a.b)<;>cases decide (a.b<=1000000000)<;>rfl
theorem aQ{d:Nat}(hd:d<=3)(h:Bool)(k:Int):QM (⟨(d:Int),h⟩,k)=some (bif d==3||h&&k==14 then(⟨0,false⟩,false)else(⟨((d+1:Nat):Int),h||k==14⟩,true)):=by
 unfold QM;have e1:((d:Int)==3)=(d==3):=by
  by_cases hh:d=3
  ·subst hh;rfl
  ·rw[Ea.2 hh,Ea.2 (by omega)]
 simp only[e1];have e2:d≠3->w64 ((d:Int)+1)=((d+1:Nat):Int):=fun hh=>zG (n:=4) (by omega) (by decide);cases hb:(d==3)with
 |true=>rfl
 |false=> rw[e2 (by simpa using hb)];cases h<;>cases (k==14)<;>rfl
theorem zJP(x:zJ):yF x=some (hasS x,bif x.kind==9||x.kind==10 then false else !(x.kind==13||x.kind==14)):=by
 unfold yF hasS;by_cases h9:x.kind=9
 ·simp[h9]
 by_cases h10:x.kind=10
 ·simp[h10]
 by_cases h11:x.kind=11
 ·simp[h11]
 by_cases h12:x.kind=12
 ·simp[h12]
 by_cases h13:x.kind=13
 ·simp[h13]
 by_cases h14:x.kind=14
 ·simp[h14]
 have e:(decide (11<=x.kind)&&decide (x.kind<=14))=false:=by
  rw[Og];by_cases hh:11<=x.kind
  ·exact .inr (Ia (by omega))
  ·exact .inl (Ia hh)
 have b9:=Ea.2 h9;have b10:=Ea.2 h10;have b11:=Ea.2 h11;have b12:=Ea.2 h12;have b13:=Ea.2 h13;have b14:=Ea.2 h14;simp only[b9,b10,b11,b12,b13,b14,e,Ba,zI,Gg,Ua]
theorem zGm{x:zJ}(h1:x.name.length<=big)(k:Option Bool)(hk:k=some true):
  ((bif bif bif !(x.kind==3)then bif bif x.op != 0 then true else !(x.value==[])then true else x.fold else false then true else bif !(bif x.kind==9 then true else x.kind==10)then bif x.of_ then true else !(x.anb.a==0&&(x.anb.b==0&&true))else false then
  some false
 else
  Zi (X:=Bool) (
    bif x.kind==1 then
     some (LX.out (x.kind==1))
    else
     some (LX.out (x.kind==2))) fun j5=>
  bif j5 then
   za (Sv x.name) fun y6=>
   some y6
  else
   bif x.kind==3 then
    za (Jv x.name) fun y7=>
    za (zF (bif y7 then decide (x.op<=6)else false) (xu (x.value,400)) (default:Bool)) fun y8=>
    some (bif bif bif y7 then decide (x.op<=6)else false then !y8 else false then bif x.op != 0 then true else bif x.value==[]then !x.fold else false else false)
   else
    za (zF (!(!(bif x.kind==9 then true else x.kind==10))&&(bif bif x.name==[]then decide (x.kind>=4)else false then decide (x.kind<=14)else false)) (Vu x.anb) (default:Int)) fun y9=>
    some (bif bif bif x.name==[]then decide (x.kind>=4)else false then decide (x.kind<=14)else false then bif !(bif x.kind==9 then true else x.kind==10)then true else y9==0 else false)):Option Bool)=some (jr x):=by
 have e400:decide ((x.value.length:Int)>400)= !decide (x.value.length<=400):=Tg _ 400;simp only[BL,AL h1,pK,pQ,zX,za,Aa,e400,bne,ge_iff_le];unfold jr PI anb0;generalize bg x.name=a1;generalize Vl x.name=a2;generalize Qs x.value=a3;generalize decide (x.value.length<=400)=a4;generalize decide (x.op<=6)=a5;generalize (x.op==0)=a6;generalize (x.value==[])=a7;generalize (x.name==[])=a8;generalize (x.anb.a==0)=a9;generalize (x.anb.b==0)=a10;generalize anbS x.anb=a11;generalize x.fold=a12;generalize x.of_=a13;have fin: ∀kd:Int,kd=1\/kd=2\/kd=3\/kd=9\/kd=10->x.kind=kd->True:=fun _ _ _=>trivial;clear e400 hk fin h1;by_cases k1:x.kind=1
 ·simp only[k1];revert a1 a2 a3 a4 a5 a6 a7 a8 a9 a10 a11 a12 a13;clear k1 k x;decide+kernel
 by_cases k2:x.kind=2
 ·simp only[k2];revert a1 a2 a3 a4 a5 a6 a7 a8 a9 a10 a11 a12 a13;clear k1 k2 k x;decide+kernel
 by_cases k3:x.kind=3
 ·simp only[k3];revert a1 a2 a3 a4 a5 a6 a7 a8 a9 a10 a11 a12 a13;clear k1 k2 k3 k x;decide+kernel
 by_cases k9:x.kind=9
 ·simp only[k9];revert a1 a2 a3 a4 a5 a6 a7 a8 a9 a10 a11 a12 a13;clear k1 k2 k3 k9 k x;decide+kernel
 by_cases k10:x.kind=10
 ·simp only[k10];revert a1 a2 a3 a4 a5 a6 a7 a8 a9 a10 a11 a12 a13;clear k1 k2 k3 k9 k10 k x;decide+kernel
 simp only[Ea.2 k1,Ea.2 k2,Ea.2 k3,Ea.2 k9,Ea.2 k10];generalize decide (4<=x.kind)=a14;generalize decide (x.kind<=14)=a15;clear k1 k2 k3 k9 k10 k x;revert a1 a2 a3 a4 a5 a6 a7 a8 a9 a10 a11 a12 a13 a14 a15;decide+kernel
def fP(z:zm×zh×Bool):Bool:=Ag z.1 z.2.1.deep.toNat z.2.1.has z.2.2
def okPl(z:zm×zh×Bool):Prop:=zq (zf z.1)<=big/\ ∃d:Nat,d<=3/\z.2.1.deep=(d:Int)
section
variable {S:zm×zh×Bool->Option Bool} {N:Nat} (hS: ∀z,okPl z->zq (zf z.1)<N->S z=some (fP z)) (hN:N<=big)
include hS hN
theorem hSel{c:zm}{d:Nat}{h b:Bool}(hc:zq (zf c)<N)(hd:d<=3):S (c,⟨(d:Int),h⟩,b)=some (Ag c d h b):=
 hS (c,⟨(d:Int),h⟩,b) ⟨by show zq (zf c)<=big;omega,d,hd,rfl⟩ hc
theorem zCa{x:zJ}(hx:zq (zY x)<=N){d:Nat}(hd:d<=3)(h:Bool):
  qC S (x.list,⟨(d:Int),h⟩,x)=some (!x.list.all fun c=>Ag c d h (x.kind==14)):=by
 have hz:=Qq x;have hlen:=ZF qH x.list;unfold qC wL;refine Dl (Li x.list (fun c=> !Ag c d h (x.kind==14)) (by omega) (fun i hi=> ?_) ?_) ((Mk _ _).trans (Iq _ _))
 ·have hm:=ZU (f:=zf) (Ha hi);simp only[zO hi,Ca,zM hi,za,Aa,XL,xy];rw[hSel hS hN (by omega) hd];rfl
 ·simp only[zW,Ba]
theorem zCX{x:zJ}(hx:zq (zY x)<=N){d:Nat}(hd:d<=3)(h:Bool):Xz S (x,⟨(d:Int),h⟩)=some (Ki x d h):=by
 have hz:=Qq x;rw[JQ];unfold Xz;simp only[Qi,zJP,za,Aa,aQ hd,ZI,nk];have hflat:=zGm (x:=x) (by omega) (some true) rfl;simp only[za]at hflat;have go: ∀(j:Option (LX Unit Bool)) (b:Bool),j=some (bif b then .out ()else .ret false)->(Zi j fun _=>some (jr x))=some (jr x&&b):=by
  intro j b hj;subst hj;cases b with
  |true=>simp only[Ca,zI,Rb]
  |false=>simp only[Ba,zAE,Lc]
 rw[hflat];refine go _ _ ?_;cases hh:hasS x with
 |false=>cases x.list.isEmpty<;>rfl
 |true=>
  simp only[Ca];have he:(bif x.kind==9||x.kind==10 then false else !(x.kind==13||x.kind==14))=Vs x:=by
   unfold Vs;unfold hasS at hh;by_cases h9:x.kind=9
   ·simp only[h9];rfl
   by_cases h10:x.kind=10
   ·simp only[h10];rfl
   simp only[Ea.2 h9,Ea.2 h10,Gg,Ba,Da,ja]at hh ⊢;have:x.kind=11\/x.kind=12\/x.kind=13\/x.kind=14:=by omega
   rcases this with h|h|h|h<;>(rw[h];rfl)
  cases hp:(d==3||h&&x.kind==14)with
  |true=>rfl
  |false=>
   have hd3:d≠3:=by intro hc;rw[hc]at hp;cases hp
   simp only[Ba,zCa hS hN hx (show d+1<=3 by omega),zX,Aa,he];cases Vs x<;>cases x.list.isEmpty<;>cases x.list.all (fun c=>Ag c (d+1) (h||x.kind==14) (x.kind==14))<;>rfl
theorem IR{c:zQ}(hx:zq (zZ c)<=N){d:Nat}(hd:d<=3)(h:Bool):Tv S (c,⟨(d:Int),h⟩)=some (Qz c d h):=by
 have hz:=qI c;have hlen:=ZF Gm c.simples;have e64:decide ((c.simples.length:Int)>64)= !decide (c.simples.length<=64):=Tg _ 64;rw[CL];unfold Tv bA tagS;have hl: ∀b:Bool,zU (fun(s2:Int)=>
    bif decide (s2<(c.simples.length:Int))then
     za (geti c.simples s2) fun y3=>
     za (Xz S ((⟨y3.kind,y3.name,y3.op,y3.value,y3.fold,y3.anb,y3.of_,y3.list⟩:zJ),⟨(d:Int),h⟩)) fun y4=>
     bif !y4 then
      some (LO.ret false)
     else
      some (LO.again (w64 (s2+1)))
    else
     some (LO.out ())) 0 (fun _=>some b)=some (b&&c.simples.all fun x=>Ki x d h):=by
  intro b;refine(qf c.simples (fun x=>bif Ki x d h then none else some false) () (fun i hi=> ?_) ?_).trans ?_
  ·have hm:=ZU (f:=zY) (Ha hi);simp only[zO hi,Ca,zM hi,za,Aa,Qi,zCX hS hN (show zq (zY c.simples[i])<=N by omega) hd h,zG hi (show c.simples.length<=big by omega)];cases Ki c.simples[i] d h<;>rfl
  ·simp only[zW,Ba]
  ·rw[Bi];cases c.simples.all fun x=>Ki x d h
   ·cases b<;>rfl
   ·cases b<;>rfl
 simp only[AL (show c.tag.length<=big by omega),zX,za,Aa,e64,nk]at hl ⊢;rw[hl];cases c.tag==[]<;>cases c.tag==[42]<;>cases Vl c.tag<;>cases decide (c.simples.length<=64)<;>cases c.simples.isEmpty<;>rfl
end
theorem iP{c:zm}{d:Nat}{h b:Bool}(hc:zq (zf c)<=big)(hd:d<=3):zB (c,⟨(d:Int),h⟩,b)=some (Ag c d h b):=by
 refine ZG (fun z=>zq (zf z.1)) okPl fP (fun S z hz hS=> ?_) (x:=(c,⟨(d:Int),h⟩,b)) ⟨hc,d,hd,rfl⟩;obtain⟨c,⟨dp,h⟩,b⟩:=z;obtain⟨hc,d,hd,he⟩:=hz;have he:dp=(d:Int):=he;subst he;have hc:zq (zf c)<=big:=hc;have hzc:=Qp c;have hlen:=ZF Qx c.parts;show _=some (Ag c ((d:Int).toNat) h b);rw[Cb,MJ];unfold lG Fj;have e1:decide (c.lead>4)= !decide (c.lead<=4):=by
  by_cases hh:c.lead<=4
  ·rw[Fa hh,Ia (by omega)];rfl
  ·rw[Ia hh,Fa (by omega)];rfl
 have e2:(w64 ((c.combs.length:Int)+1) != (c.parts.length:Int))= !decide (c.combs.length+1=c.parts.length):=by
  rw[zG (n:=big) (i:=c.combs.length) (by omega) (Xa _)];by_cases hh:c.combs.length+1=c.parts.length
  ·rw[Fa hh,hh];simp
  ·rw[Ia hh];simp;omega
 have e3:decide ((c.parts.length:Int)>64)= !decide (c.parts.length<=64):=Tg _ 64;have hcon:qJ S (c.parts,⟨(d:Int),h⟩)=some (!c.parts.all fun x=>Qz x d h):=by
  unfold qJ IM;refine Dl (Li c.parts (fun x=> !Qz x d h) (by omega) (fun i hi=> ?_) ?_) ((Mk _ _).trans (Iq _ _))
  ·have hm:=ZU (f:=zZ) (Ha hi);simp only[zO hi,Ca,zM hi,za,Aa,RL,oQ];rw[IR (N:=zq (zf c)) hS (by omega) (by omega) hd];rfl
  ·simp only[zW,Ba]
 have hl: ∀p:Bool,zU (fun(s1:Int)=>
    bif decide (s1<(c.combs.length:Int))then
     za (geti c.combs s1) fun y2=>
     bif bif decide ((y2.toNat:Int)<1)then true else decide ((y2.toNat:Int)>4)then
      some (LO.ret false)
     else
      some (LO.again (w64 (s1+1)))
    else
     some (LO.out ())) 0 (fun _=>some p)=some (c.combs.all Ii&&p):=by
  intro p;refine(qf c.combs (fun b=>bif Ii b then none else some false) () (fun i hi=> ?_) ?_).trans ?_
  ·simp only[zO hi,Ca,zM hi,za,Aa,zG hi (show c.combs.length<=big by omega)];have g1:decide ((c.combs[i].toNat:Int)<1)= !decide (1<=c.combs[i].toNat):=by
    by_cases hh:1<=c.combs[i].toNat
    ·rw[Fa hh,Ia (by omega)];rfl
    ·rw[Ia hh,Fa (by omega)];rfl
   have g2:decide ((c.combs[i].toNat:Int)>4)= !decide (c.combs[i].toNat<=4):=Tg _ 4;rw[g1,g2];unfold Ii;cases decide (1<=c.combs[i].toNat)<;>cases decide (c.combs[i].toNat<=4)<;>rfl
  ·simp only[zW,Ba]
  ·rw[Bi];cases c.combs.all Ii<;>rfl
 simp only[hcon,za,Aa,e1,e2,e3,ve]at hl ⊢;rw[hl];cases (b==(c.lead != 0))<;>cases decide (c.lead<=4)<;>cases decide (c.combs.length+1=c.parts.length)<;>cases decide (c.parts.length<=64)<;>rfl
def fR(z:zm×Zq×Bool):Bool:=Ag z.1 z.2.1.deep.toNat z.2.1.has z.2.2
def okR(z:zm×Zq×Bool):Prop:=zq (zf z.1)<=big/\ ∃d:Nat,d<=3/\z.2.1.deep=(d:Int)
theorem zIU{d:Nat}(hd:d<=3)(h:Bool)(k:Int):bE (⟨(d:Int),h⟩,k)=some (bif d==3||h&&k==14 then(⟨(d:Int),h⟩,false)else(⟨((d+1:Nat):Int),h||k==14⟩,true)):=by
 unfold bE;have e1:((d:Int)==3)=(d==3):=by
  by_cases hh:d=3
  ·subst hh;rfl
  ·rw[Ea.2 hh,Ea.2 (by omega)]
 simp only[e1];have e2:d≠3->w64 ((d:Int)+1)=((d+1:Nat):Int):=fun hh=>zG (n:=4) (by omega) (by decide);cases hb:(d==3)with
 |true=>rfl
 |false=> rw[e2 (by simpa using hb)];cases h<;>cases (k==14)<;>rfl
theorem valid_eq(a:VAnb):jE a=some (anbS a):=by unfold jE anbS IB;simp only[ge_iff_le];cases decide (-1000000000<=a.a)<;>cases decide (a.a<=1000000000)<;>cases decide (-1000000000<=a.b)<;>cases decide (a.b<=1000000000)<;>rfl
section
variable {S:zm×Zq×Bool->Option Bool} {N:Nat} (hS: ∀z,okR z->zq (zf z.1)<N->S z=some (fR z)) (hN:N<=big)
include hS hN
theorem hSr{c:zm}{d:Nat}{h b:Bool}(hc:zq (zf c)<N)(hd:d<=3):S (c,⟨(d:Int),h⟩,b)=some (Ag c d h b):=
 hS (c,⟨(d:Int),h⟩,b) ⟨by show zq (zf c)<=big;omega,d,hd,rfl⟩ hc
theorem zGY{x:zJ}(hx:zq (zY x)<=N){d:Nat}(hd:d<=3)(h:Bool):
  Kv S (x.list,⟨(d:Int),h⟩,x.kind)=some (!(d==3||h&&x.kind==14)&&x.list.all fun c=>Ag c (d+1) (h||x.kind==14) (x.kind==14)):=by
 have hz:=Qq x;have hlen:=ZF qH x.list;unfold Kv;simp only[zIU hd,za,Aa];cases hp:(d==3||h&&x.kind==14)with
 |true=>rfl
 |false=>
  have hd3:d≠3:=by intro hc;rw[hc]at hp;cases hp
  simp only[Ba,Ya,Ua,aa];refine(qf x.list (fun c=>bif Ag c (d+1) (h||x.kind==14) (x.kind==14)then none else some false) () (fun i hi=> ?_) ?_).trans ?_
  ·have hm:=ZU (f:=zf) (Ha hi);simp only[zO hi,Ca,zM hi,Aa,xy,zG hi (show x.list.length<=big by omega)];rw[hSr hS hN (by omega) (show d+1<=3 by omega)];simp only[Aa];cases Ag x.list[i] (d+1) (h||x.kind==14) (x.kind==14)<;>rfl
  ·simp only[zW,Ba]
  ·rw[Bi];cases x.list.all fun c=>Ag c (d+1) (h||x.kind==14) (x.kind==14)<;>rfl
theorem zFh{x:zJ}(hx:zq (zY x)<=N){d:Nat}(hd:d<=3)(h:Bool):Nz S (x,⟨(d:Int),h⟩)=some (Ki x d h):=by
 have hz:=Qq x;have h400:decide ((x.value.length:Int)<=400)=decide (x.value.length<=400):=gp _ 400;rw[JQ];unfold Nz Mv;simp only[za,Aa,Qi,zGY hS hN hx hd,NF (show x.name.length<=big by omega),lK (show x.name.length<=big by omega),kK _ (show x.value.length<=big by omega),h400,valid_eq,zX,ZI,nk,bne,ge_iff_le];generalize x.list.all (fun c=>Ag c (d+1) (h||x.kind==14) (x.kind==14))=b1;generalize hb2:(d==3||h&&x.kind==14)=b2;unfold jr PI anb0 hasS Vs;generalize x.list.isEmpty=b3;generalize bg x.name=a1;generalize Vl x.name=a2;generalize Qs x.value=a3;generalize decide (x.value.length<=400)=a4;generalize decide (x.op<=6)=a5;generalize (x.op==0)=a6;generalize (x.value==[])=a7;generalize (x.name==[])=a8;generalize (x.anb.a==0)=a9;generalize (x.anb.b==0)=a10;generalize anbS x.anb=a11;generalize x.fold=a12;generalize x.of_=a13;simp only[Kc];clear hb2 h400 hz hx hS;by_cases k1:x.kind=1
 ·simp only[k1];cases a1<;>cases a6<;>cases a7<;>cases a9<;>cases a10<;>cases a12<;>cases a13<;>rfl
 by_cases k2:x.kind=2
 ·simp only[k2];cases a1<;>cases a6<;>cases a7<;>cases a9<;>cases a10<;>cases a12<;>cases a13<;>rfl
 by_cases k3:x.kind=3
 ·simp only[k3];cases a2<;>cases a3<;>cases a4<;>cases a5<;>cases a6<;>cases a7<;>cases a9<;>cases a10<;>cases a12<;>cases a13<;>rfl
 by_cases k9:x.kind=9
 ·simp only[k9];cases a6<;>cases a7<;>cases a8<;>cases a11<;>cases a12<;>cases a13<;>cases b1<;>cases b2<;>cases b3<;>rfl
 by_cases k10:x.kind=10
 ·simp only[k10];cases a6<;>cases a7<;>cases a8<;>cases a11<;>cases a12<;>cases a13<;>cases b1<;>cases b2<;>cases b3<;>rfl
 by_cases k11:x.kind=11
 ·simp only[k11];cases a6<;>cases a7<;>cases a8<;>cases a9<;>cases a10<;>cases a12<;>cases a13<;>cases b1<;>cases b2<;>cases b3<;>rfl
 by_cases k12:x.kind=12
 ·simp only[k12];cases a6<;>cases a7<;>cases a8<;>cases a9<;>cases a10<;>cases a12<;>cases a13<;>cases b1<;>cases b2<;>cases b3<;>rfl
 by_cases k13:x.kind=13
 ·simp only[k13];cases a6<;>cases a7<;>cases a8<;>cases a9<;>cases a10<;>cases a12<;>cases a13<;>cases b1<;>cases b2<;>cases b3<;>rfl
 by_cases k14:x.kind=14
 ·simp only[k14];cases a6<;>cases a7<;>cases a8<;>cases a9<;>cases a10<;>cases a12<;>cases a13<;>cases b1<;>cases b2<;>cases b3<;>rfl
 have d1:decide (4<=x.kind)=true\/decide (4<=x.kind)=false:=(ic _);simp only[Ea.2 k1,Ea.2 k2,Ea.2 k3,Ea.2 k9,Ea.2 k10,Ea.2 k11,Ea.2 k12,Ea.2 k13,Ea.2 k14];have e11:(decide (11<=x.kind)&&decide (x.kind<=14))=false:=by
  rw[Og];by_cases hh:11<=x.kind
  ·exact .inr (Ia (by omega))
  ·exact .inl (Ia hh)
 rw[e11];by_cases k4:x.kind=4
 ·simp only[k4];cases a6<;>cases a7<;>cases a8<;>cases a9<;>cases a10<;>cases a12<;>cases a13<;>cases b3<;>rfl
 by_cases k5:x.kind=5
 ·simp only[k5];cases a6<;>cases a7<;>cases a8<;>cases a9<;>cases a10<;>cases a12<;>cases a13<;>cases b3<;>rfl
 by_cases k6:x.kind=6
 ·simp only[k6];cases a6<;>cases a7<;>cases a8<;>cases a9<;>cases a10<;>cases a12<;>cases a13<;>cases b3<;>rfl
 by_cases k7:x.kind=7
 ·simp only[k7];cases a6<;>cases a7<;>cases a8<;>cases a9<;>cases a10<;>cases a12<;>cases a13<;>cases b3<;>rfl
 by_cases k8:x.kind=8
 ·simp only[k8];cases a6<;>cases a7<;>cases a8<;>cases a9<;>cases a10<;>cases a12<;>cases a13<;>cases b3<;>rfl
 have e4:(decide (4<=x.kind)&&decide (x.kind<=14))=false:=by
  rw[Og];by_cases hh:4<=x.kind
  ·exact .inr (Ia (by omega))
  ·exact .inl (Ia hh)
 rw[e4];simp only[Ea.2 k4,Ea.2 k5,Ea.2 k6,Ea.2 k7,Ea.2 k8];rfl
end
section
variable {S:zm×Zq×Bool->Option Bool} {N:Nat} (hS: ∀z,okR z->zq (zf z.1)<N->S z=some (fR z)) (hN:N<=big)
include hS hN
theorem zAc{c:zQ}(hx:zq (zZ c)<=N){d:Nat}(hd:d<=3)(h:Bool):Yz S (c,⟨(d:Int),h⟩)=some (Qz c d h):=by
 have hz:=qI c;have hlen:=ZF Gm c.simples;have e64:decide ((c.simples.length:Int)>64)= !decide (c.simples.length<=64):=Tg _ 64;rw[CL];unfold Yz bA tagS;have hl:zU (fun(s2:Int)=>
    bif decide (s2<(c.simples.length:Int))then
     za (geti c.simples s2) fun y3=>
     za (Nz S ((⟨y3.kind,y3.name,y3.op,y3.value,y3.fold,y3.anb,y3.of_,y3.list⟩:zJ),⟨(d:Int),h⟩)) fun y4=>
     bif !y4 then
      some (LO.ret false)
     else
      some (LO.again (w64 (s2+1)))
    else
     some (LO.out ())) 0 (fun _=>some true)=some (c.simples.all fun x=>Ki x d h):=by
  refine(qf c.simples (fun x=>bif Ki x d h then none else some false) () (fun i hi=> ?_) ?_).trans ?_
  ·have hm:=ZU (f:=zY) (Ha hi);simp only[zO hi,Ca,zM hi,za,Aa,Qi,zFh hS hN (show zq (zY c.simples[i])<=N by omega) hd h,zG hi (show c.simples.length<=big by omega)];cases Ki c.simples[i] d h<;>rfl
  ·simp only[zW,Ba]
  ·rw[Bi];cases c.simples.all fun x=>Ki x d h<;>rfl
 simp only[lK (show c.tag.length<=big by omega),zX,za,Aa,e64,ZI]at hl ⊢;rw[hl];cases c.tag==[]<;>cases c.tag==[42]<;>cases Vl c.tag<;>cases decide (c.simples.length<=64)<;>cases c.simples.isEmpty<;>rfl
end
theorem zLh{α β:Type}(p:α->Bool)(q:β->Bool): ∀(l:List α) (m:List β),m.length+1=l.length->
  ((∀i (h:i<l.length),p l[i]=true/\(∀(h':i - 1<m.length),0<i->q m[i - 1]=true))↔(l.all p=true/\m.all q=true)):=by
 intro l m hlm;simp only[Pb];constructor
 ·intro hh;refine⟨fun v hv=> ?_,fun v hv=> ?_⟩
  ·obtain⟨i,hi,rfl⟩:=Je hv;exact(hh i hi).1
  ·obtain⟨i,hi,rfl⟩:=Je hv;exact(hh (i+1) (by omega)).2 (by omega) (by omega)
 ·rintro⟨h1,h2⟩ i hi;exact⟨h1 _ (Ha hi),fun h' _=>h2 _ (Ha h')⟩
theorem zH2{c:zm}{d:Nat}{h b:Bool}(hc:zq (zf c)<=big)(hd:d<=3):Zx (c,⟨(d:Int),h⟩,b)=some (Ag c d h b):=by
 refine ZG (fun z=>zq (zf z.1)) okR fR (fun S z hz hS=> ?_) (x:=(c,⟨(d:Int),h⟩,b)) ⟨hc,d,hd,rfl⟩;obtain⟨c,⟨dp,h⟩,b⟩:=z;obtain⟨hc,d,hd,he⟩:=hz;have he:dp=(d:Int):=he;subst he;have hc:zq (zf c)<=big:=hc;have hzc:=Qp c;have hlen:=ZF Qx c.parts;show _=some (Ag c ((d:Int).toNat) h b);rw[Cb,MJ];unfold EG Fj;have e1:decide (c.lead>4)= !decide (c.lead<=4):=by
  by_cases hh:c.lead<=4
  ·rw[Fa hh,Ia (by omega)];rfl
  ·rw[Ia hh,Fa (by omega)];rfl
 have e3:decide ((c.parts.length:Int)>64)= !decide (c.parts.length<=64):=Tg _ 64;have e4:((c.lead != 0)==b)=(b==(c.lead != 0)):=by cases b<;>cases (c.lead != 0)<;>rfl
 simp only[e1,e3,e4,ZI,ve];cases hp:c.parts with
 |nil=>simp
 |cons p ps=>
  rw[<-hp];have hne:c.parts.isEmpty=false:=by rw[hp];rfl
  have hpos:0<c.parts.length:=by rw[hp];simp
  have e2:((c.combs.length:Int) != w64 ((c.parts.length:Int) - 1))= !decide (c.combs.length+1=c.parts.length):=by
   have:w64 ((c.parts.length:Int) - 1)=((c.parts.length - 1:Nat):Int):=by rw[w64,ZT (by omega) (by unfold big at hc;omega)];omega
   rw[this];by_cases hh:c.combs.length+1=c.parts.length
   ·rw[Fa hh];simp;omega
   ·rw[Ia hh];simp;omega
  rw[e2,hne];cases hlm:decide (c.combs.length+1=c.parts.length)with
  |false=>cases (b==(c.lead != 0))<;>cases decide (c.lead<=4)<;>cases decide (c.parts.length<=64)<;>rfl
  |true=>
   have hlm:=Ib hlm;have hl:zU (fun(s1:Int)=>
    bif decide (s1<(c.parts.length:Int))then
     za (geti c.parts s1) fun y2=>
     za (Yz S ((⟨y2.tag,y2.simples⟩:zQ),⟨(d:Int),h⟩)) fun y3=>
     za (zF (decide (s1>0)&& !(!y3)) (geti c.combs (w64 (s1 - 1))) (default:UInt8)) fun y4=>
     za (zF (!(decide ((y4.toNat:Int)<1))&&(decide (s1>0)&& !(!y3))) (geti c.combs (w64 (s1 - 1))) (default:UInt8)) fun y5=>
     bif bif !y3 then true else bif decide (s1>0)then bif decide ((y4.toNat:Int)<1)then true else decide ((y5.toNat:Int)>4)else false then
      some (LO.ret false)
     else
      some (LO.again (w64 (s1+1)))
    else
     some (LO.out ())) 0 (fun _=>some true)=some (c.combs.all Ii&&c.parts.all fun x=>Qz x d h):=by
    refine(Dz c.parts.length (fun i=>Qz (c.parts.getD i default) d h&&(i==0||Ii (c.combs.getD (i - 1) 0))) false (fun i hi=> ?_) ?_).trans ?_
    ·have hm:=ZU (f:=zZ) (Ha hi);have hgd:c.parts.getD i default=c.parts[i]:=by simp[hi]
     simp only[zO hi,Ca,zM hi,za,Aa,oQ,zAc (N:=zq (zf c)) hS hc (show zq (zZ c.parts[i])<=zq (zf c) by omega) hd,zG hi (show c.parts.length<=big by omega),hgd];cases i with
     |zero=>cases Qz c.parts[0] d h<;>rfl
     |succ i=>
      have hi2:i<c.combs.length:=by omega
      have g0:decide (((i+1:Nat):Int)>0)=true:=Fa (by omega);have g3:w64 (((i+1:Nat):Int) - 1)=(i:Int):=by rw[w64,ZT (by omega) (by unfold big at hc;omega)];omega
      have g4:c.combs.getD (i+1 - 1) 0=c.combs[i]:=by simp[hi2]
      have g1:decide ((c.combs[i].toNat:Int)<1)= !decide (1<=c.combs[i].toNat):=by
       by_cases hh:1<=c.combs[i].toNat
       ·rw[Fa hh,Ia (by omega)];rfl
       ·rw[Ia hh,Fa (by omega)];rfl
      have g2:decide ((c.combs[i].toNat:Int)>4)= !decide (c.combs[i].toNat<=4):=Tg _ 4;rw[g0,g3,g4,zM hi2];cases Qz c.parts[i+1] d h with
      |false=>rfl
      |true=> simp only[Ya,Ua,Rb,aa,z8,Aa,Ba,Ca,g1,zX,g2];unfold Ii;cases h1:decide (1<=c.combs[i].toNat)<;>cases h2:decide (c.combs[i].toNat<=4)<;>simp[h2,g2]<;>omega
    ·simp only[zW,Ba]
    ·have:(List.range c.parts.length).all (fun i=>Qz (c.parts.getD i default) d h&&(i==0||Ii (c.combs.getD (i - 1) 0)))=(c.combs.all Ii&&c.parts.all fun x=>Qz x d h):=by
      rw[Ve,Da,and_comm,<-zLh _ _ _ _ hlm,Pb];constructor
      ·intro hh i hi;have:=hh i (Md.2 hi);rw[Da,Yc]at this;refine⟨by have h1:=this.1;simpa [hi] using h1,fun h' h0=> ?_⟩;rcases this.2 with h2|h2
       ·rw[Db]at h2;omega
       ·simpa [h'] using h2
      ·intro hh i hi;have hi:=Md.1 hi;obtain⟨h1,h2⟩:=hh i hi;rw[Da,Yc];refine⟨by simpa [hi] using h1,?_⟩;by_cases h0:i=0
       ·exact .inl (by simp[h0])
       ·have h':i - 1<c.combs.length:=by omega
        exact .inr (by have:=h2 h' (by omega);simpa [h'] using this)
     rw[this];cases (c.combs.all Ii&&c.parts.all fun x=>Qz x d h)<;>rfl
   simp only[ve]at hl;rw[hl];cases (b==(c.lead != 0))<;>cases decide (c.lead<=4)<;>cases decide (c.parts.length<=64)<;>rfl
end Go.Lv.VT
