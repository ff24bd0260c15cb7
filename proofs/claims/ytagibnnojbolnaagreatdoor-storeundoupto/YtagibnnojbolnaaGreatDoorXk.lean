/- The store: what a valid one is, and other rules in one of its sheets: plain facts. -/
import Derived.Test.YtagibnnojbolnaaGreatDoorXj
import Derived.Test.YtagibnnojbolnaaGreatDoorXc
import Derived.Test.YtagibnnojbolnaaGreatDoorXd
import Derived.Test.YtagibnnojbolnaaGreatDoorXh
import Derived.Test.YtagibnnojbolnaaGreatDoorXi
noncomputable section
set_option linter.unusedSimpArgs false
set_option linter.unusedVariables false
namespace Go.Lv.VT
def Rl(n a:Int)(k:qE):Bool:= !(decide (k.number<=a))&&(!(decide (k.number>=n))&&(!(decide (k.origin<1))&&(!(decide (k.origin>3))&&(decide ((k.site.length:Int)<=64)&&Rh k.sheet.rules))))
def pg(n:Int):Int->List qE->Bool
 |_,[]=>true
 |a,k::r=>Rl n a k&&pg n k.number r
theorem YD{n a:Int}{k:qE}(h:Rl n a k=true):a<k.number/\k.number<n/\1<=k.origin/\k.origin<=3/\(k.site.length:Int)<=64/\Rh k.sheet.rules=true:=by unfold Rl at h;simp only[Da,Ri,mf,ja]at h;obtain⟨h1,h2,h3,h4,h5,h6⟩:=h;exact⟨by omega,by omega,by omega,by omega,h5,h6⟩
theorem UY{n:Int}(hn:n<=1000): ∀(l:List qE) (a:Int), -1<=a->pg n a l=true->Pp n (a+1) l=true
 |[],_,_,_=>rfl
 |k::r,a,ha,h=>by
  rw[pg,Da]at h;obtain⟨h1,h2,h3,h4,h5,h6⟩:=YD h.1;have e:w64 (k.number+1)=k.number+1:=by rw[w64,ZT (by omega) (by omega)]
  rw[Pp,e,UY hn r k.number (by omega) h.2,Rb];unfold Bw;rw[Ia (by omega),Ia (by omega),Ia (by omega),Ia (by omega),Ia (by omega),h6];rfl
def refS(s:ZJ):Bool:= !(bif bif decide ((s.sheets.length:Int)>8)then true else decide (s.next<0)then true else decide (s.next>1000))&&pg s.next (-1) s.sheets
theorem vP(n:Int): ∀(l:List qE) (a:Int),kg (X:=Unit) (R:=Int) (fun k a=>some (bif Rl n a k then .again k.number else .ret 8)) (fun _=>some (.out ())) l a=some (bif pg n a l then .out ()else .ret 8)
 |[],a=>rfl
 |k::r,a=>by
  unfold kg pg;cases Rl n a k with
  |false=>rfl
  |true=>exact vP n r _
theorem zvf{s:ZJ}(h:zL Zt s.sheets<=big):NE s=some (bif refS s then 0 else 8):=by
 unfold NE refS;have hlen:=ZF Xo s.sheets;cases hb:(bif bif decide ((s.sheets.length:Int)>8)then true else decide (s.next<0)then true else decide (s.next>1000))with
 |true=>rfl
 |false=>
  simp only[Ba,Ua,aa];refine(Uo s.sheets (fun i (a:Int)=>(a,(i:Int))) (fun k a=>some (bif Rl s.next a k then .again k.number else .ret 8)) (fun _=>some (.out ())) (a:= -1) rfl (fun i a hi=> ?_) (fun a=> ?_) (r:=bif pg s.next (-1) s.sheets then .out ()else .ret 8) (vP _ _ _)).trans ?_
  ·have hk:=ZU (f:=Zt) (Ha hi);rw[Mo]at hk;have hc:iy s.sheets[i].sheet=some (bif Rh s.sheets[i].sheet.rules then 0 else 8):=zvc (s:=s.sheets[i].sheet) (by omega);simp only[zO hi,Ca,zM hi,za,Aa,JK,hc,zG hi (show s.sheets.length<=big by omega)];unfold Rl;generalize decide (s.sheets[i].number<=a)=c1;generalize decide (s.sheets[i].number>=s.next)=c2;generalize decide (s.sheets[i].origin<1)=c3;generalize decide (s.sheets[i].origin>3)=c4;generalize decide ((s.sheets[i].site.length:Int)<=64)=c5;generalize Rh s.sheets[i].sheet.rules=c6;cases c1<;>cases c2<;>cases c3<;>cases c4<;>cases c5<;>cases c6<;>rfl
  ·simp only[zW,Ba];rfl
  ·cases pg s.next (-1) s.sheets<;>rfl
theorem Et{s:ZJ}(h:refS s=true):Vn s=true/\pg s.next (-1) s.sheets=true:=by
 unfold refS at h;rw[Da]at h;refine⟨?_,h.2⟩;have h1:=h.1;unfold Vn;rw[h1,aa];have hn:s.next<=1000:=by
  rw[Ri]at h1;cases h8:decide ((s.sheets.length:Int)>8)with
  |true=>rw[h8]at h1;cases h1
  |false=>
   rw[h8,Ba]at h1;cases h0:decide (s.next<0)with
   |true=>rw[h0]at h1;cases h1
   |false=> rw[h0,Ba]at h1;have:=De h1;omega
 exact UY hn s.sheets (-1) (by omega) h.2
theorem yP(c:qE->Bool): ∀l:List qE,∃r,kg (X:=Unit) (R:=Bool) (fun k (_:Unit)=>some (bif c k then .ret true else .again ())) (fun _=>some (.out ())) l ()=some r
 |[]=>⟨_,rfl⟩
 |k::r=>by
  unfold kg;cases c k with
  |true=>exact⟨_,rfl⟩
  |false=>exact yP c r
theorem zvg{s:ZJ}(h:zL Zt s.sheets<=big): ∃g,ME s=some g:=by
 unfold ME;have hlen:=ZF Xo s.sheets;cases decide ((s.sheets.length:Int)>10)with
 |true=>exact⟨_,rfl⟩
 |false=>
  obtain⟨r,hr⟩:=yP (fun k=>bif (Dr k.sheet.rules).getD true then true else decide ((k.site.length:Int)>100)) s.sheets;have key:=Uo (k:=fun(_:Unit)=>some false) s.sheets (fun i (_:Unit)=>(i:Int)) (fun k (_:Unit)=>some (bif (bif (Dr k.sheet.rules).getD true then true else decide ((k.site.length:Int)>100))then .ret true else .again ())) (fun _=>some (.out ())) (a:=())
   (step:=fun(s1:Int)=>
    bif decide (s1<(s.sheets.length:Int))then
     za (geti s.sheets s1) fun y2=>
     za (Dr y2.sheet.rules) fun y3=>
     za (zF (!y3) (geti s.sheets s1) (default:qE)) fun y4=>
     bif bif y3 then true else decide ((y4.site.length:Int)>100)then
      some (LO.ret true)
     else
      some (LO.again (w64 (s1+1)))
    else
     some (LO.out ())) (s0:=0) rfl (fun i a hi=>by
   have hk:=ZU (f:=Zt) (Ha hi);rw[Mo]at hk;obtain⟨g,hg⟩:=zvd (l:=s.sheets[i].sheet.rules) (by omega);simp only[zO hi,Ca,zM hi,za,Aa,hg,zG hi (show s.sheets.length<=big by omega),Option.getD_some];cases g with
   |true=>rfl
   |false=>
    simp only[Ua,z8,Aa,Ba];cases decide ((s.sheets[i].site.length:Int)>100)<;>rfl) (fun a=>by simp only[zW,Ba];rfl) hr
  cases r with
  |out u=>exact⟨_,key⟩
  |ret b=>exact⟨_,key⟩
theorem zCU{l:List qE}(h:zL Zt l<=big):WG (l,l)=some true:=by
 unfold WG;have hlen:=ZF Xo l;have hne:((l.length:Int) != (l.length:Int))=false:=by simp
 simp only[hne,Ba];refine Xl l.length () (fun i hi=> ?_) ?_
 ·have hk:=ZU (f:=Zt) (Ha hi);rw[Mo]at hk;simp only[zO hi,Ca,zM hi,za,Aa,zCT (k:=l[i]) (by omega),Ya,Ba,zG hi (show l.length<=big by omega)]
 ·simp only[zW,Ba]
theorem zNv{s:ZJ}(h:zL Zt s.sheets<=big): ∃f,XD s=some f/\(f=true->refS s=true):=by
 obtain⟨g,hg⟩:=zvg h;unfold XD;simp only[hg,zvf h,za,Aa];cases g with
 |true=>exact⟨_,rfl,fun h=>by cases h⟩
 |false=>
  cases hr:refS s with
  |true=>exact⟨_,rfl,fun _=>rfl⟩
  |false=>exact⟨_,rfl,fun h=>by cases h⟩
set_option maxRecDepth 100000
def Z4:Nat->List zN->List zN×Nat
 |n,[]=>([],n)
 |0,_::_=>([],0)
 |n+1,⟨k,s,d,c,m,q⟩::l=>(⟨k,s,d,c,m,(Z4 n q).1⟩::(Z4 (Z4 n q).2 l).1,(Z4 (Z4 n q).2 l).2)
theorem Wt(l:List zN):Z4 0 l=([],0):=by cases l<;>rw[Z4]
theorem fJ: ∀(l:List zN) (n:Nat),Jf (Z4 n l).1=min n (Jf l)/\(Z4 n l).2=n - Jf l
 |[],n=>by rw[Z4];simp[Jf]
 |_::_,0=>by rw[Z4];simp[Jf]
 |⟨k,s,d,c,m,q⟩::l,n+1=>by rw[Z4,Jf,Jf,Yw,Yw];obtain⟨h1,h2⟩:=fJ q n;obtain⟨h3,h4⟩:=fJ l (Z4 n q).2;dsimp only;rw[h3,h4,h1,h2];omega
theorem WZ: ∀(a b:List zN) (n:Nat),Z4 n (a++b)=((Z4 n a).1++(Z4 (Z4 n a).2 b).1,(Z4 (Z4 n a).2 b).2)
 |[],b,n=>by rw[Z4];rfl
 |r::a,b,0=>by rw[Wt,Wt];dsimp only;rw[Wt];rfl
 |⟨k,s,d,c,m,q⟩::a,b,n+1=>by rw[Sb,Z4,Z4,WZ a b];rfl
theorem VY{X R:Type}{m:Option (LX X R)}{k:X->Option R}{x:X}{y:Option R}(h:m=some (.out x))(g:k x=y):Zi m k=y:=by rw[h];exact g
def Gi(r:zN):Bool:=bif bif r.kind==2 then true else r.kind==3 then true else r.kind==4
abbrev TU:=Bool×zt×(Int×Int×Str×Int×Str×Bool)×zN
abbrev vv:=(zN×Bool)×zt
def jN(at_:Bool)(name:Str)(p:List zb)(b:zb)(q:zt):Option (LX TU vv):=
   bif bif !at_ then true else false then
    za (ay (p,b.list)) fun y1=>
    some (LX.out (y1.2,q,(0,0,[],0,[],false),(⟨y1.1.kind,y1.1.selectors,y1.1.decls,(⟨y1.1.cond.kind,y1.1.cond.name,y1.1.cond.num,y1.1.cond.decl,y1.1.cond.list⟩:zu),y1.1.names,y1.1.rules⟩:zN)))
   else
    bif bif at_ then name==[108,97,121,101,114]else false then
     za (Br (p,true)) fun y2=>
     some (LX.out (y2.2,q,(0,0,[],0,[],false),(⟨y2.1.kind,y2.1.selectors,y2.1.decls,(⟨y2.1.cond.kind,y2.1.cond.name,y2.1.cond.num,y2.1.cond.decl,y2.1.cond.list⟩:zu),y2.1.names,y2.1.rules⟩:zN)))
    else
     bif bif bif at_ then name==[109,101,100,105,97]else false then true else false then
      za (rq p) fun y3=>
      some (LX.out (y3.2==0,q,(0,0,[],0,[],false),(⟨2,[],[],(⟨y3.1.kind,y3.1.name,y3.1.num,y3.1.decl,y3.1.list⟩:zu),[],[]⟩:zN)))
     else
      bif bif bif at_ then name==[115,117,112,112,111,114,116,115]else false then true else false then
       za (Kr p) fun y4=>
       some (LX.out (y4.2==0,q,(0,0,[],0,[],false),(⟨3,[],[],(⟨y4.1.kind,y4.1.name,y4.1.num,y4.1.decl,y4.1.list⟩:zu),[],[]⟩:zN)))
      else
       some (LX.out (false,q,(0,0,[],0,[],false),(⟨0,[],[],(⟨0,[],0,(⟨[],[],false⟩:Zu),[]⟩:zu),[],[]⟩:zN)))
def iN(at_:Bool)(name:Str)(p:List zb)(q:zt):Option (LX TU vv):=
   bif bif !at_ then false else false then
    none
   else
    bif bif at_ then name==[108,97,121,101,114]else false then
     za (Br (p,false)) fun y1=>
     some (LX.out (y1.2,q,(0,0,[],0,[],false),(⟨y1.1.kind,y1.1.selectors,y1.1.decls,(⟨y1.1.cond.kind,y1.1.cond.name,y1.1.cond.num,y1.1.cond.decl,y1.1.cond.list⟩:zu),y1.1.names,y1.1.rules⟩:zN)))
    else
     bif bif bif at_ then name==[109,101,100,105,97]else false then false else false then
      za (rq p) fun y2=>
      some (LX.out (y2.2==0,q,(0,0,[],0,[],false),(⟨2,[],[],(⟨y2.1.kind,y2.1.name,y2.1.num,y2.1.decl,y2.1.list⟩:zu),[],[]⟩:zN)))
     else
      bif bif bif at_ then name==[115,117,112,112,111,114,116,115]else false then false else false then
       za (Kr p) fun y3=>
       some (LX.out (y3.2==0,q,(0,0,[],0,[],false),(⟨3,[],[],(⟨y3.1.kind,y3.1.name,y3.1.num,y3.1.decl,y3.1.list⟩:zu),[],[]⟩:zN)))
      else
       some (LX.out (false,q,(0,0,[],0,[],false),(⟨0,[],[],(⟨0,[],0,(⟨[],[],false⟩:Zu),[]⟩:zu),[],[]⟩:zN)))
def semR(z:zN×Bool)(S:(List zb×Bool)×zt->Option (List zN×zt))(b:zb)(q:zt):Option vv:=
 bif z.2 then(bif Gi z.1 then za (S ((b.list,false),⟨w64 (q.room - 1),q.constructs⟩)) fun y=>some ((⟨z.1.kind,z.1.selectors,z.1.decls,z.1.cond,z.1.names,y.1⟩,true),y.2)else some ((z.1,true),⟨w64 (q.room - 1),q.constructs⟩))else some ((noR,false),q)
def YM(z:zN×Bool)(q:zt):Option vv:=bif z.2 then some ((z.1,true),⟨w64 (q.room - 1),q.constructs⟩)else some ((noR,false),q)
def okZ(z:zN×Bool)(p b:List zb):Prop:=z.1.rules=[]/\zq (zy z.1)<=36+6*zV p+zV b/\(Gi z.1=true->zq (zy z.1)<=36+6*zV p)/\okV z p b
theorem zON{z:zN×Bool}{p b:List zb}(h:okV z p []):okV z p b:=fun e=>by obtain⟨h1,h2,h3,h4,h5⟩:=h e;refine⟨h1,h2,h3,h4,Bb h5 ?_⟩;rw[Zc];exact Va _
theorem zHu{y:zu×Int}{p b:List zb}(h:y.2=0->Bl y.1=true/\(askB y.1=true->1<=Zc p)):okV (⟨2,[],[],y.1,[],[]⟩,y.2==0) p b:=fun e=>by
 obtain⟨h1,h2⟩:=h (Db.1 e);refine⟨h1,rfl,nH _,?_,Va _⟩;show(bif askB y.1 then 1 else 0)<=_;cases ha:askB y.1 with
 |true=>exact h2 ha
 |false=>exact Va _
theorem zMu{y:zu×Int}{p b:List zb}(h:y.2=0->Jk y.1=true/\Mf y.1<=Zc p):okV (⟨3,[],[],y.1,[],[]⟩,y.2==0) p b:=fun e=>by obtain⟨h1,h2⟩:=h (Db.1 e);exact⟨h1,rfl,nH _,h2,Va _⟩
theorem zL0{at_:Bool}{name:Str}{p:List zb}{b:zb}(hp:40*zV p+200<=big)(hb:40*zV b.list+200<=big): ∃z:zN×Bool,okZ z p b.list/\ ∀q,jN at_ name p b q=some (.out (z.2,q,(0,0,[],0,[],false),z.1)):=by
 have hst: ∀k:Int,k=0\/k=1->(bif bif k==2 then true else k==3 then true else k==4)=false:=fun k hk=>by rcases hk with rfl|rfl<;>rfl
 unfold jN;cases at_ with
 |false=>
  obtain⟨y,e,g1,g2,g3,g4⟩:=zIA (p:=p) (b:=b.list) (by omega) (by omega);refine⟨y,⟨g2,by omega,fun h=> ?_,g4⟩,fun q=> ?_⟩
  ·unfold Gi at h;rw[hst _ g3]at h;cases h
  ·simp only[Ua,Ca,e,za,Aa,wm]
 |true=>
  simp only[Ya,Ba,Ca];cases name==[108,97,121,101,114]with
  |true=> obtain⟨y,e,g1,g2,_,g4⟩:=jZ (v:=p) (by omega) true;exact⟨y,⟨g2,by omega,fun _=>by omega,zON g4⟩,fun q=>by simp only[Ca,e,za,Aa,wm]⟩
  |false=>
   cases name==[109,101,100,105,97]with
   |true=>
    obtain⟨y,ey,g,g4⟩:=zG6 (x:=p) (by omega);have e:zq (zy (⟨2,[],[],y.1,[],[]⟩:zN))=5+0+0+zq (zk y.1)+0+0:=by rw[zR];rfl
    exact⟨(⟨2,[],[],y.1,[],[]⟩,y.2==0),⟨rfl,by dsimp only;omega,fun _=>by dsimp only;omega,zHu g4⟩,fun q=>by simp only[Ba,Ca,ey,za,Aa,Zm]⟩
   |false=>
    cases name==[115,117,112,112,111,114,116,115]with
    |true=>
     obtain⟨y,ey,g,g4⟩:=zMT (x:=p) (by omega);have e:zq (zy (⟨3,[],[],y.1,[],[]⟩:zN))=5+0+0+zq (zk y.1)+0+0:=by rw[zR];rfl
     exact⟨(⟨3,[],[],y.1,[],[]⟩,y.2==0),⟨rfl,by dsimp only;omega,fun _=>by dsimp only;omega,zMu g4⟩,fun q=>by simp only[Ba,Ca,ey,za,Aa,Zm]⟩
    |false=> have e:zq (zy noR)=5+0+0+zq (zk ⟨0,[],0,⟨[],[],false⟩,[]⟩)+0+0:=zR _;rw[zNoC]at e;exact⟨(noR,false),⟨rfl,by dsimp only;omega,(fun _=>by dsimp only;omega),BB _ _ _⟩,fun q=>rfl⟩
theorem zJE{at_:Bool}{name:Str}{p:List zb}(hp:40*zV p+200<=big): ∃z:zN×Bool,okZ z p []/\(z.2=true->Gi z.1=false/\at_=true/\z.1.kind=5)/\ ∀q,iN at_ name p q=some (.out (z.2,q,(0,0,[],0,[],false),z.1)):=by
 have e:zq (zy noR)=5+0+0+zq (zk ⟨0,[],0,⟨[],[],false⟩,[]⟩)+0+0:=zR _;rw[zNoC]at e;have bf: ∀x:Bool,(bif x then false else false)=false:=fun x=>by cases x<;>rfl
 have no:okZ (noR,false) p []:=⟨rfl,by dsimp only;omega,(fun _=>by dsimp only;omega),BB _ _ _⟩;unfold iN;cases at_ with
 |false=>exact⟨(noR,false),no,(fun h=>nomatch h),fun q=>rfl⟩
 |true=>
  simp only[Ya,Ba,Ca,bf];cases name==[108,97,121,101,114]with
  |true=>
   obtain⟨y,e,g1,g2,g3,g4⟩:=jZ (v:=p) (by omega) false;refine⟨y,⟨g2,by omega,fun _=>by omega,g4⟩,fun hz=>⟨?_,trivial,?_⟩,fun q=>by simp only[Ca,e,za,Aa,wm]⟩
   ·unfold Gi;rcases g3 rfl with h|h<;>(rw[h];rfl)
   ·rcases g3 rfl with h|h
    ·have h1:=(g4 hz).1;unfold Gj at h1;rw[h]at h1;cases h1
    ·exact h
  |false=>exact⟨(noR,false),no,(fun h=>nomatch h),fun q=>rfl⟩
def kr(at_:Bool)(name:Str)(p:List zb)(b:zb):zN×Bool:=(((jN at_ name p b ⟨0,0⟩).bind fun x=>match x with| .out j=>some (j.2.2.2,j.1)| .ret _=>none).getD (noR,false))
def Ij(at_:Bool)(name:Str)(p:List zb):zN×Bool:=(((iN at_ name p ⟨0,0⟩).bind fun x=>match x with| .out j=>some (j.2.2.2,j.1)| .ret _=>none).getD (noR,false))
theorem gY{at_:Bool}{name:Str}{p:List zb}{b:zb}(hp:40*zV p+200<=big)(hb:40*zV b.list+200<=big):okZ (kr at_ name p b) p b.list/\ ∀S q,qG S ((at_,name,p,b),q)=semR (kr at_ name p b) S b q:=by
 obtain⟨z,h1,h2⟩:=zL0 (at_:=at_) (name:=name) hp hb;have hz:kr at_ name p b=z:=by unfold kr;rw[h2];rfl
 rw[hz];refine⟨h1,fun S q=> ?_⟩;obtain⟨r,f⟩:=z;unfold qG;refine VY (h2 q) ?_;unfold semR;cases f with
 |false=>rfl
 |true=>
  simp only[Ya,Ba,Ca];cases hk:Gi r with
  |true=>
   unfold Gi at hk;simp only[hk,Ca,za];cases S ((b.list,false),⟨w64 (q.room - 1),q.constructs⟩)with
   |none=>rfl
   |some y=>simp only[Aa,zI,Zm]
  |false=> unfold Gi at hk;simp only[hk,Ba,zI,wm]
theorem vY{at_:Bool}{name:Str}{p:List zb}(hp:40*zV p+200<=big):okZ (Ij at_ name p) p []/\((Ij at_ name p).2=true->at_=true/\(Ij at_ name p).1.kind=5)/\ ∀q,wz ((at_,name,p),q)=YM (Ij at_ name p) q:=by
 obtain⟨z,h1,h3,h2⟩:=zJE (at_:=at_) (name:=name) hp;have hz:Ij at_ name p=z:=by unfold Ij;rw[h2];rfl
 rw[hz];refine⟨h1,fun h=>(h3 h).2,fun q=> ?_⟩;obtain⟨r,f⟩:=z;unfold wz;refine VY (h2 q) ?_;unfold YM;cases f with
 |false=>rfl
 |true=> have hk:=(h3 rfl).1;unfold Gi at hk;simp only[Ya,Ba,Ca];simp only at hk;simp only[hk,Ba,wm]
def bodyC(a:zb)(r:List zb):List zb:=bif a.token.kind==3 then r else a::r
def Tj(a:zb):Str:=bif a.token.kind==3 then [23,17]else [23]
def Ol(a:zb):Str:=bif a.token.kind==3 then lowS a.token.text else []
def Yk(a:zb)(r:List zb):List zb:=(bodyC a r).takeWhile fun b=> !inK (Tj a) b
def Ml(a:zb)(r:List zb):List zb:=(bodyC a r).dropWhile fun b=> !inK (Tj a) b
def Rj(z:zN×Bool)(G:List zN):List zN:=bif z.2 then [bif Gi z.1 then⟨z.1.kind,z.1.selectors,z.1.decls,z.1.cond,z.1.names,G⟩else z.1]else []
def oneF(G:List zb->List zN)(a:zb)(r:List zb):List zN:=match Ml a r with
 |[]=>Rj (Ij (a.token.kind==3) (Ol a) (Yk a r)) []
 |b::_=>bif b.token.kind==23 then Rj (kr (a.token.kind==3) (Ol a) (Yk a r) b) (G b.list)else Rj (Ij (a.token.kind==3) (Ol a) (Yk a r)) []
theorem uw(a:zb)(r:List zb):Nl (a::r)=(Ml a r).tail:=by show(bif a.token.kind==3 then(r.dropWhile fun b=> !inK [23,17] b).tail else((a::r).dropWhile fun b=> !inK [23] b).tail)=_;unfold Ml bodyC Tj;cases a.token.kind==3<;>rfl
theorem Ow(a:zb)(r:List zb):zV (Yk a r)+zV (Ml a r)=zV (bodyC a r)/\zV (bodyC a r)<=zV (a::r)/\zV (Ml a r).tail+6<=zV (a::r):=by
 have h1:=zOG (Tj a) (bodyC a r);have h2:=Qr a r;have h3:zV (bodyC a r)<=zV (a::r):=by unfold bodyC;cases a.token.kind==3<;>simp only[Ca,Ba]<;>omega
 refine⟨h1,h3,?_⟩;unfold Yk Ml at*;cases hD:(bodyC a r).dropWhile fun b=> !inK (Tj a) b with
 |nil=>show 0+6<=_;omega
 |cons d t=>rw[hD]at h1;have:=Qr d t;show zV t+6<=_;omega
theorem kP{G G':List zb->List zN}{a:zb}{r:List zb}(h: ∀l,zV l<zV (a::r)->G l=G' l):oneF G a r=oneF G' a r:=by
 obtain⟨h1,h2,_⟩:=Ow a r;unfold oneF;cases hD:Ml a r with
 |nil=>rfl
 |cons b t=> rw[hD]at h1;have:=Qr b t;dsimp only;rw[h b.list (by omega)]
def fN:Nat->Bool->List zb->List zN
 |0,_,_=>[]
 |_+1,_,[]=>[]
 |n+1,top,a::r=>bif Fs top a then fN n top r else oneF (fN n false) a r++fN n top (Nl (a::r))
theorem Bu: ∀(n m:Nat) (top:Bool) (v:List zb),zV v<n->zV v<m->fN n top v=fN m top v
 |0,_,_,_,h,_=>by omega
 |_+1,0,_,_,_,h=>by omega
 |n+1,m+1,top,[],_,_=>by rw[fN,fN]
 |n+1,m+1,top,a::r,hn,hm=>by have hz:=Qr a r;have h3:=(Ow a r).2.2;rw[<-uw]at h3;rw[fN,fN,Bu n m top r (by omega) (by omega),Bu n m top (Nl (a::r)) (by omega) (by omega),kP fun l hl=>Bu n m false l (by omega) (by omega)]
def fV(top:Bool)(v:List zb):List zN:=fN (zV v+1) top v
theorem DV(top:Bool):fV top []=[]:=by unfold fV;rw[fN]
theorem bW(top:Bool)(a:zb)(r:List zb):fV top (a::r)=bif Fs top a then fV top r else oneF (fV false) a r++fV top (Nl (a::r)):=by have hz:=Qr a r;have h3:=(Ow a r).2.2;rw[<-uw]at h3;unfold fV;rw[fN,Bu (zV (a::r)) (zV r+1) top r (by omega) (by omega),Bu (zV (a::r)) (zV (Nl (a::r))+1) top _ (by omega) (by omega),kP fun l hl=>Bu (zV (a::r)) (zV l+1) false l (by omega) (by omega)]
def rmQ(q:zt):Nat:=q.room.toNat
theorem rm_0{q:zt}(hq:okQ q):(q.room==0)=decide (rmQ q=0):=by obtain⟨n,_,h⟩:=hq;unfold rmQ;rw[h,Cb,Ve,Db,ja];omega
theorem VV{q:zt}(hq:okQ q){m:Nat}(h:rmQ q=m+1)(c:Int):rmQ ⟨w64 (q.room - 1),c⟩=m:=by obtain⟨n,h1,h2⟩:=hq;unfold rmQ at h ⊢;rw[h2,Cb]at h;show(w64 (q.room - 1)).toNat=m;rw[h2,h,show((m+1:Nat):Int) - 1=(m:Int) by omega,Xv (n:=m) (by unfold big;omega),Cb]
def Yv(q:zt)(F:List zN)(y:vv):Prop:=Z4 (rmQ q) F=(bif y.1.2 then [y.1.1]else [],rmQ y.2)
section
variable {S:(List zb×Bool)×zt->Option (List zN×zt)} {N c:Nat}
variable (hS: ∀(l:List zb) (q:zt),okQ q->q.constructs=(c:Int)->zV l<N->Has (S ((l,false),q)) fun y=>zL zy y.1<=6*zV l/\okQ y.2/\y.2.constructs=(c:Int)/\Z4 (rmQ q) (fV false l)=(y.1,rmQ y.2))
include hS
theorem zIa{at_:Bool}{name:Str}{p:List zb}{b:zb}{q:zt}(hp:40*zV p+200<=big)(hb:zV b.list<N)(hb2:40*zV b.list+200<=big)(hq:okQ q)(h0:(q.room==0)=false)(hc:q.constructs=(c:Int)):
  Has (qG S ((at_,name,p,b),q)) fun y=>zq (zy y.1.1)<=36+6*zV p+6*zV b.list/\okQ y.2/\y.2.constructs=(c:Int)/\Yv q (Rj (kr at_ name p b) (fV false b.list)) y:=by
 obtain⟨⟨g1,g2,g3,_⟩,hs⟩:=gY (at_:=at_) (name:=name) hp hb2;have hz0:zq (zy noR)<=36+6*zV p+6*zV b.list:=by rw[zR];show 5+0+0+zq (zk ⟨0,[],0,⟨[],[],false⟩,[]⟩)+0+0<=_;rw[zNoC];omega
 obtain⟨m,hm⟩: ∃m,rmQ q=m+1:=by rw[rm_0 hq,mf]at h0;exact⟨rmQ q - 1,by omega⟩
 rw[hs];generalize kr at_ name p b=z at g1 g2 g3;obtain⟨r,f⟩:=z;unfold semR Rj Yv;cases f with
 |false=>exact Has.some ⟨hz0,hq,hc,by rw[Ba,Z4];rfl⟩
 |true=>
  simp only[Ca];have hd:=VV hq hm q.constructs;cases hk:Gi r with
  |true=>
   refine Has.bind (hS _ _ (wN hq h0 _) hc hb) fun y ⟨k1,k2,k3,k4⟩=>Has.some ⟨?_,k2,k3,?_⟩
   ·have h7:=g3 hk;have g1:r.rules=[]:=g1;dsimp only at h7 ⊢;rw[zR,g1]at h7;rw[zR];dsimp only;have e0:zL zy ([]:List zN)=0:=rfl;omega
   ·rw[hd]at k4;rw[Ca,Ca,hm,Z4,k4];dsimp only;rw[Z4]
  |false=> refine Has.some ⟨by dsimp only at g2 ⊢;omega,wN hq h0 _,hc,?_⟩;obtain⟨k,s,d,cc,mm,l⟩:=r;have g1:l=[]:=g1;subst g1;rw[Ba,Ca,hm,Z4,Z4,hd];dsimp only;rw[Z4]
end
theorem zFf{at_:Bool}{name:Str}{p:List zb}{q:zt}{c:Nat}(hp:40*zV p+200<=big)(hq:okQ q)(h0:(q.room==0)=false)(hc:q.constructs=(c:Int)):
  Has (wz ((at_,name,p),q)) fun y=>zq (zy y.1.1)<=36+6*zV p/\okQ y.2/\y.2.constructs=(c:Int)/\(at_=false->y.1.2=false)/\Yv q (Rj (Ij at_ name p) []) y:=by
 obtain⟨⟨g1,g2,g3,_⟩,ha,hs⟩:=vY (at_:=at_) (name:=name) hp;have ha:=fun h=>(ha h).1;have hz0:zq (zy noR)<=36+6*zV p:=by rw[zR];show 5+0+0+zq (zk ⟨0,[],0,⟨[],[],false⟩,[]⟩)+0+0<=_;rw[zNoC];omega
 obtain⟨m,hm⟩: ∃m,rmQ q=m+1:=by rw[rm_0 hq,mf]at h0;exact⟨rmQ q - 1,by omega⟩
 rw[hs];generalize Ij at_ name p=z at g1 g2 g3 ha;obtain⟨r,f⟩:=z;unfold YM Rj Yv;cases f with
 |false=>exact Has.some ⟨hz0,hq,hc,fun _=>rfl,by rw[Ba,Z4];rfl⟩
 |true=>
  have hd:=VV hq hm q.constructs;have e0:zV []=0:=rfl;refine Has.some ⟨by dsimp only at g2 ⊢;omega,wN hq h0 _,hc,fun h=>(by rw[h]at ha;cases ha rfl),?_⟩;obtain⟨k,s,d,cc,mm,l⟩:=r;have g1:l=[]:=g1;subst g1;have e:(bif Gi ⟨k,s,d,cc,mm,[]⟩then(⟨k,s,d,cc,mm,[]⟩:zN)else⟨k,s,d,cc,mm,[]⟩)=⟨k,s,d,cc,mm,[]⟩:=by cases Gi _<;>rfl
  rw[Ca];dsimp only;rw[e,hm,Z4,Z4,hd];dsimp only;rw[Z4];rfl
theorem zCQ {S:(List zb×Bool)×zt->Option (List zN×zt)} {N c0 M:Nat} (hN:40*N+200<=big) (hM:M<=big)
  (hS: ∀(l:List zb) (q:zt) (c:Nat),okQ q->q.constructs=(c:Int)->c+zV l<=M->zV l<N->Has (S ((l,false),q)) fun y=>zL zy y.1<=6*zV l/\okQ y.2/\y.2.constructs=(c:Int)/\Z4 (rmQ q) (fV false l)=(y.1,rmQ y.2))
  {v:List zb} {q:zt} (top:Bool) (hv:zV v<=N) (hq:okQ q) (hc:q.constructs=(c0:Int)) (hcM:c0+zV v<=M):
  Has (ql S ((v,top),q)) fun y=>zL zy y.1<=6*zV v/\okQ y.2/\y.2.constructs=((bif top then c0+cntC v else c0:Nat):Int)/\Z4 (rmQ q) (fV top v)=(y.1,rmQ y.2):=by
 unfold ql;refine Has.loop (fun s=>okQ s.2.1/\zL zy s.2.2+6*zV s.1<=6*zV v/\(∃c:Nat,s.2.1.constructs=(c:Int)/\c+zV s.1<=M/\(bif top then c+cntC s.1=c0+cntC v else c=c0))/\Z4 (rmQ q) (fV top v)=(s.2.2++(Z4 (rmQ s.2.1) (fV top s.1)).1,(Z4 (rmQ s.2.1) (fV top s.1)).2)) (fun s=>s.1.length)
  (P:=fun s=>okQ s.1/\zL zy s.2<=6*zV v/\s.1.constructs=((bif top then c0+cntC v else c0:Nat):Int)/\Z4 (rmQ q) (fV top v)=(s.2,rmQ s.1)) ⟨hq,by show 0+6*zV v<=6*zV v;omega,⟨c0,hc,hcM,by cases top<;>rfl⟩,rfl⟩ (fun⟨l,p,out⟩ ⟨g1,g2,⟨c,g3,g4,g5⟩,g6⟩=> ?_) fun⟨p,out⟩ ⟨g1,g2,g3,g6⟩=>Has.some ⟨g2,g1,g3,g6⟩
 dsimp only at g1 g2 g3 g4 g5 g6 ⊢;cases l with
 |nil=>
  refine Has.bif (fun h=>nomatch h) fun _=>Has.some ⟨g1,by show zL zy out<=_;omega,?_,?_⟩
  ·show p.constructs=_;rw[g3];cases top with
   |true=>rw[Ca,cntC]at g5;rw[Ca];omega
   |false=>rw[Ba]at g5 ⊢;omega
  ·rw[DV,Z4,Yb]at g6;exact g6
 |cons a r=>
  have hz:=Qr a r;have hlen:(a::r).length<=zV (a::r):=zLen _;have hlr:r.length<=zV r:=zLen _;have hb:big=4194304:=rfl;have ho:out.length<=zL zy out:=ZF Rk out;rw[bW]at g6;rw[nk];refine Has.bif (fun _=> ?_) fun h=>nomatch h;refine Has.eqb (iW (a::r)) ?_;refine Has.bif (fun hs=> ?_) fun hs=> ?_
  ·have hs:Fs top a=true:=hs;rw[hs,Ca]at g6;refine Has.need (Jt (by simp)) (Has.some ⟨⟨g1,?_,⟨c,g3,?_,?_⟩,g6⟩,?_⟩)
   ·show zL zy out+6*zV r<=_;omega
   ·show c+zV r<=M;omega
   ·cases top with
    |true=>rw[Ca,cntC,Sa hs]at g5;exact g5
    |false=>exact g5
   ·show r.length<(a::r).length;simp
  ·have hs:Fs top a=false:=hs;rw[hs,Ba]at g6;have hcnt:cntC (a::r)=if Fs true a then cntC r else 1+cntC (Nl (a::r)):=by rw[cntC]
   refine Has.join (P:=fun j=>j.1=a::r/\okQ j.2.1/\j.2.2=out/\j.2.1.constructs=((bif top then c+1 else c:Nat):Int)/\rmQ j.2.1=rmQ p) ?_ fun⟨j1,j2,j3⟩ ⟨e1,k1,e2,k2,k3⟩=> ?_
   ·refine Has.bif (fun ht=>Has.some ⟨rfl,g1,rfl,?_,rfl⟩) fun ht=>Has.some ⟨rfl,g1,rfl,?_,rfl⟩
    ·have ht:top=true:=ht;subst ht;show w64 (p.constructs+1)=_;rw[g3];exact Cj (by omega)
    ·have ht:top=false:=ht;subst ht;exact g3
   have e1:j1=_:=e1;have e2:j3=_:=e2;subst e1 e2;dsimp only at k1 k2 k3 ⊢;rw[<-k3]at g6
   -- the construct's values, behind its at-keyword
   refine Has.join (P:=fun j=>j.1.1=bodyC a r/\j.1.2=Ol a/\j.2.1=j2/\j.2.2.1=j3/\j.2.2.2=Tj a) ?_ fun⟨⟨i1,i2⟩,i3,i4,i5⟩ ⟨e3,e5,e7,e4,e6⟩=> ?_
   ·unfold bodyC Ol Tj;refine Has.bif (fun hk=> ?_) fun hk=> ?_
    ·have hk:(a.token.kind==3)=true:=hk;refine Has.eqb (show geti (a::r) 0=some a from rfl) ?_;refine bLow (by omega) ?_;exact Has.need rfl (Has.need (Jt (by simp)) (Has.some ⟨by rw[hk];rfl,by rw[hk];rfl,rfl,rfl,by rw[hk];rfl⟩))
    ·have hk:(a.token.kind==3)=false:=hk;exact Has.some ⟨by rw[hk];rfl,by rw[hk];rfl,rfl,rfl,by rw[hk];rfl⟩
   have e3:i1=_:=e3;have e4:i4=_:=e4;have e5:i2=_:=e5;have e6:i5=_:=e6;have e7:i3=_:=e7;subst e3 e4 e5 e6 e7;dsimp only at g2 ⊢;obtain⟨hcut,hbz,hD6⟩:=Ow a r;have hxl:(bodyC a r).length<=zV (bodyC a r):=zLen _;have hel:(Tj a).length<=2:=by unfold Tj;cases a.token.kind==3<;>decide
   refine Has.eqb (zKz (v:=bodyC a r) (ks:=Tj a) (by omega) (by omega)) ?_;have hrest:=uw a r;have hrl:=xY a r;have hin2:inK [23] (⟨⟨23,[],0,[],false⟩,[]⟩:zb)=true:=rfl;rw[hrest]at hrl g6 hcnt;unfold oneF at g6;unfold Ml at hcut hD6 hrest hrl g6 hcnt;dsimp only;have hP0:(bodyC a r).takeWhile (fun b=> !inK (Tj a) b)=Yk a r:=rfl;rw[hP0];generalize hP:Yk a r=P at hcut g6 ⊢;generalize hD:((bodyC a r).dropWhile fun b=> !inK (Tj a) b)=D at hcut hrest hrl hD6 g6 hcnt ⊢;have hlt:D.tail.length<(a::r).length:=by rw[Ga];omega
   have again: ∀(p':zt) (out':List zN),okQ p'->p'.constructs=((bif top then c+1 else c:Nat):Int)->zL zy out'+6*zV D.tail<=6*zV v->Z4 (rmQ q) (fV top v)=(out'++(Z4 (rmQ p') (fV top D.tail)).1,(Z4 (rmQ p') (fV top D.tail)).2)->
     (okQ p'/\zL zy out'+6*zV D.tail<=6*zV v/\(∃c:Nat,p'.constructs=(c:Int)/\c+zV D.tail<=M/\(bif top then c+cntC D.tail=c0+cntC v else c=c0))/\Z4 (rmQ q) (fV top v)=(out'++(Z4 (rmQ p') (fV top D.tail)).1,(Z4 (rmQ p') (fV top D.tail)).2))/\D.tail.length<(a::r).length:=fun p' out' n1 n2 n3 n4=>by
    refine⟨⟨n1,n3,⟨_,n2,?_,?_⟩,n4⟩,hlt⟩
    ·cases top with
     |true=>rw[Ca];omega
     |false=>rw[Ba];omega
    ·cases top with
     |true=> rw[Ca,hcnt,Oa (by rw[hs];decide)]at g5;rw[Ca,Ca];omega
     |false=>exact g5
   have hP:zV P<=zV (a::r):=by omega
   have ho4:i4.length<=zL zy i4:=ZF Rk i4;have out2: ∀x:zN,zL zy (i4++[x])=zL zy i4+zq (zy x):=fun x=>by rw[lh,Z6,og,Nc]
   -- no room; a rule that is kept, or not
   have none0:(i3.room==0)=true-> ∀F:List zN,Z4 (rmQ q) (fV top v)=(i4++(Z4 (rmQ i3) (F++fV top D.tail)).1,(Z4 (rmQ i3) (F++fV top D.tail)).2)->Z4 (rmQ q) (fV top v)=(i4++(Z4 (rmQ i3) (fV top D.tail)).1,(Z4 (rmQ i3) (fV top D.tail)).2):=fun h F h6=>by rw[rm_0 k1,ja]at h;rw[h,Wt]at h6;rw[h,Wt];exact h6
   have keep: ∀(F:List zN) (y:vv),Yv i3 F y->Z4 (rmQ q) (fV top v)=(i4++(Z4 (rmQ i3) (F++fV top D.tail)).1,(Z4 (rmQ i3) (F++fV top D.tail)).2)->
     Z4 (rmQ q) (fV top v)=((i4++bif y.1.2 then [y.1.1]else [])++(Z4 (rmQ y.2) (fV top D.tail)).1,(Z4 (rmQ y.2) (fV top D.tail)).2):=fun F y hy h6=>by
    unfold Yv at hy;rw[WZ,hy]at h6;rw[h6,Ub]
   refine Has.eqb (iW D) ?_;refine Has.bif (fun h23=> ?_) fun h23=> ?_
   ·cases D with
    |nil=>cases h23
    |cons d t=>
     have hd:=Qr d t;have e5:(d::t).tail=t:=rfl;have h23:(d.token.kind==23)=true:=h23;dsimp only at g6;rw[h23,Ca]at g6;refine Has.eqb (show geti (d::t) 0=some d from rfl) ?_;refine Has.join (lX (d::t) i3 i4) fun j e6=> ?_;subst e6;dsimp only;refine Has.bif (fun h0=>Has.some (again i3 i4 k1 k2 (by rw[e5];omega) (none0 h0 _ g6))) fun h0=> ?_;refine Has.bind (zIa (S:=S) (N:=zV d.list+1) (c:=bif top then c+1 else c) (fun l q h1 h2 h3=>hS l q _ h1 h2 ?_ (by omega)) (by omega) (by omega) (by omega) k1 h0 k2) fun y ⟨n1,n2,n3,n4⟩=> ?_
     ·cases top with
      |true=>rw[Ca];omega
      |false=>rw[Ba];omega
     have n5:=keep _ y n4 g6;refine Has.bif (fun ht=> ?_) fun hf=> ?_
     ·rw[ht,Ca]at n5;refine Has.need (qy (by omega)) (Has.some (again _ _ n2 n3 ?_ ?_))
      ·rw[e5,out2,wm];omega
      ·rw[wm];exact n5
     ·rw[hf,Ba,Yb]at n5;exact Has.some (again _ i4 n2 n3 (by rw[e5];omega) n5)
   ·refine Has.join (lX D i3 i4) fun j e6=> ?_;subst e6;dsimp only;have hDt:zV D.tail<=zV D:=Vp (List.tail_sublist D);have g6:Z4 (rmQ q) (fV top v)=(i4++(Z4 (rmQ i3) (Rj (Ij (a.token.kind==3) (Ol a) P) []++fV top D.tail)).1,(Z4 (rmQ i3) (Rj (Ij (a.token.kind==3) (Ol a) P) []++fV top D.tail)).2):=by
     cases D with
     |nil=>exact g6
     |cons d t=> have h23:(d.token.kind==23)=false:=h23;dsimp only at g6;rw[h23,Ba]at g6;exact g6
    refine Has.bif (fun h0=>Has.some (again i3 i4 k1 k2 (by omega) (none0 h0 _ g6))) fun h0=> ?_;refine Has.bind (zFf (c:=bif top then c+1 else c) (by omega) k1 h0 k2) fun y ⟨n1,n2,n3,n4,n6⟩=> ?_;have n5:=keep _ y n6 g6;refine Has.bif (fun hf=> ?_) fun hf=> ?_
    ·have hk:(a.token.kind==3)=true:=by
      cases hk:a.token.kind==3 with
      |true=>rfl
      |false=>rw[n4 hk]at hf;cases hf
     have h6:zV (bodyC a r)+6<=zV (a::r):=by unfold bodyC;rw[hk,Ca];omega
     rw[hf,Ca]at n5;refine Has.need (qy (by omega)) (Has.some (again _ _ n2 n3 ?_ ?_))
     ·rw[out2,wm];omega
     ·rw[wm];exact n5
    ·rw[hf,Ba,Yb]at n5;exact Has.some (again _ i4 n2 n3 (by omega) n5)
theorem LQ{v:List zb}{q:zt}(top:Bool){c:Nat}(h1:40*zV v+200<=big)(hq:okQ q)(hc:q.constructs=(c:Int))(h2:c+zV v<=big):
  Has (Ze ((v,top),q)) fun y=>zL zy y.1<=6*zV v/\okQ y.2/\y.2.constructs=((bif top then c+cntC v else c:Nat):Int)/\Z4 (rmQ q) (fV top v)=(y.1,rmQ y.2):=by
 have h:=El ziQ (fun z=>zV z.1.1) (fun z=>40*zV z.1.1+200<=big/\okQ z.2/\ ∃c:Nat,z.2.constructs=(c:Int)/\c+zV z.1.1<=big)
  (fun z y=> ∀c:Nat,z.2.constructs=(c:Int)->zL zy y.1<=6*zV z.1.1/\okQ y.2/\y.2.constructs=((bif z.1.2 then c+cntC z.1.1 else c:Nat):Int)/\Z4 (rmQ z.2) (fV z.1.2 z.1.1)=(y.1,rmQ y.2))
  (fun S ⟨⟨v,top⟩,q⟩ ⟨h1,hq,c,hc,h2⟩ hS=>by
   dsimp only at h1 hq hc h2 hS ⊢;refine(zCQ (S:=S) (N:=zV v) (M:=big) h1 (Xa _) (fun l q c hq hc hM hl=> ?_) top (Xa _) hq hc h2).wk fun y hy c' hc'=> ?_
   ·exact Has.wk (hS ((l,false),q) ⟨by dsimp only;omega,hq,c,hc,hM⟩ hl) fun y hy=>hy c hc
   ·obtain rfl:c=c':=by rw[hc]at hc';exact Int.ofNat.inj hc'
    exact hy)
  (x:=((v,top),q)) ⟨h1,hq,c,hc,h2⟩
 exact Has.wk h fun y hy=>hy c hc
theorem KW: ∀(a b:List zN),mx Pf (a++b)=max (mx Pf a) (mx Pf b)
 |[],b=>by rw[Bc,mx];omega
 |v::a,b=>by rw[Sb,mx,mx,KW a b];omega
theorem zCi{k:Int}{s:List zm}{d:List Zu}{c:zu}{m:List (List Str)}{q q':List zN}(hq:q.isEmpty=true->q'.isEmpty=true)(h:Gj ⟨k,s,d,c,m,q⟩=true):Gj ⟨k,s,d,c,m,q'⟩=true:=by
 revert h;unfold Gj;dsimp only;cases k==1 with
 |true=> simp only[Ca,Da];exact fun⟨h1,h2,h3,h4,h5,h6⟩=>⟨h1,h2,h3,h4,hq h5,h6⟩
 |false=>
  cases k==2 with
  |true=>exact id
  |false=>
   cases k==3 with
   |true=>exact id
   |false=>
    cases k==4 with
    |true=>exact id
    |false=>
     cases k==5 with
     |true=> simp only[Ba,Ca,Da];exact fun⟨h1,h2,h3,h4,h5⟩=>⟨h1,h2,h3,hq h4,h5⟩
     |false=>exact id
def okG(N:Nat)(l:List zN):Prop:=l.all qm=true/\mx Pf l<=N
theorem Lt(N:Nat):okG N []:=⟨rfl,Va _⟩
theorem wV{N:Nat}{a b:List zN}(h:okG N a)(g:okG N b):okG N (a++b):=
 ⟨by rw[Ue,h.1,g.1];rfl,by rw[KW];exact Nat.max_le.2 ⟨h.2,g.2⟩⟩
theorem vV{N:Nat}{r:zN}(h1:qm r=true)(h2:Pf r<=N):okG N [r]:=⟨by rw[Ad,h1];rfl,by show max _ 0<=N;omega⟩
theorem wB{N:Nat}{z:zN×Bool}{p b:List zb}{G:List zN}(hz:okZ z p b)(hp:Zc p<=N)(hb:(z.2=true->z.1.kind=5)\/1+Zc b<=N)(hG:okG (Zc b) G):okG N (Rj z G):=by
 obtain⟨r,f⟩:=z;unfold Rj;cases f with
 |false=>exact Lt N
 |true=>
  obtain⟨h0,_,_,hv⟩:=hz;obtain⟨h1,h2,h3,h4,h5⟩:=hv rfl;obtain⟨k,s,d,c,m,q⟩:=r;have h0:q=[]:=h0;subst h0;dsimp only at h1 h2 h3 h5;have key: ∀G:List zN,okG (Zc b) G->Gj ⟨k,s,d,c,m,G⟩=true->okG N [⟨k,s,d,c,m,G⟩]:=fun G hG h1=>by
   refine vV ?_ ?_
   ·rw[Lu,h1,h2,hG.1];rfl
   ·rw[Dx];have hc:Ej ⟨k,s,d,c,m,G⟩<=Zc p:=h4;have hg:=hG.2;dsimp only;rcases hb with hb|hb
    ·rw[show k=5 from hb rfl];exact Va _
    ·cases k==5 with
     |true=>exact Va _
     |false=>rw[Ba];omega
  rw[Ca];cases hk:Gi ⟨k,s,d,c,m,[]⟩with
  |true=>
   refine key G hG ?_;unfold Gj at h1 ⊢;unfold Gi at hk;dsimp only at h1 hk ⊢;cases e2:k==2 with
   |true=>rw[Db.1 e2]at h1 ⊢;exact h1
   |false=>
    rw[e2,Ba]at hk;cases e3:k==3 with
    |true=>rw[Db.1 e3]at h1 ⊢;exact h1
    |false=> rw[e3,Ba]at hk;rw[Db.1 hk]at h1 ⊢;exact h1
  |false=>exact key [] (Lt _) h1
theorem zIG(a:zb)(r:List zb):(Yk a r).Sublist (a::r)/\(Ml a r).Sublist (a::r):=by
 have h:(bodyC a r).Sublist (a::r):=by
  unfold bodyC;cases a.token.kind==3
  ·exact Ce _
  ·exact Ie ..
 exact⟨(List.takeWhile_sublist _).trans h,(Xb _).trans h⟩
theorem sH: ∀(n:Nat) (top:Bool) (v:List zb),zV v<n->40*zV v+200<=big->okG (Zc v) (fV top v)
 |0,_,_,h,_=>by omega
 |n+1,top,[],_,_=>by rw[DV];exact Lt _
 |n+1,top,a::r,hn,hb=>by
  have hz:=Qr a r;have hr:=Q3 (Ie a r);have mono: ∀{N M:Nat} {l:List zN},okG N l->N<=M->okG M l:=fun h g=>⟨h.1,Bb h.2 g⟩;rw[bW];cases Fs top a with
  |true=>exact mono (sH n top r (by omega) (by omega)) hr
  |false=>
   obtain⟨h1,h2,h3⟩:=Ow a r;obtain⟨s1,s2⟩:=zIG a r;rw[<-uw]at h3;have s3:(Nl (a::r)).Sublist (a::r):=by rw[uw];exact(List.tail_sublist _).trans s2
   refine wV ?_ (mono (sH n top (Nl (a::r)) (by omega) (by omega)) (Q3 s3));have hp:=Q3 s1;have no:okG (Zc (a::r)) (Rj (Ij (a.token.kind==3) (Ol a) (Yk a r)) []):=by obtain⟨g1,g2,_⟩:=vY (at_:=a.token.kind==3) (name:=Ol a) (p:=Yk a r) (by omega);exact wB g1 hp (.inl fun h=>(g2 h).2) (Lt _)
   unfold oneF;cases hD:Ml a r with
   |nil=>exact no
   |cons b t=>
    dsimp only;cases hk:b.token.kind==23 with
    |false=>exact no
    |true=> rw[hD]at h1 s2;have hzb:=Qr b t;have hdb:Jh b<=Zc (a::r):=Bb (by rw[Zc];omega) (Q3 s2);rw[yw (by rw[Db.1 hk];decide)]at hdb;obtain⟨g1,_⟩:=gY (at_:=a.token.kind==3) (name:=Ol a) (p:=Yk a r) (b:=b) (by omega) (by omega);exact wB g1 hp (.inr hdb) (sH n false b.list (by omega) (by omega))
theorem Fq: ∀(l:List zN) (n:Nat) {N:Nat},okG N l->okG N (Z4 n l).1
 |[],n,N,_=>by rw[Z4];exact Lt _
 |r::l,0,N,_=>by rw[Wt];exact Lt _
 |⟨k,s,d,c,m,q⟩::l,n+1,N,h=>by
  obtain⟨h1,h2⟩:=h;rw[Ad,Da,Lu,Da,Da]at h1;obtain⟨⟨g1,g2,g3⟩,g4⟩:=h1;rw[mx]at h2;dsimp only at g2 g3;have hq:=Fq q n (N:=mx Pf q) ⟨g3,Xa _⟩;rw[Z4];refine wV (a:=[_]) (vV ?_ ?_) (Fq l _ ⟨g4,by omega⟩)
  ·rw[Lu];dsimp only;rw[zCi (fun e=>by cases q with|nil=>rw[Z4];rfl|cons=>cases e) g1,g2,hq.1];rfl
  ·have h3:Pf ⟨k,s,d,c,m,q⟩<=N:=by omega
   rw[Dx]at h3 ⊢;dsimp only at h3 ⊢;have e:Ej ⟨k,s,d,c,m,(Z4 n q).1⟩=Ej ⟨k,s,d,c,m,q⟩:=rfl;have:=hq.2;rw[e];cases h5:k==5 with
   |true=>exact Va _
   |false=>rw[h5,Ba]at h3;rw[Ba];omega
theorem zCR{v:List zb}(h1:40*zV v+200<=big)(he:errS v=0):Rh (Z4 64 (fV true v)).1=true:=by
 have hd:Zc v<=16:=by
  unfold errS at he;split at he
  ·cases he
  ·omega
 obtain⟨g1,g2⟩:=Fq (fV true v) 64 (sH _ true v (Fe _) h1);have g3:=(fJ (fV true v) 64).1;unfold Rh;rw[g1,Fa (show Jf (Z4 64 (fV true v)).1<=64 by omega),Fa (show mx Pf (Z4 64 (fV true v)).1<=16 by omega)];rfl
structure Sf (d:UInt8) (y:Str):Prop where
 f:fstB d=false
 l:letB d=false
 g:digB d=false
 s:Uk d=false
 a:(d==45)=false
 b:(d==46)=false
 c:(d==92)=false
 n:(d==10)=false
 e:(d==40)=false
 p:(d==37)=false
 m:d≠42
 o:[33,45,45].isPrefixOf (d::y)=false
 x:(d==101||d==69)=false
 k:d≠60/\d≠62
structure Closed (w:Str):Prop where
 len:w.length<=4000
 tok:(qh w).2=0
 par:ah (jg (Proofs.Cl.cleanS w)) ([],[])=some ((parS (qh w).1).1,[])
 last: ∃t b,(parS (qh w).1).1=t++[b]/\b.token.kind=23
 run: ∃l0 R0,run (Proofs.Cl.cleanS w) l0 R0/\cmtS R0=[125]
def wzT:List zg->Nat
 |[]=>0
 |t::r=>6+t.text.length+t.unit.length+wzT r
theorem nU: ∀l:List zg,wzT l=wtT l+5*l.length
 |[]=>rfl
 |t::r=>by rw[wzT,wtT,nU r,Ga];omega
theorem LB: ∀(n:Nat) (l:List zg) (c:Int) (left:Nat) (v:List zb×List zg),jf n l c left=some v->zV v.1+wzT v.2<=wzT l
 |0,_,_,_,_,h=>by cases h
 |n+1,[],c,left,v,h=>by
  rw[jf]at h;cases h;exact Xa _
 |n+1,t::r,c,left,v,h=>by
  have z0:zV []=0:=rfl;rw[Hy]at h;rw[wzT];split at h
  ·cases h;simp only[z0];omega
  split at h
  ·cases hv:jf n r c left with
   |none=>rw[hv]at h;cases h
   |some w=> rw[hv]at h;cases h;have:=LB n r c left w hv;simp only[Qr,z0];omega
  ·cases left with
   |zero=>cases h
   |succ m=>
    simp only at h;cases hw:jf n r (Zn t.kind) m with
    |none=>rw[hw]at h;cases h
    |some w=>
     rw[hw,Aa]at h;cases hv:jf n w.2 c (m+1)with
     |none=>rw[hv]at h;cases h
     |some v'=> rw[hv]at h;cases h;have h1:=LB n w.2 c _ v' hv;have h2:=LB n r _ m w hw;simp only[Qr];omega
theorem zN2(l:List zg):zV (parS l).1<=wtT l+5*l.length:=by
 rw[<-nU];have z0:zV []=0:=rfl;unfold parS;split
 ·exact Va _
 ·split
  ·exact Va _
  ·rename_i s hs;split
   ·exact Va _
   ·have hp:=UW l;rw[hs,Cc]at hp;cases hv:kM l 0 16 with
    |none=>rw[hv]at hp;cases hp
    |some v=> rw[hv,Cc]at hp;injection hp with hp;have:=LB _ _ _ _ v hv;rw[hp];dsimp only;omega
theorem vN{w:Str}(hw:w.length<=1800):zV (parS (qh w).1).1<=34500:=by
 have h1:=zN2 (qh w).1;have h4:=KP w;have h3:wtT (qh w).1<=5*(Proofs.Cl.cleanS w).length/\(qh w).1.length<=1500:=by
  have:=pU (Proofs.Cl.cleanS w);unfold qh;split
  ·exact⟨Va _,Va _⟩
  ·split
   ·exact⟨Va _,Va _⟩
   ·exact⟨this,by dsimp only;omega⟩
 omega
def yj(w:Str):List zN:=(Z4 64 (fV true (parS (qh w).1).1)).1
def okW(w:Str):Prop:=(qh w).2=0/\(parS (qh w).1).2=0
theorem zIc{w:Str}(hw:w.length<=1800):zL zy (yj w)<=207000:=by have hz:=vN hw;obtain⟨y,_,g1,_,_,g4⟩:=LQ (v:=(parS (qh w).1).1) (q:=⟨64,0⟩) true (c:=0) (by unfold big;omega) ⟨64,by omega,rfl⟩ rfl (by unfold big;omega);have g4:Z4 64 (fV true (parS (qh w).1).1)=(y.1,rmQ y.2):=g4;unfold yj;rw[g4];dsimp only;omega
theorem zOe{w:Str}(hw:w.length<=1800):(okW w/\qo w=some (⟨yj w⟩,0))\/ ∃e,(e != 0)=true/\qo w=some (⟨[]⟩,e)/\((qh w).2=e\/(qh w).2=0/\(parS (qh w).1).2=e):=by
 have hp:parseF (qh w).1=some (parS (qh w).1):=rfl;unfold qo oq wu kD wE;simp only[JP,hp,za,Aa];cases h1:(qh w).2==0 with
 |false=>
  have h1':((qh w).2 != 0)=true:=by rw[bne,h1];rfl
  simp only[h1',Ua,Ca,Aa];exact .inr ⟨_,h1',rfl, .inl rfl⟩
 |true=>
  have h1':((qh w).2 != 0)=false:=by rw[bne,h1];rfl
  simp only[h1',Ya,Ba];cases h2:(parS (qh w).1).2==0 with
  |false=>
   have h2':((parS (qh w).1).2 != 0)=true:=by rw[bne,h2];rfl
   simp only[h2',Ua,Ca,Aa];exact .inr ⟨_,h2',rfl, .inr ⟨Db.1 h1,rfl⟩⟩
  |true=>
   have h2':((parS (qh w).1).2 != 0)=false:=by rw[bne,h2];rfl
   have hz:=vN hw;obtain⟨y,hy,_,_,_,g4⟩:=LQ (v:=(parS (qh w).1).1) (q:=⟨64,0⟩) true (c:=0) (by unfold big;omega) ⟨64,by omega,rfl⟩ rfl (by unfold big;omega);have g4:Z4 64 (fV true (parS (qh w).1).1)=(y.1,rmQ y.2):=g4;simp only[h2',Ya,Ba,hy,Aa,show((0:Int) != 0)=false from rfl];refine .inl ⟨⟨Db.1 h1,Db.1 h2⟩,?_⟩;unfold yj;rw[g4]
end Go.Lv.VT
end
