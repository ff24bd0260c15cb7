/- Sheets, read: rules of values: they have a value, of bounded size; how many constructs there are. -/
import Derived.Test.YtpodafkicdifmaaGreatDoorXi
import Derived.Test.YtpodafkicdifmaaGreatDoorXc
import Derived.Test.YtpodafkicdifmaaGreatDoorXh
noncomputable section
set_option linter.unusedSimpArgs false
set_option linter.unusedVariables false
namespace Go.Lv.VT
set_option maxRecDepth 100000
theorem uW{α:Type}(p:α->Bool): ∀l:List α,(idxS p l<0/\l.takeWhile (fun a=> !p a)=l/\l.dropWhile (fun a=> !p a)=[])\/ ∃n:Nat,n<l.length/\idxS p l=(n:Int)/\l.take n=l.takeWhile (fun a=> !p a)/\l.drop n=l.dropWhile (fun a=> !p a)
 |[]=> .inl ⟨(by decide:(-1:Int)<0),rfl,rfl⟩
 |a::l=>by
  rw[idxS,List.takeWhile_cons,Kc];cases hp:p a with
  |true=>exact .inr ⟨0,by simp,rfl,by simp,by simp⟩
  |false=>
   simp only[Ba,Xa,Ee];rcases uW p l with⟨h1,h2,h3⟩|⟨n,h1,h2,h3,h4⟩
   ·rw[Ga h1,Ca,h2,h3];exact .inl ⟨by decide,rfl,rfl⟩
   ·rw[Ua (by omega),Ba,h2];exact .inr ⟨n+1,by simp only[Fa];omega,rfl,by rw[Oe,h3],by rw[List.drop_succ_cons,h4]⟩
def inK(ks:Str)(a:zb):Bool:=ks.any fun b=>a.token.kind==(b.toNat:Int)
theorem zJj{v:List zb}{ks:Str}(hv:v.length<=big)(hk:ks.length<=big):JE (v,ks)=some (v.takeWhile (fun a=> !inK ks a),v.dropWhile (fun a=> !inK ks a)):=by
 have hc: ∀a:zb,pG (a.token.kind,ks)=some (inK ks a):=fun a=>by
  unfold pG GL;refine Dl (ni ks (fun b=>a.token.kind==(b.toNat:Int)) hk (fun i hi=> ?_) ?_) (Jk _ _)
  ·simp only[Zb hi,Ca,aU hi,ZX,Ib,Va hi,za,Aa];rw[show decide ((0:Int)<=(i:Int))=true from Ga (by omega)];rfl
  ·simp only[Ze,Ba]
 have hi:Qx (v,ks)=some (idxS (inK ks) v):=by
  unfold Qx;refine ni v (inK ks) hv (fun i hi=> ?_) ?_
  ·simp only[Zb hi,Ca,zN hi,bK,hc,za,Aa]
  ·simp only[Ze,Ba]
 unfold JE;simp only[hi,za,Aa];rcases uW (inK ks) v with⟨h1,h2,h3⟩|⟨n,h1,h2,h3,h4⟩
 ·rw[Ga h1,Ca,h2,h3]
 ·rw[h2,Ua (by omega),Ba,Ib,h3,h4];have:(decide ((0:Int)<=(n:Int))&&decide ((n:Int)<=(v.length:Int)))=true:=by rw[Ea,ja,ja];omega
  rw[this];rfl
theorem nW(v:List zb):Xy v=some (Em v):=by
 unfold Xy Em;cases v with
 |nil=>rfl
 |cons a r=> have e0:(((a::r).length:Int)==0)=false:=Da.2 (by simp only[Fa];omega);have e1:geti (a::r) 0=some a:=rfl;simp only[e0,e1,Ba,za,Aa]
def Uk(top:Bool)(a:zb):Bool:=bif a.token.kind==13 then true else bif top then bif a.token.kind==14 then true else a.token.kind==15 else false
def Ej(v:List zb):List zb:=match v with
 |[]=>[]
 |a::r=>bif a.token.kind==3 then(r.dropWhile fun b=> !inK [23,17] b).tail else((a::r).dropWhile fun b=> !inK [23] b).tail
theorem Y3(p:zb->Bool)(a:zb)(r:List zb):(((a::r).dropWhile p).tail).length<=r.length:=by have h:=(jb p (l:=a::r)).length_le;rw[List.length_tail];rw[Fa]at h;omega
theorem fI(a:zb)(r:List zb):(Ej (a::r)).length<=r.length:=by
 show(bif a.token.kind==3 then(r.dropWhile fun b=> !inK [23,17] b).tail else((a::r).dropWhile fun b=> !inK [23] b).tail).length<=_;cases a.token.kind==3
 ·exact Y3 _ a r
 ·rw[Ca];have h:=(jb (fun b=> !inK [23,17] b) (l:=r)).length_le;rw[List.length_tail];omega
def cntC:List zb->Nat
 |[]=>0
 |a::r=>if Uk true a then cntC r else 1+cntC (Ej (a::r))
termination_by v=>v.length
decreasing_by
 ·simp
 ·have:=fI a r;simp only[Fa];omega
def okQ(q:zq):Prop:= ∃n:Nat,n<=64/\q.room=(n:Int)
theorem cO{q:zq}(h:okQ q)(h0:(q.room==0)=false)(c:Int):okQ ⟨w64 (q.room - 1),c⟩:=by
 obtain⟨n,h1,h2⟩:=h;have hn:n≠0:=fun e=>by subst e;rw[h2]at h0;cases h0
 refine⟨n - 1,by omega,?_⟩;show w64 (q.room - 1)=_;rw[h2,show(n:Int) - 1=((n - 1:Nat):Int) by omega];exact Tn (by unfold big;omega)
theorem zNp(ks:Str)(v:List zb):zV (v.takeWhile fun a=> !inK ks a)+zV (v.dropWhile fun a=> !inK ks a)=zV v:=by show zL zA _+zL zA _=zL zA v;rw[<-wh,List.takeWhile_append_dropWhile]
theorem HZ(D:List zb)(p:zq)(o:List zM){R:Type}{Q:R->Prop}:Has (bif decide ((D.length:Int)>0)then need (decide (1<=(D.length:Int)))<|some (LX.out (List.drop 1 D,p,o))else some (LX.out (D,p,o)):Option (LX (List zb×zq×List zM) R))
  (LXq (fun j=>j=(D.tail,p,o)) Q):=by
 rw[nk];cases D with
 |nil=>exact Has.some rfl
 |cons d t=>exact Has.need (Vt (by simp)) (Has.some rfl)
theorem ll(r:zM):(⟨r.kind,r.selectors,r.decls,⟨r.cond.kind,r.cond.name,r.cond.num,r.cond.decl,r.cond.list⟩,r.names,r.rules⟩:zM)=r:=by obtain⟨k,s,d,⟨c1,c2,c3,c4,c5⟩,n,l⟩:=r;rfl
section
end
theorem kJ: ∀(a b:List zf) (s:PSt),qi (a++b) s=(qi a s).bind (qi b)
 |[],_,_=>rfl
 |t::a,b,s=>by
  rw[Ab,qi,qi];cases qL s t with
  |none=>rfl
  |some s1=>exact kJ a b s1
theorem zDp{l:List zf}(h:(parS l).2=0)(hl:(tokL (parS l).1).length=l.length):qi l ([],[])=some ((parS l).1,[]):=by
 unfold parS at h hl ⊢;split at h
 ·cases h
 ·rename_i h1;rw[Ha h1]at hl ⊢;cases hr:qi l ([],[])with
  |none=>rw[hr]at h;cases h
  |some s=>
   rw[hr]at h hl;dsimp only at h hl ⊢;split at h
   ·cases h
   ·rename_i h2;rw[Ha h2]at hl ⊢;obtain⟨g1,g2⟩:=vI l hr (fun x hx=>by cases hx);have g3:=uJ s.2 s.1 g1;have g4:Ki (([],[]):PSt)=0:=rfl;dsimp only at hl;have g5:s.2=[]:=Ag.1 (by rw[hl,show Ki (s.1,s.2)=Ki s from rfl]at g3;omega);obtain⟨cur,st⟩:=s;have g5:st=[]:=g5;subst g5;rfl
theorem zLe{l:List zf}{v:List zb}(h:qi l ([],[])=some (v,[])):parS l=if 1500<l.length then([],4)else(v,0):=by
 unfold parS;rw[h];dsimp only;split
 ·rfl
 ·rename_i h1;rw[Ha (by simpa using h1)];rfl
def ZL:Nat->List zM->List zM×Nat
 |n,[]=>([],n)
 |0,_::_=>([],0)
 |n+1,⟨k,s,d,c,m,q⟩::l=>(⟨k,s,d,c,m,(ZL n q).1⟩::(ZL (ZL n q).2 l).1,(ZL (ZL n q).2 l).2)
theorem Mt(l:List zM):ZL 0 l=([],0):=by cases l<;>rw[ZL]
theorem Dy: ∀(l:List zM) (n:Nat),ql (ZL n l).1=min n (ql l)/\(ZL n l).2=n - ql l
 |[],n=>by rw[ZL];simp[ql]
 |_::_,0=>by rw[ZL];simp[ql]
 |⟨k,s,d,c,m,q⟩::l,n+1=>by rw[ZL,ql,ql,Tq,Tq];obtain⟨h1,h2⟩:=Dy q n;obtain⟨h3,h4⟩:=Dy l (ZL n q).2;dsimp only;rw[h3,h4,h1,h2];omega
theorem LD: ∀(l:List zM) (n:Nat),ql l<=n->(ZL n l).1=l
 |[],n,_=>by rw[ZL]
 |⟨k,s,d,c,m,q⟩::l,0,h=>by rw[ql,Tq]at h;omega
 |⟨k,s,d,c,m,q⟩::l,n+1,h=>by rw[ql,Tq]at h;dsimp only at h;have h2:=(Dy q n).2;rw[ZL,LD q n (by omega),LD l _ (by omega)]
theorem WP: ∀(a b:List zM) (n:Nat),ZL n (a++b)=((ZL n a).1++(ZL (ZL n a).2 b).1,(ZL (ZL n a).2 b).2)
 |[],b,n=>by rw[ZL];rfl
 |r::a,b,0=>by rw[Mt,Mt];dsimp only;rw[Mt];rfl
 |⟨k,s,d,c,m,q⟩::a,b,n+1=>by rw[Ab,ZL,ZL,WP a b];rfl
theorem vY{X R:Type}{m:Option (LX X R)}{k:X->Option R}{x:X}{y:Option R}(h:m=some (.out x))(g:k x=y):Zh m k=y:=by rw[h];exact g
def Ji(r:zM):Bool:=bif bif r.kind==2 then true else r.kind==3 then true else r.kind==4
abbrev DV:=Bool×zq×(Int×Int×Str×Int×Str×Bool)×zM
abbrev Bw:=(zM×Bool)×zq
def fH(at_:Bool)(name:Str)(p:List zb)(b:zb)(q:zq):Option (LX DV Bw):=
   bif bif !at_ then true else false then
    za (Dz (p,b.list)) fun y1=>
    some (LX.out (y1.2,q,(0,0,[],0,[],false),(⟨y1.1.kind,y1.1.selectors,y1.1.decls,(⟨y1.1.cond.kind,y1.1.cond.name,y1.1.cond.num,y1.1.cond.decl,y1.1.cond.list⟩:zw),y1.1.names,y1.1.rules⟩:zM)))
   else
    bif bif at_ then name==[108,97,121,101,114]else false then
     za (ym (p,true)) fun y2=>
     some (LX.out (y2.2,q,(0,0,[],0,[],false),(⟨y2.1.kind,y2.1.selectors,y2.1.decls,(⟨y2.1.cond.kind,y2.1.cond.name,y2.1.cond.num,y2.1.cond.decl,y2.1.cond.list⟩:zw),y2.1.names,y2.1.rules⟩:zM)))
    else
     bif bif bif at_ then name==[109,101,100,105,97]else false then true else false then
      za (tq p) fun y3=>
      some (LX.out (y3.2==0,q,(0,0,[],0,[],false),(⟨2,[],[],(⟨y3.1.kind,y3.1.name,y3.1.num,y3.1.decl,y3.1.list⟩:zw),[],[]⟩:zM)))
     else
      bif bif bif at_ then name==[115,117,112,112,111,114,116,115]else false then true else false then
       za (Yr p) fun y4=>
       some (LX.out (y4.2==0,q,(0,0,[],0,[],false),(⟨3,[],[],(⟨y4.1.kind,y4.1.name,y4.1.num,y4.1.decl,y4.1.list⟩:zw),[],[]⟩:zM)))
      else
       some (LX.out (false,q,(0,0,[],0,[],false),(⟨0,[],[],(⟨0,[],0,(⟨[],[],false⟩:Zx),[]⟩:zw),[],[]⟩:zM)))
def VN(at_:Bool)(name:Str)(p:List zb)(q:zq):Option (LX DV Bw):=
   bif bif !at_ then false else false then
    none
   else
    bif bif at_ then name==[108,97,121,101,114]else false then
     za (ym (p,false)) fun y1=>
     some (LX.out (y1.2,q,(0,0,[],0,[],false),(⟨y1.1.kind,y1.1.selectors,y1.1.decls,(⟨y1.1.cond.kind,y1.1.cond.name,y1.1.cond.num,y1.1.cond.decl,y1.1.cond.list⟩:zw),y1.1.names,y1.1.rules⟩:zM)))
    else
     bif bif bif at_ then name==[109,101,100,105,97]else false then false else false then
      za (tq p) fun y2=>
      some (LX.out (y2.2==0,q,(0,0,[],0,[],false),(⟨2,[],[],(⟨y2.1.kind,y2.1.name,y2.1.num,y2.1.decl,y2.1.list⟩:zw),[],[]⟩:zM)))
     else
      bif bif bif at_ then name==[115,117,112,112,111,114,116,115]else false then false else false then
       za (Yr p) fun y3=>
       some (LX.out (y3.2==0,q,(0,0,[],0,[],false),(⟨3,[],[],(⟨y3.1.kind,y3.1.name,y3.1.num,y3.1.decl,y3.1.list⟩:zw),[],[]⟩:zM)))
      else
       some (LX.out (false,q,(0,0,[],0,[],false),(⟨0,[],[],(⟨0,[],0,(⟨[],[],false⟩:Zx),[]⟩:zw),[],[]⟩:zM)))
def semR(z:zM×Bool)(S:(List zb×Bool)×zq->Option (List zM×zq))(b:zb)(q:zq):Option Bw:=
 bif z.2 then(bif Ji z.1 then za (S ((b.list,false),⟨w64 (q.room - 1),q.constructs⟩)) fun y=>some ((⟨z.1.kind,z.1.selectors,z.1.decls,z.1.cond,z.1.names,y.1⟩,true),y.2)else some ((z.1,true),⟨w64 (q.room - 1),q.constructs⟩))else some ((noR,false),q)
def tL(z:zM×Bool)(q:zq):Option Bw:=bif z.2 then some ((z.1,true),⟨w64 (q.room - 1),q.constructs⟩)else some ((noR,false),q)
def okZ(z:zM×Bool)(p b:List zb):Prop:=z.1.rules=[]/\zt (zB z.1)<=36+6*zV p+zV b/\(Ji z.1=true->zt (zB z.1)<=36+6*zV p)/\okV z p b
theorem zNv{z:zM×Bool}{p b:List zb}(h:okV z p []):okV z p b:=fun e=>by obtain⟨h1,h2,h3,h4,h5⟩:=h e;refine⟨h1,h2,h3,h4,Db h5 ?_⟩;rw[Za];exact Ra _
theorem zFX{y:zw×Int}{p b:List zb}(h:y.2=0->uk y.1=true/\(askB y.1=true->1<=Za p)):okV (⟨2,[],[],y.1,[],[]⟩,y.2==0) p b:=fun e=>by
 obtain⟨h1,h2⟩:=h (Cb.1 e);refine⟨h1,rfl,PH _,?_,Ra _⟩;show(bif askB y.1 then 1 else 0)<=_;cases ha:askB y.1 with
 |true=>exact h2 ha
 |false=>exact Ra _
theorem zK9{y:zw×Int}{p b:List zb}(h:y.2=0->Ik y.1=true/\Vf y.1<=Za p):okV (⟨3,[],[],y.1,[],[]⟩,y.2==0) p b:=fun e=>by obtain⟨h1,h2⟩:=h (Cb.1 e);exact⟨h1,rfl,PH _,h2,Ra _⟩
theorem zKC{at_:Bool}{name:Str}{p:List zb}{b:zb}(hp:40*zV p+200<=big)(hb:40*zV b.list+200<=big): ∃z:zM×Bool,okZ z p b.list/\ ∀q,fH at_ name p b q=some (.out (z.2,q,(0,0,[],0,[],false),z.1)):=by
 have hst: ∀k:Int,k=0\/k=1->(bif bif k==2 then true else k==3 then true else k==4)=false:=fun k hk=>by rcases hk with rfl|rfl<;>rfl
 unfold fH;cases at_ with
 |false=>
  obtain⟨y,e,g1,g2,g3,g4⟩:=zG4 (p:=p) (b:=b.list) (by omega) (by omega);refine⟨y,⟨g2,by omega,fun h=> ?_,g4⟩,fun q=> ?_⟩
  ·unfold Ji at h;rw[hst _ g3]at h;cases h
  ·simp only[Xa,Ca,e,za,Aa,ll]
 |true=>
  simp only[aa,Ba,Ca];cases name==[108,97,121,101,114]with
  |true=> obtain⟨y,e,g1,g2,_,g4⟩:=iP (v:=p) (by omega) true;exact⟨y,⟨g2,by omega,fun _=>by omega,zNv g4⟩,fun q=>by simp only[Ca,e,za,Aa,ll]⟩
  |false=>
   cases name==[109,101,100,105,97]with
   |true=>
    obtain⟨y,ey,g,g4⟩:=zFA (x:=p) (by omega);have e:zt (zB (⟨2,[],[],y.1,[],[]⟩:zM))=5+0+0+zt (zk y.1)+0+0:=by rw[zR];rfl
    exact⟨(⟨2,[],[],y.1,[],[]⟩,y.2==0),⟨rfl,by dsimp only;omega,fun _=>by dsimp only;omega,zFX g4⟩,fun q=>by simp only[Ba,Ca,ey,za,Aa,Zq]⟩
   |false=>
    cases name==[115,117,112,112,111,114,116,115]with
    |true=>
     obtain⟨y,ey,g,g4⟩:=zLz (x:=p) (by omega);have e:zt (zB (⟨3,[],[],y.1,[],[]⟩:zM))=5+0+0+zt (zk y.1)+0+0:=by rw[zR];rfl
     exact⟨(⟨3,[],[],y.1,[],[]⟩,y.2==0),⟨rfl,by dsimp only;omega,fun _=>by dsimp only;omega,zK9 g4⟩,fun q=>by simp only[Ba,Ca,ey,za,Aa,Zq]⟩
    |false=> have e:zt (zB noR)=5+0+0+zt (zk ⟨0,[],0,⟨[],[],false⟩,[]⟩)+0+0:=zR _;rw[zNoC]at e;exact⟨(noR,false),⟨rfl,by dsimp only;omega,(fun _=>by dsimp only;omega),Gw _ _ _⟩,fun q=>rfl⟩
theorem zIj{at_:Bool}{name:Str}{p:List zb}(hp:40*zV p+200<=big): ∃z:zM×Bool,okZ z p []/\(z.2=true->Ji z.1=false/\at_=true/\z.1.kind=5)/\ ∀q,VN at_ name p q=some (.out (z.2,q,(0,0,[],0,[],false),z.1)):=by
 have e:zt (zB noR)=5+0+0+zt (zk ⟨0,[],0,⟨[],[],false⟩,[]⟩)+0+0:=zR _;rw[zNoC]at e;have bf: ∀x:Bool,(bif x then false else false)=false:=fun x=>by cases x<;>rfl
 have no:okZ (noR,false) p []:=⟨rfl,by dsimp only;omega,(fun _=>by dsimp only;omega),Gw _ _ _⟩;unfold VN;cases at_ with
 |false=>exact⟨(noR,false),no,(fun h=>nomatch h),fun q=>rfl⟩
 |true=>
  simp only[aa,Ba,Ca,bf];cases name==[108,97,121,101,114]with
  |true=>
   obtain⟨y,e,g1,g2,g3,g4⟩:=iP (v:=p) (by omega) false;refine⟨y,⟨g2,by omega,fun _=>by omega,g4⟩,fun hz=>⟨?_,trivial,?_⟩,fun q=>by simp only[Ca,e,za,Aa,ll]⟩
   ·unfold Ji;rcases g3 rfl with h|h<;>(rw[h];rfl)
   ·rcases g3 rfl with h|h
    ·have h1:=(g4 hz).1;unfold Cj at h1;rw[h]at h1;cases h1
    ·exact h
  |false=>exact⟨(noR,false),no,(fun h=>nomatch h),fun q=>rfl⟩
def Jl(at_:Bool)(name:Str)(p:List zb)(b:zb):zM×Bool:=(((fH at_ name p b ⟨0,0⟩).bind fun x=>match x with| .out j=>some (j.2.2.2,j.1)| .ret _=>none).getD (noR,false))
def Lj(at_:Bool)(name:Str)(p:List zb):zM×Bool:=(((VN at_ name p ⟨0,0⟩).bind fun x=>match x with| .out j=>some (j.2.2.2,j.1)| .ret _=>none).getD (noR,false))
theorem PY{at_:Bool}{name:Str}{p:List zb}{b:zb}(hp:40*zV p+200<=big)(hb:40*zV b.list+200<=big):okZ (Jl at_ name p b) p b.list/\ ∀S q,qB S ((at_,name,p,b),q)=semR (Jl at_ name p b) S b q:=by
 obtain⟨z,h1,h2⟩:=zKC (at_:=at_) (name:=name) hp hb;have hz:Jl at_ name p b=z:=by unfold Jl;rw[h2];rfl
 rw[hz];refine⟨h1,fun S q=> ?_⟩;obtain⟨r,f⟩:=z;unfold qB;refine vY (h2 q) ?_;unfold semR;cases f with
 |false=>rfl
 |true=>
  simp only[aa,Ba,Ca];cases hk:Ji r with
  |true=>
   unfold Ji at hk;simp only[hk,Ca,za];cases S ((b.list,false),⟨w64 (q.room - 1),q.constructs⟩)with
   |none=>rfl
   |some y=>simp only[Aa,zH,Zq]
  |false=> unfold Ji at hk;simp only[hk,Ba,zH,ll]
theorem rO{at_:Bool}{name:Str}{p:List zb}(hp:40*zV p+200<=big):okZ (Lj at_ name p) p []/\((Lj at_ name p).2=true->at_=true/\(Lj at_ name p).1.kind=5)/\ ∀q,Q8 ((at_,name,p),q)=tL (Lj at_ name p) q:=by
 obtain⟨z,h1,h3,h2⟩:=zIj (at_:=at_) (name:=name) hp;have hz:Lj at_ name p=z:=by unfold Lj;rw[h2];rfl
 rw[hz];refine⟨h1,fun h=>(h3 h).2,fun q=> ?_⟩;obtain⟨r,f⟩:=z;unfold Q8;refine vY (h2 q) ?_;unfold tL;cases f with
 |false=>rfl
 |true=> have hk:=(h3 rfl).1;unfold Ji at hk;simp only[aa,Ba,Ca];simp only at hk;simp only[hk,Ba,ll]
def bodyC(a:zb)(r:List zb):List zb:=bif a.token.kind==3 then r else a::r
def aj(a:zb):Str:=bif a.token.kind==3 then [23,17]else [23]
def Wj(a:zb):Str:=bif a.token.kind==3 then lowS a.token.text else []
def Xj(a:zb)(r:List zb):List zb:=(bodyC a r).takeWhile fun b=> !inK (aj a) b
def Tk(a:zb)(r:List zb):List zb:=(bodyC a r).dropWhile fun b=> !inK (aj a) b
def Aj(z:zM×Bool)(G:List zM):List zM:=bif z.2 then [bif Ji z.1 then⟨z.1.kind,z.1.selectors,z.1.decls,z.1.cond,z.1.names,G⟩else z.1]else []
def oneF(G:List zb->List zM)(a:zb)(r:List zb):List zM:=match Tk a r with
 |[]=>Aj (Lj (a.token.kind==3) (Wj a) (Xj a r)) []
 |b::_=>bif b.token.kind==23 then Aj (Jl (a.token.kind==3) (Wj a) (Xj a r) b) (G b.list)else Aj (Lj (a.token.kind==3) (Wj a) (Xj a r)) []
theorem Hu(a:zb)(r:List zb):Ej (a::r)=(Tk a r).tail:=by show(bif a.token.kind==3 then(r.dropWhile fun b=> !inK [23,17] b).tail else((a::r).dropWhile fun b=> !inK [23] b).tail)=_;unfold Tk bodyC aj;cases a.token.kind==3<;>rfl
theorem Ww(a:zb)(r:List zb):zV (Xj a r)+zV (Tk a r)=zV (bodyC a r)/\zV (bodyC a r)<=zV (a::r)/\zV (Tk a r).tail+6<=zV (a::r):=by
 have h1:=zNp (aj a) (bodyC a r);have h2:=Qi a r;have h3:zV (bodyC a r)<=zV (a::r):=by unfold bodyC;cases a.token.kind==3<;>simp only[Ca,Ba]<;>omega
 refine⟨h1,h3,?_⟩;unfold Xj Tk at*;cases hD:(bodyC a r).dropWhile fun b=> !inK (aj a) b with
 |nil=>show 0+6<=_;omega
 |cons d t=>rw[hD]at h1;have:=Qi d t;show zV t+6<=_;omega
theorem oQ{G G':List zb->List zM}{a:zb}{r:List zb}(h: ∀l,zV l<zV (a::r)->G l=G' l):oneF G a r=oneF G' a r:=by
 obtain⟨h1,h2,_⟩:=Ww a r;unfold oneF;cases hD:Tk a r with
 |nil=>rfl
 |cons b t=> rw[hD]at h1;have:=Qi b t;dsimp only;rw[h b.list (by omega)]
def fN:Nat->Bool->List zb->List zM
 |0,_,_=>[]
 |_+1,_,[]=>[]
 |n+1,top,a::r=>bif Uk top a then fN n top r else oneF (fN n false) a r++fN n top (Ej (a::r))
theorem Lt: ∀(n m:Nat) (top:Bool) (v:List zb),zV v<n->zV v<m->fN n top v=fN m top v
 |0,_,_,_,h,_=>by omega
 |_+1,0,_,_,_,h=>by omega
 |n+1,m+1,top,[],_,_=>by rw[fN,fN]
 |n+1,m+1,top,a::r,hn,hm=>by have hz:=Qi a r;have h3:=(Ww a r).2.2;rw[<-Hu]at h3;rw[fN,fN,Lt n m top r (by omega) (by omega),Lt n m top (Ej (a::r)) (by omega) (by omega),oQ fun l hl=>Lt n m false l (by omega) (by omega)]
def fV(top:Bool)(v:List zb):List zM:=fN (zV v+1) top v
theorem Nw(top:Bool):fV top []=[]:=by unfold fV;rw[fN]
theorem sw(top:Bool)(a:zb)(r:List zb):fV top (a::r)=bif Uk top a then fV top r else oneF (fV false) a r++fV top (Ej (a::r)):=by have hz:=Qi a r;have h3:=(Ww a r).2.2;rw[<-Hu]at h3;unfold fV;rw[fN,Lt (zV (a::r)) (zV r+1) top r (by omega) (by omega),Lt (zV (a::r)) (zV (Ej (a::r))+1) top _ (by omega) (by omega),oQ fun l hl=>Lt (zV (a::r)) (zV l+1) false l (by omega) (by omega)]
def rmQ(q:zq):Nat:=q.room.toNat
theorem rm_0{q:zq}(hq:okQ q):(q.room==0)=decide (rmQ q=0):=by obtain⟨n,_,h⟩:=hq;unfold rmQ;rw[h,Ib,Xe,Cb,ja];omega
theorem bV{q:zq}(hq:okQ q){m:Nat}(h:rmQ q=m+1)(c:Int):rmQ ⟨w64 (q.room - 1),c⟩=m:=by obtain⟨n,h1,h2⟩:=hq;unfold rmQ at h ⊢;rw[h2,Ib]at h;show(w64 (q.room - 1)).toNat=m;rw[h2,h,show((m+1:Nat):Int) - 1=(m:Int) by omega,Tn (n:=m) (by unfold big;omega),Ib]
def Yv(q:zq)(F:List zM)(y:Bw):Prop:=ZL (rmQ q) F=(bif y.1.2 then [y.1.1]else [],rmQ y.2)
section
variable {S:(List zb×Bool)×zq->Option (List zM×zq)} {N c:Nat}
variable (hS: ∀(l:List zb) (q:zq),okQ q->q.constructs=(c:Int)->zV l<N->Has (S ((l,false),q)) fun y=>zL zB y.1<=6*zV l/\okQ y.2/\y.2.constructs=(c:Int)/\ZL (rmQ q) (fV false l)=(y.1,rmQ y.2))
include hS
theorem zGC{at_:Bool}{name:Str}{p:List zb}{b:zb}{q:zq}(hp:40*zV p+200<=big)(hb:zV b.list<N)(hb2:40*zV b.list+200<=big)(hq:okQ q)(h0:(q.room==0)=false)(hc:q.constructs=(c:Int)):
  Has (qB S ((at_,name,p,b),q)) fun y=>zt (zB y.1.1)<=36+6*zV p+6*zV b.list/\okQ y.2/\y.2.constructs=(c:Int)/\Yv q (Aj (Jl at_ name p b) (fV false b.list)) y:=by
 obtain⟨⟨g1,g2,g3,_⟩,hs⟩:=PY (at_:=at_) (name:=name) hp hb2;have hz0:zt (zB noR)<=36+6*zV p+6*zV b.list:=by rw[zR];show 5+0+0+zt (zk ⟨0,[],0,⟨[],[],false⟩,[]⟩)+0+0<=_;rw[zNoC];omega
 obtain⟨m,hm⟩: ∃m,rmQ q=m+1:=by rw[rm_0 hq,decide_eq_false_iff_not]at h0;exact⟨rmQ q - 1,by omega⟩
 rw[hs];generalize Jl at_ name p b=z at g1 g2 g3;obtain⟨r,f⟩:=z;unfold semR Aj Yv;cases f with
 |false=>exact Has.some ⟨hz0,hq,hc,by rw[Ba,ZL];rfl⟩
 |true=>
  simp only[Ca];have hd:=bV hq hm q.constructs;cases hk:Ji r with
  |true=>
   refine Has.bind (hS _ _ (cO hq h0 _) hc hb) fun y ⟨k1,k2,k3,k4⟩=>Has.some ⟨?_,k2,k3,?_⟩
   ·have h7:=g3 hk;have g1:r.rules=[]:=g1;dsimp only at h7 ⊢;rw[zR,g1]at h7;rw[zR];dsimp only;have e0:zL zB ([]:List zM)=0:=rfl;omega
   ·rw[hd]at k4;rw[Ca,Ca,hm,ZL,k4];dsimp only;rw[ZL]
  |false=> refine Has.some ⟨by dsimp only at g2 ⊢;omega,cO hq h0 _,hc,?_⟩;obtain⟨k,s,d,cc,mm,l⟩:=r;have g1:l=[]:=g1;subst g1;rw[Ba,Ca,hm,ZL,ZL,hd];dsimp only;rw[ZL]
end
theorem zDu{at_:Bool}{name:Str}{p:List zb}{q:zq}{c:Nat}(hp:40*zV p+200<=big)(hq:okQ q)(h0:(q.room==0)=false)(hc:q.constructs=(c:Int)):
  Has (Q8 ((at_,name,p),q)) fun y=>zt (zB y.1.1)<=36+6*zV p/\okQ y.2/\y.2.constructs=(c:Int)/\(at_=false->y.1.2=false)/\Yv q (Aj (Lj at_ name p) []) y:=by
 obtain⟨⟨g1,g2,g3,_⟩,ha,hs⟩:=rO (at_:=at_) (name:=name) hp;have ha:=fun h=>(ha h).1;have hz0:zt (zB noR)<=36+6*zV p:=by rw[zR];show 5+0+0+zt (zk ⟨0,[],0,⟨[],[],false⟩,[]⟩)+0+0<=_;rw[zNoC];omega
 obtain⟨m,hm⟩: ∃m,rmQ q=m+1:=by rw[rm_0 hq,decide_eq_false_iff_not]at h0;exact⟨rmQ q - 1,by omega⟩
 rw[hs];generalize Lj at_ name p=z at g1 g2 g3 ha;obtain⟨r,f⟩:=z;unfold tL Aj Yv;cases f with
 |false=>exact Has.some ⟨hz0,hq,hc,fun _=>rfl,by rw[Ba,ZL];rfl⟩
 |true=>
  have hd:=bV hq hm q.constructs;have e0:zV []=0:=rfl;refine Has.some ⟨by dsimp only at g2 ⊢;omega,cO hq h0 _,hc,fun h=>(by rw[h]at ha;cases ha rfl),?_⟩;obtain⟨k,s,d,cc,mm,l⟩:=r;have g1:l=[]:=g1;subst g1;have e:(bif Ji ⟨k,s,d,cc,mm,[]⟩then(⟨k,s,d,cc,mm,[]⟩:zM)else⟨k,s,d,cc,mm,[]⟩)=⟨k,s,d,cc,mm,[]⟩:=by cases Ji _<;>rfl
  rw[Ca];dsimp only;rw[e,hm,ZL,ZL,hd];dsimp only;rw[ZL];rfl
theorem zA4 {S:(List zb×Bool)×zq->Option (List zM×zq)} {N c0 M:Nat} (hN:40*N+200<=big) (hM:M<=big)
  (hS: ∀(l:List zb) (q:zq) (c:Nat),okQ q->q.constructs=(c:Int)->c+zV l<=M->zV l<N->Has (S ((l,false),q)) fun y=>zL zB y.1<=6*zV l/\okQ y.2/\y.2.constructs=(c:Int)/\ZL (rmQ q) (fV false l)=(y.1,rmQ y.2))
  {v:List zb} {q:zq} (top:Bool) (hv:zV v<=N) (hq:okQ q) (hc:q.constructs=(c0:Int)) (hcM:c0+zV v<=M):
  Has (qh S ((v,top),q)) fun y=>zL zB y.1<=6*zV v/\okQ y.2/\y.2.constructs=((bif top then c0+cntC v else c0:Nat):Int)/\ZL (rmQ q) (fV top v)=(y.1,rmQ y.2):=by
 unfold qh;refine Has.loop (fun s=>okQ s.2.1/\zL zB s.2.2+6*zV s.1<=6*zV v/\(∃c:Nat,s.2.1.constructs=(c:Int)/\c+zV s.1<=M/\(bif top then c+cntC s.1=c0+cntC v else c=c0))/\ZL (rmQ q) (fV top v)=(s.2.2++(ZL (rmQ s.2.1) (fV top s.1)).1,(ZL (rmQ s.2.1) (fV top s.1)).2)) (fun s=>s.1.length)
  (P:=fun s=>okQ s.1/\zL zB s.2<=6*zV v/\s.1.constructs=((bif top then c0+cntC v else c0:Nat):Int)/\ZL (rmQ q) (fV top v)=(s.2,rmQ s.1)) ⟨hq,by show 0+6*zV v<=6*zV v;omega,⟨c0,hc,hcM,by cases top<;>rfl⟩,rfl⟩ (fun⟨l,p,out⟩ ⟨g1,g2,⟨c,g3,g4,g5⟩,g6⟩=> ?_) fun⟨p,out⟩ ⟨g1,g2,g3,g6⟩=>Has.some ⟨g2,g1,g3,g6⟩
 dsimp only at g1 g2 g3 g4 g5 g6 ⊢;cases l with
 |nil=>
  refine Has.bif (fun h=>nomatch h) fun _=>Has.some ⟨g1,by show zL zB out<=_;omega,?_,?_⟩
  ·show p.constructs=_;rw[g3];cases top with
   |true=>rw[Ca,cntC]at g5;rw[Ca];omega
   |false=>rw[Ba]at g5 ⊢;omega
  ·rw[Nw,ZL,Xb]at g6;exact g6
 |cons a r=>
  have hz:=Qi a r;have hlen:(a::r).length<=zV (a::r):=zLen _;have hlr:r.length<=zV r:=zLen _;have hb:big=4194304:=rfl;have ho:out.length<=zL zB out:=ZZ El out;rw[sw]at g6;rw[nk];refine Has.bif (fun _=> ?_) fun h=>nomatch h;refine Has.eqb (nW (a::r)) ?_;refine Has.bif (fun hs=> ?_) fun hs=> ?_
  ·have hs:Uk top a=true:=hs;rw[hs,Ca]at g6;refine Has.need (Vt (by simp)) (Has.some ⟨⟨g1,?_,⟨c,g3,?_,?_⟩,g6⟩,?_⟩)
   ·show zL zB out+6*zV r<=_;omega
   ·show c+zV r<=M;omega
   ·cases top with
    |true=>rw[Ca,cntC,Ka hs]at g5;exact g5
    |false=>exact g5
   ·show r.length<(a::r).length;simp
  ·have hs:Uk top a=false:=hs;rw[hs,Ba]at g6;have hcnt:cntC (a::r)=if Uk true a then cntC r else 1+cntC (Ej (a::r)):=by rw[cntC]
   refine Has.join (P:=fun j=>j.1=a::r/\okQ j.2.1/\j.2.2=out/\j.2.1.constructs=((bif top then c+1 else c:Nat):Int)/\rmQ j.2.1=rmQ p) ?_ fun⟨j1,j2,j3⟩ ⟨e1,k1,e2,k2,k3⟩=> ?_
   ·refine Has.bif (fun ht=>Has.some ⟨rfl,g1,rfl,?_,rfl⟩) fun ht=>Has.some ⟨rfl,g1,rfl,?_,rfl⟩
    ·have ht:top=true:=ht;subst ht;show w64 (p.constructs+1)=_;rw[g3];exact Ui (by omega)
    ·have ht:top=false:=ht;subst ht;exact g3
   have e1:j1=_:=e1;have e2:j3=_:=e2;subst e1 e2;dsimp only at k1 k2 k3 ⊢;rw[<-k3]at g6
   -- the construct's values, behind its at-keyword
   refine Has.join (P:=fun j=>j.1.1=bodyC a r/\j.1.2=Wj a/\j.2.1=j2/\j.2.2.1=j3/\j.2.2.2=aj a) ?_ fun⟨⟨i1,i2⟩,i3,i4,i5⟩ ⟨e3,e5,e7,e4,e6⟩=> ?_
   ·unfold bodyC Wj aj;refine Has.bif (fun hk=> ?_) fun hk=> ?_
    ·have hk:(a.token.kind==3)=true:=hk;refine Has.eqb (show geti (a::r) 0=some a from rfl) ?_;refine bLow (by omega) ?_;exact Has.need rfl (Has.need (Vt (by simp)) (Has.some ⟨by rw[hk];rfl,by rw[hk];rfl,rfl,rfl,by rw[hk];rfl⟩))
    ·have hk:(a.token.kind==3)=false:=hk;exact Has.some ⟨by rw[hk];rfl,by rw[hk];rfl,rfl,rfl,by rw[hk];rfl⟩
   have e3:i1=_:=e3;have e4:i4=_:=e4;have e5:i2=_:=e5;have e6:i5=_:=e6;have e7:i3=_:=e7;subst e3 e4 e5 e6 e7;dsimp only at g2 ⊢;obtain⟨hcut,hbz,hD6⟩:=Ww a r;have hxl:(bodyC a r).length<=zV (bodyC a r):=zLen _;have hel:(aj a).length<=2:=by unfold aj;cases a.token.kind==3<;>decide
   refine Has.eqb (zJj (v:=bodyC a r) (ks:=aj a) (by omega) (by omega)) ?_;have hrest:=Hu a r;have hrl:=fI a r;have hin2:inK [23] (⟨⟨23,[],0,[],false⟩,[]⟩:zb)=true:=rfl;rw[hrest]at hrl g6 hcnt;unfold oneF at g6;unfold Tk at hcut hD6 hrest hrl g6 hcnt;dsimp only;have hP0:(bodyC a r).takeWhile (fun b=> !inK (aj a) b)=Xj a r:=rfl;rw[hP0];generalize hP:Xj a r=P at hcut g6 ⊢;generalize hD:((bodyC a r).dropWhile fun b=> !inK (aj a) b)=D at hcut hrest hrl hD6 g6 hcnt ⊢;have hlt:D.tail.length<(a::r).length:=by rw[Fa];omega
   have again: ∀(p':zq) (out':List zM),okQ p'->p'.constructs=((bif top then c+1 else c:Nat):Int)->zL zB out'+6*zV D.tail<=6*zV v->ZL (rmQ q) (fV top v)=(out'++(ZL (rmQ p') (fV top D.tail)).1,(ZL (rmQ p') (fV top D.tail)).2)->
     (okQ p'/\zL zB out'+6*zV D.tail<=6*zV v/\(∃c:Nat,p'.constructs=(c:Int)/\c+zV D.tail<=M/\(bif top then c+cntC D.tail=c0+cntC v else c=c0))/\ZL (rmQ q) (fV top v)=(out'++(ZL (rmQ p') (fV top D.tail)).1,(ZL (rmQ p') (fV top D.tail)).2))/\D.tail.length<(a::r).length:=fun p' out' n1 n2 n3 n4=>by
    refine⟨⟨n1,n3,⟨_,n2,?_,?_⟩,n4⟩,hlt⟩
    ·cases top with
     |true=>rw[Ca];omega
     |false=>rw[Ba];omega
    ·cases top with
     |true=> rw[Ca,hcnt,Ha (by rw[hs];decide)]at g5;rw[Ca,Ca];omega
     |false=>exact g5
   have hP:zV P<=zV (a::r):=by omega
   have ho4:i4.length<=zL zB i4:=ZZ El i4;have out2: ∀x:zM,zL zB (i4++[x])=zL zB i4+zt (zB x):=fun x=>by rw[wh,Z5,Dh,Uc]
   -- no room; a rule that is kept, or not
   have none0:(i3.room==0)=true-> ∀F:List zM,ZL (rmQ q) (fV top v)=(i4++(ZL (rmQ i3) (F++fV top D.tail)).1,(ZL (rmQ i3) (F++fV top D.tail)).2)->ZL (rmQ q) (fV top v)=(i4++(ZL (rmQ i3) (fV top D.tail)).1,(ZL (rmQ i3) (fV top D.tail)).2):=fun h F h6=>by rw[rm_0 k1,ja]at h;rw[h,Mt]at h6;rw[h,Mt];exact h6
   have keep: ∀(F:List zM) (y:Bw),Yv i3 F y->ZL (rmQ q) (fV top v)=(i4++(ZL (rmQ i3) (F++fV top D.tail)).1,(ZL (rmQ i3) (F++fV top D.tail)).2)->
     ZL (rmQ q) (fV top v)=((i4++bif y.1.2 then [y.1.1]else [])++(ZL (rmQ y.2) (fV top D.tail)).1,(ZL (rmQ y.2) (fV top D.tail)).2):=fun F y hy h6=>by
    unfold Yv at hy;rw[WP,hy]at h6;rw[h6,Jb]
   refine Has.eqb (nW D) ?_;refine Has.bif (fun h23=> ?_) fun h23=> ?_
   ·cases D with
    |nil=>cases h23
    |cons d t=>
     have hd:=Qi d t;have e5:(d::t).tail=t:=rfl;have h23:(d.token.kind==23)=true:=h23;dsimp only at g6;rw[h23,Ca]at g6;refine Has.eqb (show geti (d::t) 0=some d from rfl) ?_;refine Has.join (HZ (d::t) i3 i4) fun j e6=> ?_;subst e6;dsimp only;refine Has.bif (fun h0=>Has.some (again i3 i4 k1 k2 (by rw[e5];omega) (none0 h0 _ g6))) fun h0=> ?_;refine Has.bind (zGC (S:=S) (N:=zV d.list+1) (c:=bif top then c+1 else c) (fun l q h1 h2 h3=>hS l q _ h1 h2 ?_ (by omega)) (by omega) (by omega) (by omega) k1 h0 k2) fun y ⟨n1,n2,n3,n4⟩=> ?_
     ·cases top with
      |true=>rw[Ca];omega
      |false=>rw[Ba];omega
     have n5:=keep _ y n4 g6;refine Has.bif (fun ht=> ?_) fun hf=> ?_
     ·rw[ht,Ca]at n5;refine Has.need (qI (by omega)) (Has.some (again _ _ n2 n3 ?_ ?_))
      ·rw[e5,out2,ll];omega
      ·rw[ll];exact n5
     ·rw[hf,Ba,Xb]at n5;exact Has.some (again _ i4 n2 n3 (by rw[e5];omega) n5)
   ·refine Has.join (HZ D i3 i4) fun j e6=> ?_;subst e6;dsimp only;have hDt:zV D.tail<=zV D:=Vp (List.tail_sublist D);have g6:ZL (rmQ q) (fV top v)=(i4++(ZL (rmQ i3) (Aj (Lj (a.token.kind==3) (Wj a) P) []++fV top D.tail)).1,(ZL (rmQ i3) (Aj (Lj (a.token.kind==3) (Wj a) P) []++fV top D.tail)).2):=by
     cases D with
     |nil=>exact g6
     |cons d t=> have h23:(d.token.kind==23)=false:=h23;dsimp only at g6;rw[h23,Ba]at g6;exact g6
    refine Has.bif (fun h0=>Has.some (again i3 i4 k1 k2 (by omega) (none0 h0 _ g6))) fun h0=> ?_;refine Has.bind (zDu (c:=bif top then c+1 else c) (by omega) k1 h0 k2) fun y ⟨n1,n2,n3,n4,n6⟩=> ?_;have n5:=keep _ y n6 g6;refine Has.bif (fun hf=> ?_) fun hf=> ?_
    ·have hk:(a.token.kind==3)=true:=by
      cases hk:a.token.kind==3 with
      |true=>rfl
      |false=>rw[n4 hk]at hf;cases hf
     have h6:zV (bodyC a r)+6<=zV (a::r):=by unfold bodyC;rw[hk,Ca];omega
     rw[hf,Ca]at n5;refine Has.need (qI (by omega)) (Has.some (again _ _ n2 n3 ?_ ?_))
     ·rw[out2,ll];omega
     ·rw[ll];exact n5
    ·rw[hf,Ba,Xb]at n5;exact Has.some (again _ i4 n2 n3 (by omega) n5)
theorem jQ{v:List zb}{q:zq}(top:Bool){c:Nat}(h1:40*zV v+200<=big)(hq:okQ q)(hc:q.constructs=(c:Int))(h2:c+zV v<=big):
  Has (Zc ((v,top),q)) fun y=>zL zB y.1<=6*zV v/\okQ y.2/\y.2.constructs=((bif top then c+cntC v else c:Nat):Int)/\ZL (rmQ q) (fV top v)=(y.1,rmQ y.2):=by
 have h:=Vq zif (fun z=>zV z.1.1) (fun z=>40*zV z.1.1+200<=big/\okQ z.2/\ ∃c:Nat,z.2.constructs=(c:Int)/\c+zV z.1.1<=big)
  (fun z y=> ∀c:Nat,z.2.constructs=(c:Int)->zL zB y.1<=6*zV z.1.1/\okQ y.2/\y.2.constructs=((bif z.1.2 then c+cntC z.1.1 else c:Nat):Int)/\ZL (rmQ z.2) (fV z.1.2 z.1.1)=(y.1,rmQ y.2))
  (fun S ⟨⟨v,top⟩,q⟩ ⟨h1,hq,c,hc,h2⟩ hS=>by
   dsimp only at h1 hq hc h2 hS ⊢;refine(zA4 (S:=S) (N:=zV v) (M:=big) h1 (Ta _) (fun l q c hq hc hM hl=> ?_) top (Ta _) hq hc h2).wk fun y hy c' hc'=> ?_
   ·exact Has.wk (hS ((l,false),q) ⟨by dsimp only;omega,hq,c,hc,hM⟩ hl) fun y hy=>hy c hc
   ·obtain rfl:c=c':=by rw[hc]at hc';exact Int.ofNat.inj hc'
    exact hy)
  (x:=((v,top),q)) ⟨h1,hq,c,hc,h2⟩
 exact Has.wk h fun y hy=>hy c hc
theorem BH {α R:Type} {step:Int->Option (LO Int Unit R)} {k:Unit->Option R} (l:List α) (p:α->Bool) (r:R)
  (hg: ∀(i:Nat) (h:i<l.length),step (i:Int)=some (bif p l[i]then .again ((i+1:Nat):Int)else .ret r))
  (hf:step (l.length:Int)=some (.out ())):zU step 0 k=bif l.all p then k ()else some r:=by
 refine(qc l (fun v=>bif p v then none else some r) () (fun i hi=> ?_) hf).trans ?_
 ·rw[hg i hi];cases p l[i]<;>rfl
 ·rw[Ci];cases l.all p<;>rfl
theorem eX{α:Type}(l:List α):decide ((l.length:Int)>0)= !l.isEmpty:=nk l
theorem tV{α:Type}(l:List α):decide ((l.length:Int)>1)= !decide (l.length<=1):=Xg _ 1
theorem zsf{r:zM}(h:zt (zB r)<=big):Kn r=some (qj r):=by
 refine ZP (fun r=>zt (zB r)) (fun r=>zt (zB r)<=big) (fun r=>qj r) (fun S r hr hS=> ?_) h;have hz:=Rj r;have hcp:=ED r.cond;have hlr:=ZZ El r.rules;have hld:=ZZ Sl r.decls;obtain⟨hn1,hn2⟩:=iM r.names;have e32:decide ((r.decls.length:Int)>32)= !decide (r.decls.length<=32):=Xg _ 32;have e64:decide ((r.names.length:Int)>64)= !decide (r.names.length<=64):=Xg _ 64;unfold UF;have hrules: ∀R:Type,∀f:R,zU (fun(s16:Int)=>
   bif decide (s16<(r.rules.length:Int))then
    (geti r.rules s16).bind fun y17=>
    (S y17).bind fun y18=>
    bif !y18 then
     some (LO.ret false)
    else
     some (LO.again (w64 (s16+1)))
   else
    some (LO.out ()):Int->Option (LO (Int) (Unit) _)) 0 (fun _=>some true)=some (r.rules.all qj):=by
  intro R f;refine(BH r.rules qj false (fun i hi=> ?_) ?_).trans ?_
  ·have hm:=yO (Ja hi);simp only[Zb hi,Ca,zN hi,Aa,hS r.rules[i] (show zt (zB r.rules[i])<=big by omega) hm,zK hi (show r.rules.length<=big by omega)];cases qj r.rules[i]<;>rfl
  ·simp only[Ze,Ba]
  ·cases r.rules.all qj<;>rfl
 have hnames: ∀b:Bool,zU (fun(s12:Int)=>
   bif decide (s12<(r.names.length:Int))then
    (geti r.names s12).bind fun y13=>
    (Dv y13).bind fun y14=>
    bif !y14 then
     some (LO.ret false)
    else
     some (LO.again (w64 (s12+1)))
   else
    some (LO.out ()):Int->Option (LO (Int) (Unit) _)) 0 (fun _=>some b)=some (r.names.all Mg&&b):=by
  intro b;refine(BH r.names Mg false (fun i hi=> ?_) ?_).trans ?_
  ·obtain⟨g1,g2⟩:=hn2 _ (Ja hi);have hp:Dv r.names[i]=some (Mg r.names[i]):=vQ (by omega) (fun v hv=>by have:=g2 v hv;omega);simp only[Zb hi,Ca,zN hi,Aa,hp,zK hi (show r.names.length<=big by omega)];cases Mg r.names[i]<;>rfl
  ·simp only[Ze,Ba]
  ·cases r.names.all Mg<;>rfl
 simp only[za,Wx,Zq,hrules Unit (),hnames,ztZ (show zL zh r.selectors<=big by omega),FQ,zsc (show zt (zk r.cond)<=big by omega),zmg (show zt (zk r.cond)<=big by omega),
  zQ,Aa,ZH,eX,tV,xy,e32,e64,bne]
 rw[Vu];unfold Cj kv;by_cases k1:r.kind=1
 ·simp only[k1,Int.reduceBEq,Ca];have hdecl:zU (fun(s3:Int)=>
       bif decide (s3<(r.decls.length:Int))then
        (geti r.decls s3).bind fun y4=>
        (Jr y4).bind fun y5=>
        bif !(y5==0)then
         some (LO.ret (LX.ret false))
        else
         some (LO.again (w64 (s3+1)))
       else
        some (LO.out ()):Int->Option (LO (Int) (Unit) (LX Unit Bool))) 0 (fun _=>some (LX.ret true))=some (LX.ret (r.decls.all Tf)):=by
   refine(BH r.decls Tf (LX.ret false) (fun i hi=> ?_) ?_).trans ?_
   ·have hm:=qV (f:=Zz) (Ja hi);simp only[Zb hi,Ca,zN hi,Aa,gT (show zt (Zz r.decls[i])<=big by omega),zK hi (show r.decls.length<=big by omega)];cases Tf r.decls[i]<;>rfl
   ·simp only[Ze,Ba]
   ·cases r.decls.all Tf<;>rfl
  rw[hdecl];cases selS r.selectors==0 with
  |false=>rfl
  |true=>
   cases decide (r.decls.length<=32)with
   |false=>rfl
   |true=>
    cases Rh r.cond with
    |false=>rfl
    |true=>
     cases hn:r.names with
     |cons a l=>rfl
     |nil=>
      cases hl:r.rules with
      |cons a l=>rfl
      |nil=> simp only[List.isEmpty_nil,List.all_nil,Sb,Ya,aa,Xa,Ca,Ba];cases r.decls.all Tf<;>rfl
 have b1:=Da.2 k1;simp only[b1,Ba];clear hrules hnames;by_cases k2:r.kind=2
 ·simp only[k2,Int.reduceBEq,Ca];cases r.selectors.isEmpty<;>cases r.decls.isEmpty<;>cases r.names.isEmpty<;>cases uk r.cond<;>rfl
 have b2:=Da.2 k2;simp only[b2,Ba];by_cases k3:r.kind=3
 ·simp only[k3,Int.reduceBEq,Ca];cases r.selectors.isEmpty<;>cases r.decls.isEmpty<;>cases r.names.isEmpty<;>cases Ik r.cond<;>rfl
 have b3:=Da.2 k3;simp only[b3,Ba];by_cases k4:r.kind=4
 ·simp only[k4,Int.reduceBEq,Ca];cases r.selectors.isEmpty<;>cases r.decls.isEmpty<;>cases decide (r.names.length<=1)<;>cases Rh r.cond<;>rfl
 have b4:=Da.2 k4;simp only[b4,Ba];by_cases k5:r.kind=5
 ·simp only[k5,Int.reduceBEq,Ca];cases r.selectors.isEmpty<;>cases r.decls.isEmpty<;>cases r.names.isEmpty<;>cases decide (r.names.length<=64)<;>cases r.rules.isEmpty<;>cases Rh r.cond<;>rfl
 have b5:=Da.2 k5;simp only[b5,Ba];rfl
theorem AQ{c:zw}(h:Rh c=true):c.list=[]:=by unfold Rh at h;rw[Ea,Ea]at h;exact ae.1 h.2.1
theorem ztj{r:zM}(h:zt (zB r)<=big)(hs:Cj r=true)(h5:(r.kind==5)=false):fG r=some (Dj r:Int):=by
 have hz:=Rj r;have hb:zt (zk r.cond)<=big:=by omega
 have hlen:=Qz r.cond;unfold fG Dj;cases h3:r.kind==3 with
 |true=>simp only[Ca,Zq,uR hb,za,Aa]
 |false=>
  have:=zGs (l:=r.cond.list) (by omega) (fun y hy=>by have:=Qv hy;omega);simp only[Ba,za,Zq];refine Eq.trans this ?_;have hr:(r.cond.list.any fun y=>(unw y).list.any fun z=>z.kind != 4)=(bif r.kind==2 then askB r.cond else false):=by
   unfold Cj at hs;rw[h3,h5]at hs;by_cases k1:r.kind=1
   ·rw[k1]at hs ⊢;simp only[Int.reduceBEq,Ca,Ea]at hs;rw[AQ hs.2.2.1];rfl
   have b1:=Da.2 k1;rw[b1]at hs;cases h2:r.kind==2 with
   |true=> rw[h2]at hs;simp only[Ca,Ba,Ea]at hs;rw[Ca,zDd hs.2.2];rfl
   |false=>
    rw[h2]at hs;cases h4:r.kind==4 with
    |true=> rw[h4]at hs;simp only[Ca,Ba,Ea]at hs;rw[AQ hs.2.2];rfl
    |false=> rw[h4]at hs;cases hs
  rw[hr];cases r.kind==2 with
  |true=>cases askB r.cond<;>rfl
  |false=>rfl
theorem I5{l:List zM}(h:zL zB l<=big)(hs:l.all qj=true):En l=some (mx QY l:Int):=by
 refine ZP (fun l=>zL zB l) (fun l=>zL zB l<=big/\l.all qj=true) (fun l=>(mx QY l:Int)) (fun S l hl hS=> ?_) ⟨h,hs⟩;obtain⟨hl,hs⟩:=hl;have hlen:=ZZ El l;unfold DF;refine(Ym l QY (fun a i=>((a:Int),(i:Int))) (fun a=>(a:Int)) (a0:=0) rfl (fun i a hi=> ?_) (fun a=> ?_)).trans (by rw[Nat.zero_max])
 ·have hm:=qV (f:=zB) (Ja hi);have hz:=Rj l[i];have hld:=ZZ Sl l[i].decls;have hsh:=Rb.1 hs _ (Ja hi);have hd:=Tx l[i];rw[Vu,Ea,Ea]at hsh;simp only[Zb hi,Ca,zN hi,za,Aa];cases h5:l[i].kind==5 with
  |true=> rw[h5,Ca]at hd;simp only[Ca,zH,zK hi (show l.length<=big by omega),hd,Nat.max_zero]
  |false=>
   rw[h5,Ba]at hd;have hrd:=kQ l[i].rules;have hdd:=aJ l[i].decls;rw[hS l[i].rules ⟨show zL zB l[i].rules<=big by omega,hsh.2.2⟩ (show zL zB l[i].rules<zL zB l by omega)];simp only[Ba,Aa];have hdecl: ∀(R:Type) (k:Int->Option R),zU (fun(s5:Int×Int)=>
         bif decide (s5.2<(l[i].decls.length:Int))then
          (geti l[i].decls s5.2).bind fun y8=>
          (Rk y8.value).bind fun y9=>
          some (LO.again (if y9>s5.1 then y9 else s5.1,w64 (s5.2+1)))
         else
          some (LO.out s5.1):Int×Int->Option (LO (Int×Int) (Int) _)) ((mx QY l[i].rules:Int),0) k=k ((max (mx QY l[i].rules) (mx (fun d=>Za d.value) l[i].decls):Nat):Int):=by
    intro R k;refine Ym l[i].decls (fun d=>Za d.value) (fun a i=>((a:Int),(i:Int))) (fun a=>(a:Int)) (a0:=mx QY l[i].rules) rfl (fun j b hj=> ?_) (fun b=> ?_)
    ·have hm2:=qV (f:=Zz) (Ja hj);have hz2:=QK l[i].decls[j];have hv:=xh l[i].decls[j].value;simp only[Zb hj,Ca,zN hj,Aa,wH (show szL l[i].decls[j].value<=big by omega),zK hj (show l[i].decls.length<=big by omega),Ij]
    ·simp only[Ze,Ba]
   rw[hdecl];have hw:w64 (1+((max (mx QY l[i].rules) (mx (fun d=>Za d.value) l[i].decls):Nat):Int))=((1+max (mx QY l[i].rules) (mx (fun d=>Za d.value) l[i].decls):Nat):Int):=by rw[xH (by omega),Te]
   simp only[Zq,Wx,zoR (show zL zh l[i].selectors<=big by omega),ztj (show zt (zB l[i])<=big by omega) hsh.1 h5,Aa,zH,hw,Ij,zK hi (show l.length<=big by omega)];rw[hd];have:max (max (max a (1+max (mx QY l[i].rules) (mx (fun d=>Za d.value) l[i].decls))) (selL l[i].selectors)) (Dj l[i])=max a (max (1+max (mx QY l[i].rules) (mx (fun d=>Za d.value) l[i].decls)) (max (selL l[i].selectors) (Dj l[i]))):=by omega
   rw[this]
 ·simp only[Ze,Ba]
def Ni(l:List zM):Bool:=decide (ql l<=64)&&(l.all qj&&decide (mx QY l<=16))
theorem zt4{l:List zM}(h:zL zB l<=big):ME l=some (Ni l):=by
 have hlen:=ZZ El l;have e64:decide ((ql l:Int)>64)= !decide (ql l<=64):=Xg _ 64;unfold ME Ni;simp only[fT h,za,Aa,e64];cases decide (ql l<=64)with
 |false=>rfl
 |true=>
  simp only[aa,Ba,Ya];refine(BH l qj false (fun i hi=> ?_) ?_).trans ?_
  ·have hm:=qV (f:=zB) (Ja hi);simp only[Zb hi,Ca,zN hi,Aa,Zq,Wx,zsf (show zt (zB l[i])<=big by omega),zK hi (show l.length<=big by omega)];cases qj l[i]<;>rfl
  ·simp only[Ze,Ba]
  ·cases hs:l.all qj with
   |false=>rfl
   |true=> have e16:decide ((mx QY l:Int)<=16)=decide (mx QY l<=16):=gp _ 16;simp only[Ca,I5 h hs,Aa,e16,Ya]
theorem zt3{s:zc1}(h:zL zB s.rules<=big):ky s=some (bif Ni s.rules then 0 else 8):=by unfold ky;simp only[zt4 h,za,Aa];cases Ni s.rules<;>rfl
theorem GX: ∀(a b:List zM),mx QY (a++b)=max (mx QY a) (mx QY b)
 |[],b=>by rw[Bc,mx];omega
 |v::a,b=>by rw[Ab,mx,mx,GX a b];omega
theorem zAw{k:Int}{s:List zm}{d:List Zx}{c:zw}{m:List (List Str)}{q q':List zM}(hq:q.isEmpty=true->q'.isEmpty=true)(h:Cj ⟨k,s,d,c,m,q⟩=true):Cj ⟨k,s,d,c,m,q'⟩=true:=by
 revert h;unfold Cj;dsimp only;cases k==1 with
 |true=> simp only[Ca,Ea];exact fun⟨h1,h2,h3,h4,h5,h6⟩=>⟨h1,h2,h3,h4,hq h5,h6⟩
 |false=>
  cases k==2 with
  |true=>exact id
  |false=>
   cases k==3 with
   |true=>exact id
   |false=>
    cases k==4 with
    |true=>exact id
    |false=>
     cases k==5 with
     |true=> simp only[Ba,Ca,Ea];exact fun⟨h1,h2,h3,h4,h5⟩=>⟨h1,h2,h3,hq h4,h5⟩
     |false=>exact id
def okG(N:Nat)(l:List zM):Prop:=l.all qj=true/\mx QY l<=N
theorem Wt(N:Nat):okG N []:=⟨rfl,Ra _⟩
theorem wW{N:Nat}{a b:List zM}(h:okG N a)(g:okG N b):okG N (a++b):=
 ⟨by rw[We,h.1,g.1];rfl,by rw[GX];exact Nat.max_le.2 ⟨h.2,g.2⟩⟩
theorem vW{N:Nat}{r:zM}(h1:qj r=true)(h2:QY r<=N):okG N [r]:=⟨by rw[Lc,h1];rfl,by show max _ 0<=N;omega⟩
theorem FB{N:Nat}{z:zM×Bool}{p b:List zb}{G:List zM}(hz:okZ z p b)(hp:Za p<=N)(hb:(z.2=true->z.1.kind=5)\/1+Za b<=N)(hG:okG (Za b) G):okG N (Aj z G):=by
 obtain⟨r,f⟩:=z;unfold Aj;cases f with
 |false=>exact Wt N
 |true=>
  obtain⟨h0,_,_,hv⟩:=hz;obtain⟨h1,h2,h3,h4,h5⟩:=hv rfl;obtain⟨k,s,d,c,m,q⟩:=r;have h0:q=[]:=h0;subst h0;dsimp only at h1 h2 h3 h5;have key: ∀G:List zM,okG (Za b) G->Cj ⟨k,s,d,c,m,G⟩=true->okG N [⟨k,s,d,c,m,G⟩]:=fun G hG h1=>by
   refine vW ?_ ?_
   ·rw[Vu,h1,h2,hG.1];rfl
   ·rw[Tx];have hc:Dj ⟨k,s,d,c,m,G⟩<=Za p:=h4;have hg:=hG.2;dsimp only;rcases hb with hb|hb
    ·rw[show k=5 from hb rfl];exact Ra _
    ·cases k==5 with
     |true=>exact Ra _
     |false=>rw[Ba];omega
  rw[Ca];cases hk:Ji ⟨k,s,d,c,m,[]⟩with
  |true=>
   refine key G hG ?_;unfold Cj at h1 ⊢;unfold Ji at hk;dsimp only at h1 hk ⊢;cases e2:k==2 with
   |true=>rw[Cb.1 e2]at h1 ⊢;exact h1
   |false=>
    rw[e2,Ba]at hk;cases e3:k==3 with
    |true=>rw[Cb.1 e3]at h1 ⊢;exact h1
    |false=> rw[e3,Ba]at hk;rw[Cb.1 hk]at h1 ⊢;exact h1
  |false=>exact key [] (Wt _) h1
theorem KP(a:zb)(r:List zb):(Xj a r).Sublist (a::r)/\(Tk a r).Sublist (a::r):=by
 have h:(bodyC a r).Sublist (a::r):=by
  unfold bodyC;cases a.token.kind==3
  ·exact He _
  ·exact Me ..
 exact⟨(List.takeWhile_sublist _).trans h,(jb _).trans h⟩
theorem TH: ∀(n:Nat) (top:Bool) (v:List zb),zV v<n->40*zV v+200<=big->okG (Za v) (fV top v)
 |0,_,_,h,_=>by omega
 |n+1,top,[],_,_=>by rw[Nw];exact Wt _
 |n+1,top,a::r,hn,hb=>by
  have hz:=Qi a r;have hr:=QX (Me a r);have mono: ∀{N M:Nat} {l:List zM},okG N l->N<=M->okG M l:=fun h g=>⟨h.1,Db h.2 g⟩;rw[sw];cases Uk top a with
  |true=>exact mono (TH n top r (by omega) (by omega)) hr
  |false=>
   obtain⟨h1,h2,h3⟩:=Ww a r;obtain⟨s1,s2⟩:=KP a r;rw[<-Hu]at h3;have s3:(Ej (a::r)).Sublist (a::r):=by rw[Hu];exact(List.tail_sublist _).trans s2
   refine wW ?_ (mono (TH n top (Ej (a::r)) (by omega) (by omega)) (QX s3));have hp:=QX s1;have no:okG (Za (a::r)) (Aj (Lj (a.token.kind==3) (Wj a) (Xj a r)) []):=by obtain⟨g1,g2,_⟩:=rO (at_:=a.token.kind==3) (name:=Wj a) (p:=Xj a r) (by omega);exact FB g1 hp (.inl fun h=>(g2 h).2) (Wt _)
   unfold oneF;cases hD:Tk a r with
   |nil=>exact no
   |cons b t=>
    dsimp only;cases hk:b.token.kind==23 with
    |false=>exact no
    |true=> rw[hD]at h1 s2;have hzb:=Qi b t;have hdb:Mh b<=Za (a::r):=Db (by rw[Za];omega) (QX s2);rw[Rx (by rw[Cb.1 hk];decide)]at hdb;obtain⟨g1,_⟩:=PY (at_:=a.token.kind==3) (name:=Wj a) (p:=Xj a r) (b:=b) (by omega) (by omega);exact FB g1 hp (.inr hdb) (TH n false b.list (by omega) (by omega))
theorem Gq: ∀(l:List zM) (n:Nat) {N:Nat},okG N l->okG N (ZL n l).1
 |[],n,N,_=>by rw[ZL];exact Wt _
 |r::l,0,N,_=>by rw[Mt];exact Wt _
 |⟨k,s,d,c,m,q⟩::l,n+1,N,h=>by
  obtain⟨h1,h2⟩:=h;rw[Lc,Ea,Vu,Ea,Ea]at h1;obtain⟨⟨g1,g2,g3⟩,g4⟩:=h1;rw[mx]at h2;dsimp only at g2 g3;have hq:=Gq q n (N:=mx QY q) ⟨g3,Ta _⟩;rw[ZL];refine wW (a:=[_]) (vW ?_ ?_) (Gq l _ ⟨g4,by omega⟩)
  ·rw[Vu];dsimp only;rw[zAw (fun e=>by cases q with|nil=>rw[ZL];rfl|cons=>cases e) g1,g2,hq.1];rfl
  ·have h3:QY ⟨k,s,d,c,m,q⟩<=N:=by omega
   rw[Tx]at h3 ⊢;dsimp only at h3 ⊢;have e:Dj ⟨k,s,d,c,m,(ZL n q).1⟩=Dj ⟨k,s,d,c,m,q⟩:=rfl;have:=hq.2;rw[e];cases h5:k==5 with
   |true=>exact Ra _
   |false=>rw[h5,Ba]at h3;rw[Ba];omega
theorem zA5{v:List zb}(h1:40*zV v+200<=big)(he:errS v=0):Ni (ZL 64 (fV true v)).1=true:=by
 have hd:Za v<=16:=by
  unfold errS at he;split at he
  ·cases he
  ·omega
 obtain⟨g1,g2⟩:=Gq (fV true v) 64 (TH _ true v (jd _) h1);have g3:=(Dy (fV true v) 64).1;unfold Ni;rw[g1,Ga (show ql (ZL 64 (fV true v)).1<=64 by omega),Ga (show mx QY (ZL 64 (fV true v)).1<=16 by omega)];rfl
structure Sf (d:UInt8) (y:Str):Prop where
 f:fstB d=false
 l:letB d=false
 g:digB d=false
 s:Wi d=false
 a:(d==45)=false
 b:(d==46)=false
 c:(d==92)=false
 n:(d==10)=false
 e:(d==40)=false
 p:(d==37)=false
 m:d≠42
 o:[33,45,45].isPrefixOf (d::y)=false
 x:(d==101||d==69)=false
 k:d≠60/\d≠62
theorem Ow{d:UInt8}{y:Str}(h:Sf d y)(q:Str):escS (q++d::y)=escS q:=by
 match q with
 |[]=>show(d==92&&_)=false;rw[h.c];rfl
 |[c]=>show(c==92&& !(d==10))=(c==92&& !((0:UInt8)==10));rw[h.n];rfl
 |c::e::t=>rfl
theorem fM{d:UInt8}{y:Str}(h:Sf d y)(q:Str):nmS (q++d::y)=nmS q:=by
 have h0:escS (d::y)=false:=Ow h []
 match q with
 |[]=> show(if d==45 then _ else fstB d||escS (d::y))=false;rw[h.a,Ha (by decide),h.f,h0];rfl
 |[c]=> unfold nmS;show(if c==45 then fstB d||d==45||escS (d::y)else fstB c||escS ([c]++d::y))=(if c==45 then fstB 0||(0:UInt8)==45||escS []else fstB c||escS [c]);rw[Ow h [c],h0,h.f,h.a];rfl
 |c::e::t=> unfold nmS;show(if c==45 then fstB e||e==45||escS ((e::t)++d::y)else fstB c||escS ((c::e::t)++d::y))=(if c==45 then fstB e||e==45||escS (e::t)else fstB c||escS (c::e::t));rw[Ow h,Ow h]
theorem TN{d:UInt8}{y:Str}(h:Sf d y)(q:Str):digB (atS (q++d::y) 0)=digB (atS q 0):=by
 cases q with
 |nil=>show digB d=false;exact h.g
 |cons c t=>rfl
theorem bI{d:UInt8}{y:Str}(h:Sf d y)(q:Str):unsign (q++d::y)=unsign q++d::y:=by
 cases q with
 |nil=>show(if Wi d then _ else _)=_;rw[h.s];rfl
 |cons c t=>exact(pJ (d::y) (by simp)).1
theorem zJh{d:UInt8}{y:Str}(h:Sf d y)(q:Str):undot (q++d::y)=undot q++d::y:=by
 cases q with
 |nil=>show(if d==46 then _ else _)=_;rw[h.b];rfl
 |cons c t=>exact zHi (d::y) (by simp)
theorem zNu{d:UInt8}{y:Str}(h:Sf d y)(q:Str):nbS (q++d::y)=nbS q:=by unfold nbS;rw[bI h,zJh h,TN h]
theorem gV{d:UInt8}{y m:Str}(hm: ∀b∈m,b≠d): ∀q:Str,m.isPrefixOf (q++d::y)=m.isPrefixOf q:=by
 induction m with
 |nil=>intros;rw[List.isPrefixOf,List.isPrefixOf]
 |cons a m ih=>
  intro q;cases q with
  |nil=> have:(a==d)=false:=Da.2 (hm a (Pb ..));show((a==d)&&m.isPrefixOf y)=false;rw[this];rfl
  |cons b t=>rw[Ab,List.isPrefixOf,List.isPrefixOf,ih (fun b hb=>hm b (Lb _ hb))]
theorem zL3{d:UInt8}{y:Str}(h:Sf d y)(q:Str):[60,33,45,45].isPrefixOf (q++d::y)=[60,33,45,45].isPrefixOf q:=by
 have h45:(45:UInt8)≠d:=fun e=>by have:=h.a;rw[<-e]at this;cases this
 match q with
 |[]=> show((60:UInt8)==d&&_)=false;rw[Da.2 (fun e=>h.k.1 e.symm)];rfl
 |[c]=> show((60:UInt8)==c&&[33,45,45].isPrefixOf (d::y))=((60:UInt8)==c&&false);rw[h.o]
 |c::e::t=> show((60:UInt8)==c&&((33:UInt8)==e&&[45,45].isPrefixOf (t++d::y)))=((60:UInt8)==c&&((33:UInt8)==e&&[45,45].isPrefixOf t));rw[gV (m:=[45,45]) (fun b hb=>by simp only[Kb,Ye,or_false,or_self]at hb;rw[hb];exact h45)]
theorem zNn{d:UInt8}{y:Str}(h:Sf d y)(c:UInt8)(r:Str):brS c (r++d::y)=brS c r:=by
 have e:c::(r++d::y)=(c::r)++d::y:=rfl;have h45:(45:UInt8)≠d:=fun e=>by have:=h.a;rw[<-e]at this;cases this
 have hl:letB (atS (r++d::y) 0)=letB (atS r 0):=by
  cases r with
  |nil=>show letB d=false;exact h.l
  |cons c t=>rfl
 unfold brS;rw[e,zNu h,gV (m:=[45,45,62]) (fun b hb=>by
  simp only[Kb,Ye,or_false]at hb;rcases hb with rfl|rfl|rfl
  ·exact h45
  ·exact h45
  ·exact fun e=>h.k.2 e.symm),zL3 h,fM h,fM h,hl,Ow h]
theorem kI{c:UInt8}{k:Int}(h1:14<=k)(h2:k<=24)(hc:OM k=[c])(hp:c≠47)(y:Str):QS (c::y)=⟨k,[],0,[],false⟩::QS y:=by have h:=zFy (k:=k) (by omega) h2 y;rw[hc,Ha (by omega)]at h;rw[om (Ak (zMU (Da.2 hp))),show c::y=[c]++y from rfl,h]
theorem zLx(y:Str):QS (32::y)=tkSp::QS (past spB y):=by rw[om (Ak rfl)];rfl
end Go.Lv.VT
end
