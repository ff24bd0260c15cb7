/- Sheets, read: rules of values: they have a value, of bounded size; how many constructs there are. -/
import Derived.Test.YtbgmaekmfjhfoaaGreatDoorXh
noncomputable section
set_option linter.unusedSimpArgs false
set_option linter.unusedVariables false
namespace Go.Lv.VT
set_option maxRecDepth 100000
theorem VK{α:Type}(p:α->Bool): ∀l:List α,(idxS p l<0/\l.takeWhile (fun a=> !p a)=l/\l.dropWhile (fun a=> !p a)=[])\/ ∃n:Nat,n<l.length/\idxS p l=(n:Int)/\l.take n=l.takeWhile (fun a=> !p a)/\l.drop n=l.dropWhile (fun a=> !p a)
 |[]=> .inl ⟨(by decide:(-1:Int)<0),rfl,rfl⟩
 |a::l=>by
  rw[idxS,Ef,Nc];cases hp:p a with
  |true=>exact .inr ⟨0,by simp,rfl,by simp,by simp⟩
  |false=>
   simp only[Ba,Xa,Vd];rcases VK p l with⟨h1,h2,h3⟩|⟨n,h1,h2,h3,h4⟩
   ·rw[Fa h1,Ca,h2,h3];exact .inl ⟨by decide,rfl,rfl⟩
   ·rw[Ta (by omega),Ba,h2];exact .inr ⟨n+1,by simp only[Da];omega,rfl,by rw[Ce,h3],by rw[List.drop_succ_cons,h4]⟩
def inK(ks:Str)(a:za):Bool:=ks.any fun b=>a.token.kind==(b.toNat:Int)
theorem zCS{v:List za}{ks:Str}(hv:v.length<=big)(hk:ks.length<=big):UA (v,ks)=some (v.takeWhile (fun a=> !inK ks a),v.dropWhile (fun a=> !inK ks a)):=by
 have hc: ∀a:za,QF (a.token.kind,ks)=some (inK ks a):=fun a=>by
  unfold QF tH;refine Ir (Uj ks (fun b=>a.token.kind==(b.toNat:Int)) hk (fun i hi=> ?_) ?_) (Vo _ _)
  ·simp only[ZY hi,Ca,PS hi,Zy,Ib,Ra hi,ze,Aa];rw[show decide ((0:Int)<=(i:Int))=true from Fa (by omega)];rfl
  ·simp only[ZM,Ba]
 have hi:qV (v,ks)=some (idxS (inK ks) v):=by
  unfold qV;refine Uj v (inK ks) hv (fun i hi=> ?_) ?_
  ·simp only[ZY hi,Ca,Zu hi,RH,hc,ze,Aa]
  ·simp only[ZM,Ba]
 unfold UA;simp only[hi,ze,Aa];rcases VK (inK ks) v with⟨h1,h2,h3⟩|⟨n,h1,h2,h3,h4⟩
 ·rw[Fa h1,Ca,h2,h3]
 ·rw[h2,Ta (by omega),Ba,Ib,h3,h4];have:(decide ((0:Int)<=(n:Int))&&decide ((n:Int)<=(v.length:Int)))=true:=by rw[Ea,Ua,Ua];omega
  rw[this];rfl
theorem iJ(v:List za):vv v=some (Oi v):=by
 unfold vv Oi;cases v with
 |nil=>rfl
 |cons a r=> have e0:(((a::r).length:Int)==0)=false:=Ga.2 (by simp only[Da];omega);have e1:geti (a::r) 0=some a:=rfl;simp only[e0,e1,Ba,ze,Aa]
def Xl(top:Bool)(a:za):Bool:=bif a.token.kind==13 then true else bif top then bif a.token.kind==14 then true else a.token.kind==15 else false
def Bj(v:List za):List za:=match v with
 |[]=>[]
 |a::r=>bif a.token.kind==3 then(r.dropWhile fun b=> !inK [23,17] b).tail else((a::r).dropWhile fun b=> !inK [23] b).tail
theorem pY(p:za->Bool)(a:za)(r:List za):(((a::r).dropWhile p).tail).length<=r.length:=by have h:=(Ac p (l:=a::r)).length_le;rw[List.length_tail];rw[Da]at h;omega
theorem IG(a:za)(r:List za):(Bj (a::r)).length<=r.length:=by
 show(bif a.token.kind==3 then(r.dropWhile fun b=> !inK [23,17] b).tail else((a::r).dropWhile fun b=> !inK [23] b).tail).length<=_;cases a.token.kind==3
 ·exact pY _ a r
 ·rw[Ca];have h:=(Ac (fun b=> !inK [23,17] b) (l:=r)).length_le;rw[List.length_tail];omega
def cntC:List za->Nat
 |[]=>0
 |a::r=>if Xl true a then cntC r else 1+cntC (Bj (a::r))
termination_by v=>v.length
decreasing_by
 ·simp
 ·have:=IG a r;simp only[Da];omega
def okQ(q:zo):Prop:= ∃n:Nat,n<=64/\q.room=(n:Int)
theorem PE{q:zo}(h:okQ q)(h0:(q.room==0)=false)(c:Int):okQ ⟨w64 (q.room - 1),c⟩:=by
 obtain⟨n,h1,h2⟩:=h;have hn:n≠0:=fun e=>by subst e;rw[h2]at h0;cases h0
 refine⟨n - 1,by omega,?_⟩;show w64 (q.room - 1)=_;rw[h2,show(n:Int) - 1=((n - 1:Nat):Int) by omega];exact Vp (by unfold big;omega)
theorem zHe(ks:Str)(v:List za):zV (v.takeWhile fun a=> !inK ks a)+zV (v.dropWhile fun a=> !inK ks a)=zV v:=by show zL zf _+zL zf _=zL zf v;rw[<-jh,List.takeWhile_append_dropWhile]
theorem xL(D:List za)(p:zo)(o:List zJ){R:Type}{Q:R->Prop}:Has (bif decide ((D.length:Int)>0)then need (decide (1<=(D.length:Int)))<|some (LX.out (List.drop 1 D,p,o))else some (LX.out (D,p,o)):Option (LX (List za×zo×List zJ) R))
  (LXq (fun j=>j=(D.tail,p,o)) Q):=by
 rw[wu];cases D with
 |nil=>exact Has.some rfl
 |cons d t=>exact Has.need (jq (by simp)) (Has.some rfl)
theorem Ll(r:zJ):(⟨r.kind,r.selectors,r.decls,⟨r.cond.kind,r.cond.name,r.cond.num,r.cond.decl,r.cond.list⟩,r.names,r.rules⟩:zJ)=r:=by obtain⟨k,s,d,⟨c1,c2,c3,c4,c5⟩,n,l⟩:=r;rfl
section
end
theorem aG: ∀(a b:List zk) (s:PSt),qz (a++b) s=(qz a s).bind (qz b)
 |[],_,_=>rfl
 |t::a,b,s=>by
  rw[Bb,qz,qz];cases Qy s t with
  |none=>rfl
  |some s1=>exact aG a b s1
def preS(p:List za):List (zk×List za)->List (zk×List za)
 |[]=>[]
 |[x]=>[(x.1,p++x.2)]
 |x::y::st=>x::preS p (y::st)
def preQ(p:List za)(s:PSt):PSt:=(if s.2=[]then p++s.1 else s.1,preS p s.2)
theorem IM(p:List za): ∀st,(preS p st).length=st.length
 |[]=>rfl
 |[x]=>rfl
 |x::y::st=>congrArg Nat.succ (IM p (y::st))
theorem lU(p:List za)(t:zk): ∀st,ak (preS p st) t=ak st t
 |[]=>rfl
 |[x]=>rfl
 |x::y::st=>rfl
theorem zE0(p:List za)(t:zk)(s:PSt):Qy (preQ p s) t=(Qy s t).map (preQ p):=by
 obtain⟨cur,st⟩:=s;unfold Qy preQ;dsimp only;rw[lU,IM];by_cases h1:ak st t=true
 ·rw[Ka h1,Ka h1]
  match st with
  |[]=>cases h1
  |[x]=>show some (_++[_],_)=some _;simp[preQ,preS,Ik]
  |x::y::st=>rfl
 ·rw[Ha h1,Ha h1];by_cases h2:Zb t.kind≠0
  ·rw[Ka h2,Ka h2];by_cases h3:st.length=16
   ·rw[Ka h3,Ka h3];rfl
   ·rw[Ha h3,Ha h3]
    match st with
    |[]=>rfl
    |[x]=>rfl
    |x::y::st=>rfl
  ·rw[Ha h2,Ha h2]
   match st with
   |[]=>show some (_,_)=some _;simp[preQ,preS]
   |[x]=>rfl
   |x::y::st=>rfl
theorem AU(p:List za): ∀(l:List zk) (s:PSt),qz l (preQ p s)=(qz l s).map (preQ p)
 |[],_=>rfl
 |t::l,s=>by
  rw[qz,qz,zE0];cases Qy s t with
  |none=>rfl
  |some s1=>exact AU p l s1
theorem oV{l:List zk}(h:(parS l).2=0)(hl:(tokL (parS l).1).length=l.length):qz l ([],[])=some ((parS l).1,[]):=by
 unfold parS at h hl ⊢;split at h
 ·cases h
 ·rename_i h1;rw[Ha h1]at hl ⊢;cases hr:qz l ([],[])with
  |none=>rw[hr]at h;cases h
  |some s=>
   rw[hr]at h hl;dsimp only at h hl ⊢;split at h
   ·cases h
   ·rename_i h2;rw[Ha h2]at hl ⊢;obtain⟨g1,g2⟩:=BN l hr (fun x hx=>by cases hx);have g3:=jO s.2 s.1 g1;have g4:Di (([],[]):PSt)=0:=rfl;dsimp only at hl;have g5:s.2=[]:=Mf.1 (by rw[hl,show Di (s.1,s.2)=Di s from rfl]at g3;omega);obtain⟨cur,st⟩:=s;have g5:st=[]:=g5;subst g5;rfl
theorem OO{l m:List zk}{v:List za}(h:qz l ([],[])=some (v,[])):qz (l++m) ([],[])=(qz m ([],[])).map (preQ v):=by rw[aG,h,<-AU];show qz m (v,[])=qz m (preQ v ([],[]));unfold preQ;rw[Ka rfl,Rb];rfl
theorem yG(p:za->Bool)(w:List za): ∀{v:List za},(∃b∈v,p b=false)->(v++w).dropWhile p=v.dropWhile p++w/\v.dropWhile p≠[]
 |[],h=>by obtain⟨b,hb,_⟩:=h;cases hb
 |a::r,h=>by
  rw[Bb,Nc,Nc];cases ha:p a with
  |false=>exact⟨rfl,by simp⟩
  |true=>
   rw[Ka rfl,Ka rfl];obtain⟨b,hb,h1⟩:=h;rcases Db.1 hb with rfl|hb
   ·rw[ha]at h1;cases h1
   ·exact yG p w ⟨b,hb,h1⟩
def lastB(v:List za):Prop:=v=[]\/ ∃t b,v=t++[b]/\b.token.kind=23
theorem tF{a v:List za}(h:a<:+v)(hv:lastB v):lastB a:=by
 rcases df a with rfl|⟨t,c,rfl⟩
 ·exact .inl rfl
 ·obtain⟨u,e⟩:=h;rw[xe,<-ja]at e;rcases hv with rfl|⟨t',b,rfl,hb⟩
  ·simp at e
  ·have:=je e rfl;rw[xe];exact .inr ⟨t,c,rfl,by rw[List.singleton_inj.1 this];exact hb⟩
theorem zAg{a:za}{r w:List za}(h:lastB (a::r))(hs:Xl true a=false)(h3:(a.token.kind==3)=true->r≠[]):Bj (a::r++w)=Bj (a::r)++w/\lastB (Bj (a::r)):=by
 have key: ∀(ks:Str) (v:List za),v≠[]->lastB v->inK ks ⟨⟨23,[],0,[],false⟩,[]⟩=true->((v++w).dropWhile fun b=> !inK ks b).tail=(v.dropWhile fun b=> !inK ks b).tail++w/\lastB (v.dropWhile fun b=> !inK ks b).tail:=fun ks v hv hl hk=>by
  rcases hl with rfl|⟨t,b,rfl,hb⟩
  ·exact absurd rfl hv
  ·have hin:(!inK ks b)=false:=by
    have:inK ks b=inK ks ⟨⟨23,[],0,[],false⟩,[]⟩:=by unfold inK;rw[hb]
    rw[this,hk];rfl
   obtain⟨h1,h2⟩:=yG (fun b=> !inK ks b) w (v:=t++[b]) ⟨b,by simp,hin⟩;rw[h1];refine⟨by cases hq:(t++[b]).dropWhile (fun b=> !inK ks b)with|nil=>exact absurd hq h2|cons x y=>rfl,?_⟩;exact tF ((List.tail_suffix _).trans (List.dropWhile_suffix _)) (.inr ⟨t,b,rfl,hb⟩)
 show(bif a.token.kind==3 then((r++w).dropWhile fun b=> !inK [23,17] b).tail else((a::r++w).dropWhile fun b=> !inK [23] b).tail)=(bif a.token.kind==3 then(r.dropWhile fun b=> !inK [23,17] b).tail else((a::r).dropWhile fun b=> !inK [23] b).tail)++w/\lastB (bif a.token.kind==3 then(r.dropWhile fun b=> !inK [23,17] b).tail else((a::r).dropWhile fun b=> !inK [23] b).tail);cases hk:a.token.kind==3 with
 |true=>exact key _ r (h3 hk) (tF (Ed a r) h) rfl
 |false=>exact key _ (a::r) (by simp) h rfl
mutual
def numR:zJ->Nat
 |⟨_,_,_,_,_,l⟩=>1+QV l
def QV:List zJ->Nat
 |[]=>0
 |r::l=>numR r+QV l
end
theorem tq(r:zJ):numR r=1+QV r.rules:=by obtain⟨⟩:=r;rw[numR]
theorem NM: ∀l:List zJ,QV l<=zL zD l:=by
 have key: ∀(n:Nat) (l:List zJ),zL zD l<n->QV l<=zL zD l:=by
  intro n
  induction n with
  |zero=>intro l h;omega
  |succ n ih=>
   intro l
   induction l with
   |nil=>intro _;rw[QV];exact Va _
   |cons v l ihl=> intro h;rw[ZI]at h ⊢;rw[QV,tq];have hz:=Mm v;have h1:=ih v.rules (by omega);have h2:=ihl (by omega);omega
 exact fun l=>key _ l (Ie _)
theorem UM(l:List zJ):QV l=l.length+(l.map fun r=>QV r.rules).sum:=by
 induction l with
 |nil=>rw[QV];rfl
 |cons r l ih=>rw[QV,ih,tq,Bc,Je,Da];omega
def ZE:Nat->List zJ->List zJ×Nat
 |n,[]=>([],n)
 |0,_::_=>([],0)
 |n+1,⟨k,s,d,c,m,q⟩::l=>(⟨k,s,d,c,m,(ZE n q).1⟩::(ZE (ZE n q).2 l).1,(ZE (ZE n q).2 l).2)
theorem oq(l:List zJ):ZE 0 l=([],0):=by cases l<;>rw[ZE]
theorem GG: ∀(a b:List zJ),QV (a++b)=QV a+QV b
 |[],b=>by rw[Gc,QV,Ad]
 |v::a,b=>by rw[Bb,QV,QV,GG a b];omega
theorem Vm: ∀(l:List zJ) (n:Nat),QV (ZE n l).1=min n (QV l)/\(ZE n l).2=n - QV l
 |[],n=>by rw[ZE];simp[QV]
 |_::_,0=>by rw[ZE];simp[QV]
 |⟨k,s,d,c,m,q⟩::l,n+1=>by rw[ZE,QV,QV,tq,tq];obtain⟨h1,h2⟩:=Vm q n;obtain⟨h3,h4⟩:=Vm l (ZE n q).2;dsimp only;rw[h3,h4,h1,h2];omega
theorem pz: ∀(l:List zJ) (n:Nat),QV l<=n->(ZE n l).1=l
 |[],n,_=>by rw[ZE]
 |⟨k,s,d,c,m,q⟩::l,0,h=>by rw[QV,tq]at h;omega
 |⟨k,s,d,c,m,q⟩::l,n+1,h=>by rw[QV,tq]at h;dsimp only at h;have h2:=(Vm q n).2;rw[ZE,pz q n (by omega),pz l _ (by omega)]
theorem SG: ∀(a b:List zJ) (n:Nat),ZE n (a++b)=((ZE n a).1++(ZE (ZE n a).2 b).1,(ZE (ZE n a).2 b).2)
 |[],b,n=>by rw[ZE];rfl
 |r::a,b,0=>by rw[oq,oq];dsimp only;rw[oq];rfl
 |⟨k,s,d,c,m,q⟩::a,b,n+1=>by rw[Bb,ZE,ZE,SG a b];rfl
theorem jN: ∀(l:List zJ) {n m:Nat},n<=m->(ZE n l).1.length<=(ZE m l).1.length
 |[],n,m,_=>by rw[ZE,ZE];exact Sa _
 |r::l,0,m,_=>by rw[oq];exact Va _
 |⟨k,s,d,c,m',q⟩::l,n+1,0,h=>by omega
 |⟨k,s,d,c,m',q⟩::l,n+1,m+1,h=>by have h1:=(Vm q n).2;have h2:=(Vm q m).2;rw[ZE,ZE];exact Nat.succ_le_succ (jN l (by omega))
theorem FL(a b:List zJ)(n:Nat):((ZE n (a++b)).1.length<=(ZE n a).1.length+(ZE n b).1.length)/\(QV (ZE n a).1+QV (ZE n b).1<=n->(ZE n (a++b)).1=(ZE n a).1++(ZE n b).1):=by
 obtain⟨h1,h2⟩:=Vm a n;obtain⟨h3,h4⟩:=Vm b n;rw[SG];dsimp only;refine⟨?_,fun h=> ?_⟩
 ·rw[Ia];exact Nat.add_le_add_left (jN b (by omega)) _
 ·by_cases hb:QV b<=(ZE n a).2
  ·rw[pz b _ hb,pz b n (by omega)]
  ·rw[show(ZE n a).2=n by omega]
theorem gL{X R:Type}{m:Option (LX X R)}{k:X->Option R}{x:X}{y:Option R}(h:m=some (.out x))(g:k x=y):Zt m k=y:=by rw[h];exact g
def Bi(r:zJ):Bool:=bif bif r.kind==2 then true else r.kind==3 then true else r.kind==4
abbrev KS:=Bool×zo×(Int×Int×Str×Int×Str×Bool)×zJ
abbrev Fq:=(zJ×Bool)×zo
def XI(at_:Bool)(name:Str)(p:List za)(b:za)(q:zo):Option (LX KS Fq):=
   bif bif !at_ then true else false then
    ze (Pw (p,b.list)) fun y1=>
    some (LX.out (y1.2,q,(0,0,[],0,[],false),(⟨y1.1.kind,y1.1.selectors,y1.1.decls,(⟨y1.1.cond.kind,y1.1.cond.name,y1.1.cond.num,y1.1.cond.decl,y1.1.cond.list⟩:zt),y1.1.names,y1.1.rules⟩:zJ)))
   else
    bif bif at_ then name==[108,97,121,101,114]else false then
     ze (Dp (p,true)) fun y2=>
     some (LX.out (y2.2,q,(0,0,[],0,[],false),(⟨y2.1.kind,y2.1.selectors,y2.1.decls,(⟨y2.1.cond.kind,y2.1.cond.name,y2.1.cond.num,y2.1.cond.decl,y2.1.cond.list⟩:zt),y2.1.names,y2.1.rules⟩:zJ)))
    else
     bif bif bif at_ then name==[109,101,100,105,97]else false then true else false then
      ze (Ap p) fun y3=>
      some (LX.out (y3.2==0,q,(0,0,[],0,[],false),(⟨2,[],[],(⟨y3.1.kind,y3.1.name,y3.1.num,y3.1.decl,y3.1.list⟩:zt),[],[]⟩:zJ)))
     else
      bif bif bif at_ then name==[115,117,112,112,111,114,116,115]else false then true else false then
       ze (Pp p) fun y4=>
       some (LX.out (y4.2==0,q,(0,0,[],0,[],false),(⟨3,[],[],(⟨y4.1.kind,y4.1.name,y4.1.num,y4.1.decl,y4.1.list⟩:zt),[],[]⟩:zJ)))
      else
       some (LX.out (false,q,(0,0,[],0,[],false),(⟨0,[],[],(⟨0,[],0,(⟨[],[],false⟩:Zm),[]⟩:zt),[],[]⟩:zJ)))
def ND(at_:Bool)(name:Str)(p:List za)(q:zo):Option (LX KS Fq):=
   bif bif !at_ then false else false then
    none
   else
    bif bif at_ then name==[108,97,121,101,114]else false then
     ze (Dp (p,false)) fun y1=>
     some (LX.out (y1.2,q,(0,0,[],0,[],false),(⟨y1.1.kind,y1.1.selectors,y1.1.decls,(⟨y1.1.cond.kind,y1.1.cond.name,y1.1.cond.num,y1.1.cond.decl,y1.1.cond.list⟩:zt),y1.1.names,y1.1.rules⟩:zJ)))
    else
     bif bif bif at_ then name==[109,101,100,105,97]else false then false else false then
      ze (Ap p) fun y2=>
      some (LX.out (y2.2==0,q,(0,0,[],0,[],false),(⟨2,[],[],(⟨y2.1.kind,y2.1.name,y2.1.num,y2.1.decl,y2.1.list⟩:zt),[],[]⟩:zJ)))
     else
      bif bif bif at_ then name==[115,117,112,112,111,114,116,115]else false then false else false then
       ze (Pp p) fun y3=>
       some (LX.out (y3.2==0,q,(0,0,[],0,[],false),(⟨3,[],[],(⟨y3.1.kind,y3.1.name,y3.1.num,y3.1.decl,y3.1.list⟩:zt),[],[]⟩:zJ)))
      else
       some (LX.out (false,q,(0,0,[],0,[],false),(⟨0,[],[],(⟨0,[],0,(⟨[],[],false⟩:Zm),[]⟩:zt),[],[]⟩:zJ)))
def semR(z:zJ×Bool)(S:(List za×Bool)×zo->Option (List zJ×zo))(b:za)(q:zo):Option Fq:=
 bif z.2 then(bif Bi z.1 then ze (S ((b.list,false),⟨w64 (q.room - 1),q.constructs⟩)) fun y=>some ((⟨z.1.kind,z.1.selectors,z.1.decls,z.1.cond,z.1.names,y.1⟩,true),y.2)else some ((z.1,true),⟨w64 (q.room - 1),q.constructs⟩))else some ((noR,false),q)
def KI(z:zJ×Bool)(q:zo):Option Fq:=bif z.2 then some ((z.1,true),⟨w64 (q.room - 1),q.constructs⟩)else some ((noR,false),q)
def okZ(z:zJ×Bool)(p b:List za):Prop:=z.1.rules=[]/\zy (zD z.1)<=36+6*zV p+zV b/\(Bi z.1=true->zy (zD z.1)<=36+6*zV p)
theorem zEg{at_:Bool}{name:Str}{p:List za}{b:za}(hp:40*zV p+200<=big)(hb:40*zV b.list+200<=big): ∃z:zJ×Bool,okZ z p b.list/\ ∀q,XI at_ name p b q=some (.out (z.2,q,(0,0,[],0,[],false),z.1)):=by
 have hst: ∀k:Int,k=0\/k=1->(bif bif k==2 then true else k==3 then true else k==4)=false:=fun k hk=>by rcases hk with rfl|rfl<;>rfl
 unfold XI;cases at_ with
 |false=>
  obtain⟨y,e,g1,g2,g3⟩:=zAK (p:=p) (b:=b.list) (by omega) (by omega);refine⟨y,⟨g2,by omega,fun h=> ?_⟩,fun q=> ?_⟩
  ·unfold Bi at h;rw[hst _ g3]at h;cases h
  ·simp only[Xa,Ca,e,ze,Aa,Ll]
 |true=>
  simp only[Eb,Ba,Ca];cases name==[108,97,121,101,114]with
  |true=> obtain⟨y,e,g1,g2,_⟩:=fM (v:=p) (by omega) true;exact⟨y,⟨g2,by omega,fun _=>by omega⟩,fun q=>by simp only[Ca,e,ze,Aa,Ll]⟩
  |false=>
   cases name==[109,101,100,105,97]with
   |true=>
    have g:=zED p;have e:zy (zD (⟨2,[],[],(ll p).1,[],[]⟩:zJ))=5+0+0+zy (zw (ll p).1)+0+0:=by rw[zR];rfl
    exact⟨(⟨2,[],[],(ll p).1,[],[]⟩,(ll p).2==0),⟨rfl,by dsimp only;omega,fun _=>by dsimp only;omega⟩,fun q=>by simp only[Ba,Ca,zA5 (x:=p) (show zV p<=big by omega),ze,Aa,Qd]⟩
   |false=>
    cases name==[115,117,112,112,111,114,116,115]with
    |true=>
     have g:=zHx p;have e:zy (zD (⟨3,[],[],(supS p).1,[],[]⟩:zJ))=5+0+0+zy (zw (supS p).1)+0+0:=by rw[zR];rfl
     exact⟨(⟨3,[],[],(supS p).1,[],[]⟩,(supS p).2==0),⟨rfl,by dsimp only;omega,fun _=>by dsimp only;omega⟩,fun q=>by simp only[Ba,Ca,EY (x:=p) (show 2*zV p<=big by omega),ze,Aa,Qd]⟩
    |false=> have e:zy (zD noR)=5+0+0+zy (zw ⟨0,[],0,⟨[],[],false⟩,[]⟩)+0+0:=zR _;rw[zNoC]at e;exact⟨(noR,false),⟨rfl,by dsimp only;omega,fun _=>by dsimp only;omega⟩,fun q=>rfl⟩
theorem zBT{at_:Bool}{name:Str}{p:List za}(hp:40*zV p+200<=big): ∃z:zJ×Bool,okZ z p []/\(z.2=true->Bi z.1=false/\at_=true)/\ ∀q,ND at_ name p q=some (.out (z.2,q,(0,0,[],0,[],false),z.1)):=by
 have e:zy (zD noR)=5+0+0+zy (zw ⟨0,[],0,⟨[],[],false⟩,[]⟩)+0+0:=zR _;rw[zNoC]at e;have bf: ∀x:Bool,(bif x then false else false)=false:=fun x=>by cases x<;>rfl
 have no:okZ (noR,false) p []:=⟨rfl,by dsimp only;omega,fun _=>by dsimp only;omega⟩;unfold ND;cases at_ with
 |false=>exact⟨(noR,false),no,(fun h=>nomatch h),fun q=>rfl⟩
 |true=>
  simp only[Eb,Ba,Ca,bf];cases name==[108,97,121,101,114]with
  |true=>
   obtain⟨y,e,g1,g2,g3⟩:=fM (v:=p) (by omega) false;refine⟨y,⟨g2,by omega,fun _=>by omega⟩,fun _=>⟨?_,trivial⟩,fun q=>by simp only[Ca,e,ze,Aa,Ll]⟩;unfold Bi;rcases g3 rfl with h|h<;>(rw[h];rfl)
  |false=>exact⟨(noR,false),no,(fun h=>nomatch h),fun q=>rfl⟩
def Sn(at_:Bool)(name:Str)(p:List za)(b:za):zJ×Bool:=(((XI at_ name p b ⟨0,0⟩).bind fun x=>match x with| .out j=>some (j.2.2.2,j.1)| .ret _=>none).getD (noR,false))
def Ej(at_:Bool)(name:Str)(p:List za):zJ×Bool:=(((ND at_ name p ⟨0,0⟩).bind fun x=>match x with| .out j=>some (j.2.2.2,j.1)| .ret _=>none).getD (noR,false))
theorem zCD{at_:Bool}{name:Str}{p:List za}{b:za}(hp:40*zV p+200<=big)(hb:40*zV b.list+200<=big):okZ (Sn at_ name p b) p b.list/\ ∀S q,ql S ((at_,name,p,b),q)=semR (Sn at_ name p b) S b q:=by
 obtain⟨z,h1,h2⟩:=zEg (at_:=at_) (name:=name) hp hb;have hz:Sn at_ name p b=z:=by unfold Sn;rw[h2];rfl
 rw[hz];refine⟨h1,fun S q=> ?_⟩;obtain⟨r,f⟩:=z;unfold ql;refine gL (h2 q) ?_;unfold semR;cases f with
 |false=>rfl
 |true=>
  simp only[Eb,Ba,Ca];cases hk:Bi r with
  |true=>
   unfold Bi at hk;simp only[hk,Ca,ze];cases S ((b.list,false),⟨w64 (q.room - 1),q.constructs⟩)with
   |none=>rfl
   |some y=>simp only[Aa,zG,Qd]
  |false=> unfold Bi at hk;simp only[hk,Ba,zG,Ll]
theorem zAl{at_:Bool}{name:Str}{p:List za}(hp:40*zV p+200<=big):okZ (Ej at_ name p) p []/\((Ej at_ name p).2=true->at_=true)/\ ∀q,Qu ((at_,name,p),q)=KI (Ej at_ name p) q:=by
 obtain⟨z,h1,h3,h2⟩:=zBT (at_:=at_) (name:=name) hp;have hz:Ej at_ name p=z:=by unfold Ej;rw[h2];rfl
 rw[hz];refine⟨h1,fun h=>(h3 h).2,fun q=> ?_⟩;obtain⟨r,f⟩:=z;unfold Qu;refine gL (h2 q) ?_;unfold KI;cases f with
 |false=>rfl
 |true=> have hk:=(h3 rfl).1;unfold Bi at hk;simp only[Eb,Ba,Ca];simp only at hk;simp only[hk,Ba,Ll]
def bodyC(a:za)(r:List za):List za:=bif a.token.kind==3 then r else a::r
def lg(a:za):Str:=bif a.token.kind==3 then [23,17]else [23]
def Pn(a:za):Str:=bif a.token.kind==3 then lowS a.token.text else []
def jl(a:za)(r:List za):List za:=(bodyC a r).takeWhile fun b=> !inK (lg a) b
def Ck(a:za)(r:List za):List za:=(bodyC a r).dropWhile fun b=> !inK (lg a) b
def Pk(z:zJ×Bool)(G:List zJ):List zJ:=bif z.2 then [bif Bi z.1 then⟨z.1.kind,z.1.selectors,z.1.decls,z.1.cond,z.1.names,G⟩else z.1]else []
def oneF(G:List za->List zJ)(a:za)(r:List za):List zJ:=match Ck a r with
 |[]=>Pk (Ej (a.token.kind==3) (Pn a) (jl a r)) []
 |b::_=>bif b.token.kind==23 then Pk (Sn (a.token.kind==3) (Pn a) (jl a r) b) (G b.list)else Pk (Ej (a.token.kind==3) (Pn a) (jl a r)) []
theorem BF(a:za)(r:List za):Bj (a::r)=(Ck a r).tail:=by show(bif a.token.kind==3 then(r.dropWhile fun b=> !inK [23,17] b).tail else((a::r).dropWhile fun b=> !inK [23] b).tail)=_;unfold Ck bodyC lg;cases a.token.kind==3<;>rfl
theorem ax(a:za)(r:List za):zV (jl a r)+zV (Ck a r)=zV (bodyC a r)/\zV (bodyC a r)<=zV (a::r)/\zV (Ck a r).tail+6<=zV (a::r):=by
 have h1:=zHe (lg a) (bodyC a r);have h2:=Q4 a r;have h3:zV (bodyC a r)<=zV (a::r):=by unfold bodyC;cases a.token.kind==3<;>simp only[Ca,Ba]<;>omega
 refine⟨h1,h3,?_⟩;unfold jl Ck at*;cases hD:(bodyC a r).dropWhile fun b=> !inK (lg a) b with
 |nil=>show 0+6<=_;omega
 |cons d t=>rw[hD]at h1;have:=Q4 d t;show zV t+6<=_;omega
theorem PO{G G':List za->List zJ}{a:za}{r:List za}(h: ∀l,zV l<zV (a::r)->G l=G' l):oneF G a r=oneF G' a r:=by
 obtain⟨h1,h2,_⟩:=ax a r;unfold oneF;cases hD:Ck a r with
 |nil=>rfl
 |cons b t=> rw[hD]at h1;have:=Q4 b t;dsimp only;rw[h b.list (by omega)]
def fN:Nat->Bool->List za->List zJ
 |0,_,_=>[]
 |_+1,_,[]=>[]
 |n+1,top,a::r=>bif Xl top a then fN n top r else oneF (fN n false) a r++fN n top (Bj (a::r))
theorem mq: ∀(n m:Nat) (top:Bool) (v:List za),zV v<n->zV v<m->fN n top v=fN m top v
 |0,_,_,_,h,_=>by omega
 |_+1,0,_,_,_,h=>by omega
 |n+1,m+1,top,[],_,_=>by rw[fN,fN]
 |n+1,m+1,top,a::r,hn,hm=>by have hz:=Q4 a r;have h3:=(ax a r).2.2;rw[<-BF]at h3;rw[fN,fN,mq n m top r (by omega) (by omega),mq n m top (Bj (a::r)) (by omega) (by omega),PO fun l hl=>mq n m false l (by omega) (by omega)]
def fV(top:Bool)(v:List za):List zJ:=fN (zV v+1) top v
theorem gT(top:Bool):fV top []=[]:=by unfold fV;rw[fN]
theorem wD(top:Bool)(a:za)(r:List za):fV top (a::r)=bif Xl top a then fV top r else oneF (fV false) a r++fV top (Bj (a::r)):=by have hz:=Q4 a r;have h3:=(ax a r).2.2;rw[<-BF]at h3;unfold fV;rw[fN,mq (zV (a::r)) (zV r+1) top r (by omega) (by omega),mq (zV (a::r)) (zV (Bj (a::r))+1) top _ (by omega) (by omega),PO fun l hl=>mq (zV (a::r)) (zV l+1) false l (by omega) (by omega)]
theorem fO(p:za->Bool)(w:List za): ∀{v:List za},(∃b∈v,p b=false)->(v++w).takeWhile p=v.takeWhile p
 |[],h=>by obtain⟨b,hb,_⟩:=h;cases hb
 |a::r,h=>by
  rw[Bb,Ef,Ef];cases ha:p a with
  |false=>rfl
  |true=>
   rw[Ka rfl,Ka rfl];obtain⟨b,hb,h1⟩:=h;rcases Db.1 hb with rfl|hb
   ·rw[ha]at h1;cases h1
   ·rw[fO p w ⟨b,hb,h1⟩]
theorem iT(w:List za): ∀{v:List za},lastB v->fV true (v++w)=fV true v++fV true w:=by
 intro v;generalize hn:v.length=n
 induction n using Nat.strongRecOn generalizing v with
 |_ n ih=>
  intro hv;subst hn;cases v with
  |nil=>rw[Gc,gT,Gc]
  |cons a r=>
   rw[Bb,wD,wD];have hr:lastB r:=tF (Ed a r) hv;cases hs:Xl true a with
   |true=>exact ih r.length (by simp) rfl hr
   |false=>
    have h3:(a.token.kind==3)=true->r≠[]:=fun hk e=>by
     subst e;rcases hv with hv|⟨t,b,e,hb⟩
     ·cases hv
     ·cases t with
      |nil=>
       rw[Gc]at e;rw[List.singleton_inj.1 e,hb]at hk;cases hk
      |cons x y=>simp at e
    obtain⟨h1,h2⟩:=zAg (w:=w) hv hs h3;have h4:=IG a r;have hb0:bodyC a (r++w)=bodyC a r++w:=by unfold bodyC;cases a.token.kind==3<;>rfl
    have hin: ∃b∈bodyC a r,(!inK (lg a) b)=false:=by
     have hl:bodyC a r≠[]/\lastB (bodyC a r):=by
      unfold bodyC;cases hk:a.token.kind==3 with
      |true=>exact⟨h3 hk,hr⟩
      |false=>exact⟨by simp,hv⟩
     rcases hl.2 with e|⟨t,b,e,hb⟩
     ·exact absurd e hl.1
     ·refine⟨b,by rw[e];simp,?_⟩;have:inK (lg a) b=inK (lg a) ⟨⟨23,[],0,[],false⟩,[]⟩:=by unfold inK;rw[hb]
      rw[this];unfold lg;cases a.token.kind==3<;>rfl
    have hD:=yG (fun b=> !inK (lg a) b) w hin;have hone:oneF (fV false) a (r++w)=oneF (fV false) a r:=by
     unfold oneF jl Ck;rw[hb0,fO _ w hin,hD.1];cases hq:(bodyC a r).dropWhile fun b=> !inK (lg a) b with
     |nil=>exact absurd hq hD.2
     |cons b t=>rfl
    rw[Ba,Ba,hone,show a::(r++w)=a::r++w from rfl,h1,ih _ (by rw[Da];omega) rfl h2,ja]
def rmQ(q:zo):Nat:=q.room.toNat
theorem rm_0{q:zo}(hq:okQ q):(q.room==0)=decide (rmQ q=0):=by obtain⟨n,_,h⟩:=hq;unfold rmQ;rw[h,Ib,Lg,Ob,Ua];omega
theorem dS{q:zo}(hq:okQ q){m:Nat}(h:rmQ q=m+1)(c:Int):rmQ ⟨w64 (q.room - 1),c⟩=m:=by obtain⟨n,h1,h2⟩:=hq;unfold rmQ at h ⊢;rw[h2,Ib]at h;show(w64 (q.room - 1)).toNat=m;rw[h2,h,show((m+1:Nat):Int) - 1=(m:Int) by omega,Vp (n:=m) (by unfold big;omega),Ib]
def Wp(q:zo)(F:List zJ)(y:Fq):Prop:=ZE (rmQ q) F=(bif y.1.2 then [y.1.1]else [],rmQ y.2)
section
variable {S:(List za×Bool)×zo->Option (List zJ×zo)} {N c:Nat}
variable (hS: ∀(l:List za) (q:zo),okQ q->q.constructs=(c:Int)->zV l<N->Has (S ((l,false),q)) fun y=>zL zD y.1<=6*zV l/\okQ y.2/\y.2.constructs=(c:Int)/\ZE (rmQ q) (fV false l)=(y.1,rmQ y.2))
include hS
theorem zAm{at_:Bool}{name:Str}{p:List za}{b:za}{q:zo}(hp:40*zV p+200<=big)(hb:zV b.list<N)(hb2:40*zV b.list+200<=big)(hq:okQ q)(h0:(q.room==0)=false)(hc:q.constructs=(c:Int)):
  Has (ql S ((at_,name,p,b),q)) fun y=>zy (zD y.1.1)<=36+6*zV p+6*zV b.list/\okQ y.2/\y.2.constructs=(c:Int)/\Wp q (Pk (Sn at_ name p b) (fV false b.list)) y:=by
 obtain⟨⟨g1,g2,g3⟩,hs⟩:=zCD (at_:=at_) (name:=name) hp hb2;have hz0:zy (zD noR)<=36+6*zV p+6*zV b.list:=by rw[zR];show 5+0+0+zy (zw ⟨0,[],0,⟨[],[],false⟩,[]⟩)+0+0<=_;rw[zNoC];omega
 obtain⟨m,hm⟩: ∃m,rmQ q=m+1:=by rw[rm_0 hq,decide_eq_false_iff_not]at h0;exact⟨rmQ q - 1,by omega⟩
 rw[hs];generalize Sn at_ name p b=z at g1 g2 g3;obtain⟨r,f⟩:=z;unfold semR Pk Wp;cases f with
 |false=>exact Has.some ⟨hz0,hq,hc,by rw[Ba,ZE];rfl⟩
 |true=>
  simp only[Ca];have hd:=dS hq hm q.constructs;cases hk:Bi r with
  |true=>
   refine Has.bind (hS _ _ (PE hq h0 _) hc hb) fun y ⟨k1,k2,k3,k4⟩=>Has.some ⟨?_,k2,k3,?_⟩
   ·have h7:=g3 hk;have g1:r.rules=[]:=g1;dsimp only at h7 ⊢;rw[zR,g1]at h7;rw[zR];dsimp only;have e0:zL zD ([]:List zJ)=0:=rfl;omega
   ·rw[hd]at k4;rw[Ca,Ca,hm,ZE,k4];dsimp only;rw[ZE]
  |false=> refine Has.some ⟨by dsimp only at g2 ⊢;omega,PE hq h0 _,hc,?_⟩;obtain⟨k,s,d,cc,mm,l⟩:=r;have g1:l=[]:=g1;subst g1;rw[Ba,Ca,hm,ZE,ZE,hd];dsimp only;rw[ZE]
end
theorem dV{at_:Bool}{name:Str}{p:List za}{q:zo}{c:Nat}(hp:40*zV p+200<=big)(hq:okQ q)(h0:(q.room==0)=false)(hc:q.constructs=(c:Int)):
  Has (Qu ((at_,name,p),q)) fun y=>zy (zD y.1.1)<=36+6*zV p/\okQ y.2/\y.2.constructs=(c:Int)/\(at_=false->y.1.2=false)/\Wp q (Pk (Ej at_ name p) []) y:=by
 obtain⟨⟨g1,g2,g3⟩,ha,hs⟩:=zAl (at_:=at_) (name:=name) hp;have hz0:zy (zD noR)<=36+6*zV p:=by rw[zR];show 5+0+0+zy (zw ⟨0,[],0,⟨[],[],false⟩,[]⟩)+0+0<=_;rw[zNoC];omega
 obtain⟨m,hm⟩: ∃m,rmQ q=m+1:=by rw[rm_0 hq,decide_eq_false_iff_not]at h0;exact⟨rmQ q - 1,by omega⟩
 rw[hs];generalize Ej at_ name p=z at g1 g2 g3 ha;obtain⟨r,f⟩:=z;unfold KI Pk Wp;cases f with
 |false=>exact Has.some ⟨hz0,hq,hc,fun _=>rfl,by rw[Ba,ZE];rfl⟩
 |true=>
  have hd:=dS hq hm q.constructs;have e0:zV []=0:=rfl;refine Has.some ⟨by dsimp only at g2 ⊢;omega,PE hq h0 _,hc,fun h=>(by rw[h]at ha;cases ha rfl),?_⟩;obtain⟨k,s,d,cc,mm,l⟩:=r;have g1:l=[]:=g1;subst g1;have e:(bif Bi ⟨k,s,d,cc,mm,[]⟩then(⟨k,s,d,cc,mm,[]⟩:zJ)else⟨k,s,d,cc,mm,[]⟩)=⟨k,s,d,cc,mm,[]⟩:=by cases Bi _<;>rfl
  rw[Ca];dsimp only;rw[e,hm,ZE,ZE,hd];dsimp only;rw[ZE];rfl
theorem nX {S:(List za×Bool)×zo->Option (List zJ×zo)} {N c0 M:Nat} (hN:40*N+200<=big) (hM:M<=big)
  (hS: ∀(l:List za) (q:zo) (c:Nat),okQ q->q.constructs=(c:Int)->c+zV l<=M->zV l<N->Has (S ((l,false),q)) fun y=>zL zD y.1<=6*zV l/\okQ y.2/\y.2.constructs=(c:Int)/\ZE (rmQ q) (fV false l)=(y.1,rmQ y.2))
  {v:List za} {q:zo} (top:Bool) (hv:zV v<=N) (hq:okQ q) (hc:q.constructs=(c0:Int)) (hcM:c0+zV v<=M):
  Has (Z8 S ((v,top),q)) fun y=>zL zD y.1<=6*zV v/\okQ y.2/\y.2.constructs=((bif top then c0+cntC v else c0:Nat):Int)/\ZE (rmQ q) (fV top v)=(y.1,rmQ y.2):=by
 unfold Z8;refine Has.loop (fun s=>okQ s.2.1/\zL zD s.2.2+6*zV s.1<=6*zV v/\(∃c:Nat,s.2.1.constructs=(c:Int)/\c+zV s.1<=M/\(bif top then c+cntC s.1=c0+cntC v else c=c0))/\ZE (rmQ q) (fV top v)=(s.2.2++(ZE (rmQ s.2.1) (fV top s.1)).1,(ZE (rmQ s.2.1) (fV top s.1)).2)) (fun s=>s.1.length)
  (P:=fun s=>okQ s.1/\zL zD s.2<=6*zV v/\s.1.constructs=((bif top then c0+cntC v else c0:Nat):Int)/\ZE (rmQ q) (fV top v)=(s.2,rmQ s.1)) ⟨hq,by show 0+6*zV v<=6*zV v;omega,⟨c0,hc,hcM,by cases top<;>rfl⟩,rfl⟩ (fun⟨l,p,out⟩ ⟨g1,g2,⟨c,g3,g4,g5⟩,g6⟩=> ?_) fun⟨p,out⟩ ⟨g1,g2,g3,g6⟩=>Has.some ⟨g2,g1,g3,g6⟩
 dsimp only at g1 g2 g3 g4 g5 g6 ⊢;cases l with
 |nil=>
  refine Has.bif (fun h=>nomatch h) fun _=>Has.some ⟨g1,by show zL zD out<=_;omega,?_,?_⟩
  ·show p.constructs=_;rw[g3];cases top with
   |true=>rw[Ca,cntC]at g5;rw[Ca];omega
   |false=>rw[Ba]at g5 ⊢;omega
  ·rw[gT,ZE,Rb]at g6;exact g6
 |cons a r=>
  have hz:=Q4 a r;have hlen:(a::r).length<=zV (a::r):=zLen _;have hlr:r.length<=zV r:=zLen _;have hb:big=4194304:=rfl;have ho:out.length<=zL zD out:=Qw Xj out;rw[wD]at g6;rw[wu];refine Has.bif (fun _=> ?_) fun h=>nomatch h;refine Has.eqb (iJ (a::r)) ?_;refine Has.bif (fun hs=> ?_) fun hs=> ?_
  ·have hs:Xl top a=true:=hs;rw[hs,Ca]at g6;refine Has.need (jq (by simp)) (Has.some ⟨⟨g1,?_,⟨c,g3,?_,?_⟩,g6⟩,?_⟩)
   ·show zL zD out+6*zV r<=_;omega
   ·show c+zV r<=M;omega
   ·cases top with
    |true=>rw[Ca,cntC,Ka hs]at g5;exact g5
    |false=>exact g5
   ·show r.length<(a::r).length;simp
  ·have hs:Xl top a=false:=hs;rw[hs,Ba]at g6;have hcnt:cntC (a::r)=if Xl true a then cntC r else 1+cntC (Bj (a::r)):=by rw[cntC]
   refine Has.join (P:=fun j=>j.1=a::r/\okQ j.2.1/\j.2.2=out/\j.2.1.constructs=((bif top then c+1 else c:Nat):Int)/\rmQ j.2.1=rmQ p) ?_ fun⟨j1,j2,j3⟩ ⟨e1,k1,e2,k2,k3⟩=> ?_
   ·refine Has.bif (fun ht=>Has.some ⟨rfl,g1,rfl,?_,rfl⟩) fun ht=>Has.some ⟨rfl,g1,rfl,?_,rfl⟩
    ·have ht:top=true:=ht;subst ht;show w64 (p.constructs+1)=_;rw[g3];exact wh (by omega)
    ·have ht:top=false:=ht;subst ht;exact g3
   have e1:j1=_:=e1;have e2:j3=_:=e2;subst e1 e2;dsimp only at k1 k2 k3 ⊢;rw[<-k3]at g6
   -- the construct's values, behind its at-keyword
   refine Has.join (P:=fun j=>j.1.1=bodyC a r/\j.1.2=Pn a/\j.2.1=j2/\j.2.2.1=j3/\j.2.2.2=lg a) ?_ fun⟨⟨i1,i2⟩,i3,i4,i5⟩ ⟨e3,e5,e7,e4,e6⟩=> ?_
   ·unfold bodyC Pn lg;refine Has.bif (fun hk=> ?_) fun hk=> ?_
    ·have hk:(a.token.kind==3)=true:=hk;refine Has.eqb (show geti (a::r) 0=some a from rfl) ?_;refine bLow (by omega) ?_;exact Has.need rfl (Has.need (jq (by simp)) (Has.some ⟨by rw[hk];rfl,by rw[hk];rfl,rfl,rfl,by rw[hk];rfl⟩))
    ·have hk:(a.token.kind==3)=false:=hk;exact Has.some ⟨by rw[hk];rfl,by rw[hk];rfl,rfl,rfl,by rw[hk];rfl⟩
   have e3:i1=_:=e3;have e4:i4=_:=e4;have e5:i2=_:=e5;have e6:i5=_:=e6;have e7:i3=_:=e7;subst e3 e4 e5 e6 e7;dsimp only at g2 ⊢;obtain⟨hcut,hbz,hD6⟩:=ax a r;have hxl:(bodyC a r).length<=zV (bodyC a r):=zLen _;have hel:(lg a).length<=2:=by unfold lg;cases a.token.kind==3<;>decide
   refine Has.eqb (zCS (v:=bodyC a r) (ks:=lg a) (by omega) (by omega)) ?_;have hrest:=BF a r;have hrl:=IG a r;have hin2:inK [23] (⟨⟨23,[],0,[],false⟩,[]⟩:za)=true:=rfl;rw[hrest]at hrl g6 hcnt;unfold oneF at g6;unfold Ck at hcut hD6 hrest hrl g6 hcnt;dsimp only;have hP0:(bodyC a r).takeWhile (fun b=> !inK (lg a) b)=jl a r:=rfl;rw[hP0];generalize hP:jl a r=P at hcut g6 ⊢;generalize hD:((bodyC a r).dropWhile fun b=> !inK (lg a) b)=D at hcut hrest hrl hD6 g6 hcnt ⊢;have hlt:D.tail.length<(a::r).length:=by rw[Da];omega
   have again: ∀(p':zo) (out':List zJ),okQ p'->p'.constructs=((bif top then c+1 else c:Nat):Int)->zL zD out'+6*zV D.tail<=6*zV v->ZE (rmQ q) (fV top v)=(out'++(ZE (rmQ p') (fV top D.tail)).1,(ZE (rmQ p') (fV top D.tail)).2)->
     (okQ p'/\zL zD out'+6*zV D.tail<=6*zV v/\(∃c:Nat,p'.constructs=(c:Int)/\c+zV D.tail<=M/\(bif top then c+cntC D.tail=c0+cntC v else c=c0))/\ZE (rmQ q) (fV top v)=(out'++(ZE (rmQ p') (fV top D.tail)).1,(ZE (rmQ p') (fV top D.tail)).2))/\D.tail.length<(a::r).length:=fun p' out' n1 n2 n3 n4=>by
    refine⟨⟨n1,n3,⟨_,n2,?_,?_⟩,n4⟩,hlt⟩
    ·cases top with
     |true=>rw[Ca];omega
     |false=>rw[Ba];omega
    ·cases top with
     |true=> rw[Ca,hcnt,Ha (by rw[hs];decide)]at g5;rw[Ca,Ca];omega
     |false=>exact g5
   have hP:zV P<=zV (a::r):=by omega
   have ho4:i4.length<=zL zD i4:=Qw Xj i4;have out2: ∀x:zJ,zL zD (i4++[x])=zL zD i4+zy (zD x):=fun x=>by rw[jh,ZI,Lh,Kc]
   -- no room; a rule that is kept, or not
   have none0:(i3.room==0)=true-> ∀F:List zJ,ZE (rmQ q) (fV top v)=(i4++(ZE (rmQ i3) (F++fV top D.tail)).1,(ZE (rmQ i3) (F++fV top D.tail)).2)->ZE (rmQ q) (fV top v)=(i4++(ZE (rmQ i3) (fV top D.tail)).1,(ZE (rmQ i3) (fV top D.tail)).2):=fun h F h6=>by rw[rm_0 k1,Ua]at h;rw[h,oq]at h6;rw[h,oq];exact h6
   have keep: ∀(F:List zJ) (y:Fq),Wp i3 F y->ZE (rmQ q) (fV top v)=(i4++(ZE (rmQ i3) (F++fV top D.tail)).1,(ZE (rmQ i3) (F++fV top D.tail)).2)->
     ZE (rmQ q) (fV top v)=((i4++bif y.1.2 then [y.1.1]else [])++(ZE (rmQ y.2) (fV top D.tail)).1,(ZE (rmQ y.2) (fV top D.tail)).2):=fun F y hy h6=>by
    unfold Wp at hy;rw[SG,hy]at h6;rw[h6,ja]
   refine Has.eqb (iJ D) ?_;refine Has.bif (fun h23=> ?_) fun h23=> ?_
   ·cases D with
    |nil=>cases h23
    |cons d t=>
     have hd:=Q4 d t;have e5:(d::t).tail=t:=rfl;have h23:(d.token.kind==23)=true:=h23;dsimp only at g6;rw[h23,Ca]at g6;refine Has.eqb (show geti (d::t) 0=some d from rfl) ?_;refine Has.join (xL (d::t) i3 i4) fun j e6=> ?_;subst e6;dsimp only;refine Has.bif (fun h0=>Has.some (again i3 i4 k1 k2 (by rw[e5];omega) (none0 h0 _ g6))) fun h0=> ?_;refine Has.bind (zAm (S:=S) (N:=zV d.list+1) (c:=bif top then c+1 else c) (fun l q h1 h2 h3=>hS l q _ h1 h2 ?_ (by omega)) (by omega) (by omega) (by omega) k1 h0 k2) fun y ⟨n1,n2,n3,n4⟩=> ?_
     ·cases top with
      |true=>rw[Ca];omega
      |false=>rw[Ba];omega
     have n5:=keep _ y n4 g6;refine Has.bif (fun ht=> ?_) fun hf=> ?_
     ·rw[ht,Ca]at n5;refine Has.need (ZU (by omega)) (Has.some (again _ _ n2 n3 ?_ ?_))
      ·rw[e5,out2,Ll];omega
      ·rw[Ll];exact n5
     ·rw[hf,Ba,Rb]at n5;exact Has.some (again _ i4 n2 n3 (by rw[e5];omega) n5)
   ·refine Has.join (xL D i3 i4) fun j e6=> ?_;subst e6;dsimp only;have hDt:zV D.tail<=zV D:=yl (Uh D);have g6:ZE (rmQ q) (fV top v)=(i4++(ZE (rmQ i3) (Pk (Ej (a.token.kind==3) (Pn a) P) []++fV top D.tail)).1,(ZE (rmQ i3) (Pk (Ej (a.token.kind==3) (Pn a) P) []++fV top D.tail)).2):=by
     cases D with
     |nil=>exact g6
     |cons d t=> have h23:(d.token.kind==23)=false:=h23;dsimp only at g6;rw[h23,Ba]at g6;exact g6
    refine Has.bif (fun h0=>Has.some (again i3 i4 k1 k2 (by omega) (none0 h0 _ g6))) fun h0=> ?_;refine Has.bind (dV (c:=bif top then c+1 else c) (by omega) k1 h0 k2) fun y ⟨n1,n2,n3,n4,n6⟩=> ?_;have n5:=keep _ y n6 g6;refine Has.bif (fun hf=> ?_) fun hf=> ?_
    ·have hk:(a.token.kind==3)=true:=by
      cases hk:a.token.kind==3 with
      |true=>rfl
      |false=>rw[n4 hk]at hf;cases hf
     have h6:zV (bodyC a r)+6<=zV (a::r):=by unfold bodyC;rw[hk,Ca];omega
     rw[hf,Ca]at n5;refine Has.need (ZU (by omega)) (Has.some (again _ _ n2 n3 ?_ ?_))
     ·rw[out2,Ll];omega
     ·rw[Ll];exact n5
    ·rw[hf,Ba,Rb]at n5;exact Has.some (again _ i4 n2 n3 (by omega) n5)
theorem KO{v:List za}{q:zo}(top:Bool){c:Nat}(h1:40*zV v+200<=big)(hq:okQ q)(hc:q.constructs=(c:Int))(h2:c+zV v<=big):
  Has (zQ ((v,top),q)) fun y=>zL zD y.1<=6*zV v/\okQ y.2/\y.2.constructs=((bif top then c+cntC v else c:Nat):Int)/\ZE (rmQ q) (fV top v)=(y.1,rmQ y.2):=by
 have h:=wy zfV (fun z=>zV z.1.1) (fun z=>40*zV z.1.1+200<=big/\okQ z.2/\ ∃c:Nat,z.2.constructs=(c:Int)/\c+zV z.1.1<=big)
  (fun z y=> ∀c:Nat,z.2.constructs=(c:Int)->zL zD y.1<=6*zV z.1.1/\okQ y.2/\y.2.constructs=((bif z.1.2 then c+cntC z.1.1 else c:Nat):Int)/\ZE (rmQ z.2) (fV z.1.2 z.1.1)=(y.1,rmQ y.2))
  (fun S ⟨⟨v,top⟩,q⟩ ⟨h1,hq,c,hc,h2⟩ hS=>by
   dsimp only at h1 hq hc h2 hS ⊢;refine(nX (S:=S) (N:=zV v) (M:=big) h1 (Sa _) (fun l q c hq hc hM hl=> ?_) top (Sa _) hq hc h2).wk fun y hy c' hc'=> ?_
   ·exact Has.wk (hS ((l,false),q) ⟨by dsimp only;omega,hq,c,hc,hM⟩ hl) fun y hy=>hy c hc
   ·obtain rfl:c=c':=by rw[hc]at hc';exact Int.ofNat.inj hc'
    exact hy)
  (x:=((v,top),q)) ⟨h1,hq,c,hc,h2⟩
 exact Has.wk h fun y hy=>hy c hc
structure Sf (d:UInt8) (y:Str):Prop where
 f:fstB d=false
 l:letB d=false
 g:digB d=false
 s:Vh d=false
 a:(d==45)=false
 b:(d==46)=false
 c:(d==92)=false
 n:(d==10)=false
 e:(d==40)=false
 p:(d==37)=false
 m:d≠42
 o:[33,45,45].isPrefixOf (d::y)=false
 x:(d==101||d==69)=false
 k:d≠60/\d≠62
theorem Uu{d:UInt8}{y:Str}(h:Sf d y)(q:Str):escS (q++d::y)=escS q:=by
 match q with
 |[]=>show(d==92&&_)=false;rw[h.c];rfl
 |[c]=>show(c==92&& !(d==10))=(c==92&& !((0:UInt8)==10));rw[h.n];rfl
 |c::e::t=>rfl
theorem jI{d:UInt8}{y:Str}(h:Sf d y)(q:Str):nmS (q++d::y)=nmS q:=by
 have h0:escS (d::y)=false:=Uu h []
 match q with
 |[]=> show(if d==45 then _ else fstB d||escS (d::y))=false;rw[h.a,Ha (by decide),h.f,h0];rfl
 |[c]=> unfold nmS;show(if c==45 then fstB d||d==45||escS (d::y)else fstB c||escS ([c]++d::y))=(if c==45 then fstB 0||(0:UInt8)==45||escS []else fstB c||escS [c]);rw[Uu h [c],h0,h.f,h.a];rfl
 |c::e::t=> unfold nmS;show(if c==45 then fstB e||e==45||escS ((e::t)++d::y)else fstB c||escS ((c::e::t)++d::y))=(if c==45 then fstB e||e==45||escS (e::t)else fstB c||escS (c::e::t));rw[Uu h,Uu h]
theorem GD{d:UInt8}{y:Str}(h:Sf d y)(q:Str):digB (atS (q++d::y) 0)=digB (atS q 0):=by
 cases q with
 |nil=>show digB d=false;exact h.g
 |cons c t=>rfl
theorem jF{d:UInt8}{y:Str}(h:Sf d y)(q:Str):unsign (q++d::y)=unsign q++d::y:=by
 cases q with
 |nil=>show(if Vh d then _ else _)=_;rw[h.s];rfl
 |cons c t=>exact(VG (d::y) (by simp)).1
theorem zCQ{d:UInt8}{y:Str}(h:Sf d y)(q:Str):undot (q++d::y)=undot q++d::y:=by
 cases q with
 |nil=>show(if d==46 then _ else _)=_;rw[h.b];rfl
 |cons c t=>exact zAZ (d::y) (by simp)
theorem zHj{d:UInt8}{y:Str}(h:Sf d y)(q:Str):nbS (q++d::y)=nbS q:=by unfold nbS;rw[jF h,zCQ h,GD h]
theorem nS{d:UInt8}{y m:Str}(hm: ∀b∈m,b≠d): ∀q:Str,m.isPrefixOf (q++d::y)=m.isPrefixOf q:=by
 induction m with
 |nil=>intros;rw[List.isPrefixOf,List.isPrefixOf]
 |cons a m ih=>
  intro q;cases q with
  |nil=> have:(a==d)=false:=Ga.2 (hm a (Jb ..));show((a==d)&&m.isPrefixOf y)=false;rw[this];rfl
  |cons b t=>rw[Bb,List.isPrefixOf,List.isPrefixOf,ih (fun b hb=>hm b (Cb _ hb))]
theorem zFR{d:UInt8}{y:Str}(h:Sf d y)(q:Str):[60,33,45,45].isPrefixOf (q++d::y)=[60,33,45,45].isPrefixOf q:=by
 have h45:(45:UInt8)≠d:=fun e=>by have:=h.a;rw[<-e]at this;cases this
 match q with
 |[]=> show((60:UInt8)==d&&_)=false;rw[Ga.2 (fun e=>h.k.1 e.symm)];rfl
 |[c]=> show((60:UInt8)==c&&[33,45,45].isPrefixOf (d::y))=((60:UInt8)==c&&false);rw[h.o]
 |c::e::t=> show((60:UInt8)==c&&((33:UInt8)==e&&[45,45].isPrefixOf (t++d::y)))=((60:UInt8)==c&&((33:UInt8)==e&&[45,45].isPrefixOf t));rw[nS (m:=[45,45]) (fun b hb=>by simp only[Db,Pe,or_false,or_self]at hb;rw[hb];exact h45)]
theorem zHc{d:UInt8}{y:Str}(h:Sf d y)(c:UInt8)(r:Str):brS c (r++d::y)=brS c r:=by
 have e:c::(r++d::y)=(c::r)++d::y:=rfl;have h45:(45:UInt8)≠d:=fun e=>by have:=h.a;rw[<-e]at this;cases this
 have hl:letB (atS (r++d::y) 0)=letB (atS r 0):=by
  cases r with
  |nil=>show letB d=false;exact h.l
  |cons c t=>rfl
 unfold brS;rw[e,zHj h,nS (m:=[45,45,62]) (fun b hb=>by
  simp only[Db,Pe,or_false]at hb;rcases hb with rfl|rfl|rfl
  ·exact h45
  ·exact h45
  ·exact fun e=>h.k.2 e.symm),zFR h,jI h,jI h,hl,Uu h]
theorem NU{c:UInt8}{k:Int}(h1:14<=k)(h2:k<=24)(hc:lI k=[c])(hp:c≠47)(y:Str):QP (c::y)=⟨k,[],0,[],false⟩::QP y:=by have h:=PU (k:=k) (by omega) h2 y;rw[hc,Ha (by omega)]at h;rw[Mr (jk (zGK (Ga.2 hp))),show c::y=[c]++y from rfl,h]
theorem sfC(y:Str):Sf 125 y:=⟨rfl,rfl,rfl,rfl,rfl,rfl,rfl,rfl,rfl,rfl,by decide,rfl,rfl,by decide⟩
def endC(q:Str):Prop:= ∃r,q=r++[125]
theorem Rm{a q:Str}(h:a<:+q)(hq:endC q)(ha:a≠[]):endC a:=by
 obtain⟨r,rfl⟩:=hq;obtain⟨b,e⟩:=h;rcases df a with rfl|⟨t,c,rfl⟩
 ·exact absurd rfl ha
 ·rw[xe,<-ja]at e;have:=je e rfl;exact⟨t,by rw[xe,this]⟩
theorem RJ{a b:Str}(h:a<:+b)(ha:a≠[]):b≠[]:=fun e=>ha (List.suffix_nil.1 (e▸h))
theorem wL{q x:Str}{α:Sort _}(f:Str->α)(h: ∀r y,f (r++125::y)=f r)(hq:endC q):f (q++x)=f q:=by obtain⟨r,rfl⟩:=hq;rw[ja,h r [],<-h r x];rfl
theorem zGn{c:UInt8}{r:Str}(x:Str)(hr:endC r)(h:(QO (c::r)).2≠[]):QO (c::(r++x))=((QO (c::r)).1,(QO (c::r)).2++x):=by
 have hq:endC (c::r):=by obtain⟨t,rfl⟩:=hr;exact⟨c::t,rfl⟩
 have nm: ∀{q:Str},endC q->nmS (q++x)=nmS q:=fun h=>wL nmS (fun r y=>jI (sfC y) r) h;refine zCd (wL (brS c) (fun r y=>zHc (sfC y) c r) hr) h (fun _=>nm hr) (fun hb=> ?_);rw[nu,hb,Wt]at h;have hne:=xW h;have s1:(ZB (c::r)).1<:+(qm (Kg (c::r))).1:=zFY _;have s2:(qm (Kg (c::r))).1<:+Kg (c::r):=VV _;have s3:Kg (c::r)<:+c::r:=(Hl _ _).trans (by unfold unsign;split;exact Ae 1 _;exact jd _);have n1:(qm (Kg (c::r))).1≠[]:=RJ s1 hne;have n2:Kg (c::r)≠[]:=RJ s2 n1;have e2:=Rm s3 hq n2;have e1:=Rm s2 e2 n1;have e0:=Rm s1 e1 hne;obtain⟨a,b⟩:=zEN (q:=c::r) (x:=x) hne (fun e=>by obtain⟨t,et⟩:=e2;rw[e]at et;cases t with|nil=>cases et|cons a t=>cases t<;>cases et) (fun hn=>by
  generalize (qm (Kg (c::r))).1=w at hn e1 ⊢;obtain⟨t,rfl⟩:=e1;rw[zBH]at hn ⊢;rw[ja,Fe];cases t with
  |nil=>rfl
  |cons d t=>
   have h1:digB (atS (unsign (t++[125])) 0)=digB (atS (unsign t) 0):=by rw[jF (sfC []),GD (sfC [])]
   have h2:digB (atS (unsign (t++125::x)) 0)=digB (atS (unsign t) 0):=by rw[jF (sfC x),GD (sfC x)]
   have hn:((d==101||d==69)&&digB (atS (unsign (t++[125])) 0))=false:=hn;show((d==101||d==69)&&digB (atS (unsign (t++125::x)) 0))=false;rw[h2,<-h1];exact hn)
 exact⟨a,b,nm e0⟩
theorem wR{q:Str}(x:Str)(hq:endC q)(h:cmtS q≠[]):cmtS (q++x)=cmtS q++x:=by
 refine IK h ?_;have hp:=zDV q;obtain⟨t,e⟩:=Rm (Oh q) hq h;cases t with
 |nil=>rw[e];rfl
 |cons a t=>
  cases t with
  |nil=>rw[e];show((47:UInt8)==a&&false)=false;rw[Jd]
  |cons b u=> rw[e]at hp ⊢;exact(zCx (u++[125]) x).trans hp
theorem zHq{ts:List zk}{q R:Str}(x:Str):endC q->run q ts R->cmtS R≠[]->run (q++x) ts (R++x):=by
 induction ts generalizing q with
 |nil=>intro _ h _;rw[run]at h;subst h;rfl
 |cons t ts ih=>
  intro hq h hR;obtain⟨c,r,h1,h2,h3⟩:=h;have hR0:R≠[]:=fun e=>hR (by rw[e];exact jk rfl);have h4:(QO (c::r)).2≠[]:=fun e=>by have:=Ho h3;rw[e]at this;exact hR0 (List.suffix_nil.1 this)
  have hc:endC (c::r):=Rm (h1▸Oh q) hq (by simp);have hs:=Il c r;have hr:r≠[]:=RJ hs h4;have hr2:=Rm (Ed c r) hc hr;have h5:=zGn x hr2 h4;refine⟨c,r++x,by rw[wR x hq (by rw[h1];simp),h1];rfl,by rw[h5];exact h2,?_⟩;rw[h5];exact ih (Rm hs hr2 h4) h3 hR
theorem zG2{c R:Str}{ts:List zk}(x:Str)(h:run c ts R)(hR:cmtS R=[125]):QP (c++x)=QP c++QP x:=by
 have hc:endC c:=by have h1:[125]<:+c:=hR▸(Oh R).trans (Ho h);obtain⟨t,e⟩:=h1;exact⟨t,e.symm⟩
 have hRc:endC R:=Rm (Ho h) hc (fun e=>by rw[e]at hR;cases hR.symm.trans (jk rfl));have mk: ∀y:Str,QP (125::y)=⟨24,[],0,[],false⟩::QP y:=fun y=>NU (by decide) (by decide) rfl (by decide) y;rw[uy (zHq x hc h (by rw[hR];simp)),uy h,<-jy (R++x),<-jy R,wR x hRc (by rw[hR];simp),hR];show _++QP (125::x)=(_++QP (125::[]))++_;rw[mk,mk,Br (l:=[]) (jk rfl),ja];rfl
theorem fK: ∀(s t:Str) (b:Bool),(∀p,s≠p++[13])->s≠[]->clR b (s++t)=clR b s++clR false t
 |[],_,_,_,h=>absurd rfl h
 |[c],t,b,h,_=>by have:(c==13)=false:=Ga.2 fun e=>h [] (by rw[e];rfl);rw[Fe,clR,clR,clR,this,Rb]
 |c::d::s,t,b,h,_=>by rw[Bb,clR,fK (d::s) t _ (fun p e=>h (c::p) (by rw[e];rfl)) (by simp),<-ja];rfl
theorem LW{s:Str}(t:Str)(h: ∀p,s≠p++[13]):Proofs.Cl.cleanS (s++t)=Proofs.Cl.cleanS s++Proofs.Cl.cleanS t:=by
 rw[<-dn _ _ (Sa _),<-dn _ s (Sa _),<-dn _ t (Sa _)];cases s with
 |nil=>rfl
 |cons c s=>exact fK _ t _ h (by simp)
theorem IL: ∀(p:Str) (b:Bool),(∃y,clR b (p++[13])=y++[10])
 |[],b=>⟨[],by rw[Gc,clR,clR,Ha fun h=>nomatch h.1];rfl⟩
 |c::p,b=>by obtain⟨y,hy⟩:=IL p (c==13);refine⟨(if c=10/\b=true then []else clnB c)++y,?_⟩;rw[Bb,clR,hy,ja]
theorem wU{s:Str}(h:endC (Proofs.Cl.cleanS s)): ∀p,s≠p++[13]:=by rintro p rfl;obtain⟨y,hy⟩:=IL p false;rw[dn _ _ (Sa _)]at hy;obtain⟨r,e⟩:=h;rw[hy]at e;cases je e rfl
def yw(s:Str)(n:Nat)(sp:List ZG)(R:Str):Prop:= ∃ts:List zk,run s ts R/\ts.length=n/\sp.length=n/\(n=0\/ ∃l0 R0 c r sq b,ts=l0++[(QO (c::r)).1]/\run s l0 R0/\cmtS R0=c::r/\R=(QO (c::r)).2/\sp=sq++[⟨b,(beh s R:Int)⟩])
theorem zAb{s:Str}(hs:s.length<=40000):Has (
  Zl (fun(s3:Int×List ZG×zb)=>
    bif decide (s3.2.2.at_<(s.length:Int))then
     bif decide (w64 (s3.1+1)>1500)then
      some (LO.ret (4,s3.2.1))
     else
      ze (qB s3.2.2) fun y4=>
      ze (BC ((y4.1,s3.2.2.at_,y4.2.at_),s3.2.1)) fun y5=>
      ze (Zz y4.2) fun y6=>
      some (LO.again (w64 (s3.1+1),y5,y6))
    else
     some (LO.out (s3.2.1,s3.2.2)):Int×List ZG×zb->Option (LO (Int×List ZG×zb) (List ZG×zb) (Int×List ZG))) (0,[],sr s (cmtS s)) fun o7=>
  some (0,o7.1)) fun z=>z.1=0-> ∃n R,yw s n z.2 R/\cmtS R=[]:=by
 refine Has.loop (fun z=> ∃(n:Nat) (sp:List ZG) (R:Str),z=((n:Int),sp,sr s (cmtS R))/\R<:+s/\n<=1500/\yw s n sp R) (fun z=>s.length - z.2.2.at_.toNat) (P:=fun o=> ∃n R,yw s n o.1 R/\cmtS R=[]) ⟨0,[],s,rfl,jd s,by omega,[],rfl,rfl,rfl, .inl rfl⟩ ?_ fun o ho=>Has.some fun _=>ho;rintro _ ⟨n,sp,R,rfl,hR,hn,ts,h1,h2,h3,h4⟩;dsimp only;have hq:cmtS R<:+s:=(Oh R).trans hR;have hle:=hq.length_le;refine Has.bif (fun hat=> ?_) fun hat=> ?_
 ·have hw:w64 ((n:Int)+1)=((n+1:Nat):Int):=by rw[Qi (by omega) (by omega)];omega
  rw[hw];refine Has.bif (fun _=>Has.some fun h=>nomatch h) fun hm=> ?_;have hm:=of_decide_eq_false hm;cases hc:cmtS R with
  |nil=> have:=Ub hat;rw[hc]at this;unfold beh at this;rw[Ya]at this;omega
  |cons c r=>
   rw[hc,Da]at hle;have hs2:(QO (c::r)).2<:+s:=(Il c r).trans (Ki (hc▸hq));refine Has.eqb (PR hs (hc▸hq) rfl) ?_;unfold BC;refine Has.bind (Has.need (ZU (by dsimp only;omega)) (Has.some rfl):Has _ fun y=>y=sp++[⟨(beh s (c::r):Int),(beh s (QO (c::r)).2:Int)⟩]) fun y5 e5=> ?_;subst e5;refine Has.eqb (uz hs hs2) (Has.some ⟨⟨n+1,_,_,rfl,hs2,by omega,ts++[(QO (c::r)).1],?_,?_,?_, .inr ⟨ts,R,c,r,sp,_,rfl,h1,hc,rfl,rfl⟩⟩,?_⟩)
   ·exact CL h1 ⟨c,r,hc,rfl,rfl⟩
   ·rw[Ia,h2];rfl
   ·rw[Ia,h3];rfl
   ·have h5:=(Il c r).length_le;have h6:=(Oh (QO (c::r)).2).length_le;show s.length - beh s (cmtS (QO (c::r)).2)<s.length - beh s (c::r);unfold beh;rw[Da];omega
 ·refine Has.some ⟨n,R,⟨ts,h1,h2,h3,h4⟩,?_⟩;have:=of_decide_eq_false hat;unfold beh at this;exact Mf.1 (by omega)
theorem MG(w:Str):Yi w=some (if 4000<w.length then([],28)else(Proofs.Cl.cleanS w,0)):=by unfold Yi;split<;>rfl
theorem UV(w:Str):Has (SA w) fun z=>z.2=0-> ∃n R,yw (Proofs.Cl.cleanS w) n z.1 R/\cmtS R=[]:=by
 unfold SA GH;by_cases hl:4000<w.length
 ·rw[MG,Ka hl];exact Has.bind (P:=fun y=>y=(28,[])) (Has.some rfl) fun y e=>by subst e;exact Has.some fun h=>nomatch h
 ·rw[MG,Ha hl];have hs:=vz w;have hs:(Proofs.Cl.cleanS w).length<=40000:=by omega
  refine Has.bind (P:=fun z=>z.1=0-> ∃n R,yw (Proofs.Cl.cleanS w) n z.2 R/\cmtS R=[]) ?_ fun y hy=>Has.bif (fun h=>Has.some fun h0=> ?_) fun h=>Has.some fun _=>hy (by simpa using h)
  ·refine Has.eqb rfl ?_;dsimp only;refine Has.bif (fun h=>nomatch h) fun _=> ?_;rw[sr_0];exact Has.eqb (uz hs (jd _)) (zAb hs)
  ·have h0:y.1=0:=h0;rw[h0]at h;cases h
theorem WU{l:List zk}{t:zk}{v:List za}{b:za}(h:qz (l++[t]) ([],[])=some (v++[b],[]))(hb:b.token.kind=23):t.kind=24:=by
 rw[aG]at h;cases hs:qz l ([],[])with
 |none=>rw[hs]at h;cases h
 |some s=>
  rw[hs,Aa,qz]at h;obtain⟨cur,st⟩:=s;unfold Qy at h;dsimp only at h;split at h
  ·rename_i h1
   match st,h1,h with
   |(o,out)::st,h1,h=> have h:some ((out++[⟨o,cur⟩],st):PSt)=some (v++[b],[]):=h;injection h with h;injection h with h2 h3;have h4:=List.singleton_inj.1 (je h2 rfl);subst h4;have hb:o.kind=23:=hb;have h1:(t.kind==Zb o.kind)=true:=h1;rw[hb]at h1;exact Ob.1 h1
  ·split at h
   ·split at h
    ·cases h
    ·have h:some (([],(t,cur)::st):PSt)=some (v++[b],[]):=h;injection h with h;injection h with _ h3;cases h3
   ·rename_i h1 h2;have h:some ((cur++[⟨t,[]⟩],st):PSt)=some (v++[b],[]):=h;injection h with h;injection h with h4 _;have h5:=List.singleton_inj.1 (je h4 rfl);subst h5;have hb:t.kind=23:=hb;rw[hb]at h2;exact absurd (by decide) h2
theorem zGf(c:UInt8)(h:Ag c=24):c=125:=by
 have: ∀n:Nat,n<256->Ag (UInt8.ofNat n)=24->UInt8.ofNat n=125:=by decide+kernel
 have:=this c.toNat (Uc c);rw[Re]at this;exact this h
theorem zGk{c:UInt8}{r:Str}(h:(QO (c::r)).1.kind=24):c=125/\(QO (c::r)).2=r:=by have hb:=zDO c r;rw[h]at hb;have hb:brS c r=9:=hb.symm;rw[nu,hb,OC]at h ⊢;exact⟨zGf c h,rfl⟩
structure Closed (w:Str):Prop where
 len:w.length<=4000
 tok:(Zf w).2=0
 par:qz (QP (Proofs.Cl.cleanS w)) ([],[])=some ((parS (Zf w).1).1,[])
 last: ∃t b,(parS (Zf w).1).1=t++[b]/\b.token.kind=23
 run: ∃l0 R0,run (Proofs.Cl.cleanS w) l0 R0/\cmtS R0=[125]
theorem tok0{w:Str}(h:(Zf w).2=0):w.length<=4000/\(QP (Proofs.Cl.cleanS w)).length<=1500/\(Zf w).1=QP (Proofs.Cl.cleanS w):=by
 unfold Zf at h ⊢;split at h
 ·cases h
 ·rename_i h1;split at h
  ·cases h
  ·rename_i h2;rw[Ha h1,Ha h2];exact⟨by omega,by omega,rfl⟩
theorem zHv{α:Type}{l:List α}(h:((l.length:Int)==0)=false): ∃t x,l=t++[x]:=by
 rcases df l with rfl|⟨t,x,rfl⟩
 ·cases h
 ·exact⟨t,x,xe⟩
theorem nL{α:Type}{t:List α}{x:α}(h:(t++[x]).length<=big):geti (t++[x]) (w64 (((t++[x]).length:Int) - 1))=some x:=by have hb:big=4194304:=rfl;rw[Ia,Mc]at h ⊢;rw[show w64 (((t.length+1:Nat):Int) - 1)=(t.length:Int) by rw[Qi (by omega) (by omega)];omega];rw[Zu (by simp)];simp
theorem lN{w:Str}(hw:w.length<=4000):Has (Sw w) fun z=>z.2=true->Closed w:=by
 have hsz:=zEZ (Zf w).1;have hbig:big=4194304:=rfl;unfold Sw;refine Has.eqb (MG w) ?_;rw[Ha (by omega)];refine Has.eqb (GN w) (Has.bind (UV w) fun sp hsp=>Has.eqb (show parseF (Zf w).1=some (parS (Zf w).1)from rfl) ?_);dsimp only;refine Has.bif (fun _=>Has.some fun h=>nomatch h) fun hf=> ?_;have e1:((0:Int) != 0)=false:=rfl;rw[e1,Ba]at hf;obtain⟨h1,h2,h3,h4,h5⟩:(Zf w).2=0/\sp.2=0/\(parS (Zf w).1).2=0/\((((parS (Zf w).1).1.length:Nat):Int)==0)=false/\((sp.1.length:Int)==0)=false:=by
  cases h1:(Zf w).2 != 0 with
  |true=>rw[h1]at hf;cases hf
  |false=>
   cases h2:sp.2 != 0 with
   |true=>rw[h1,h2]at hf;cases hf
   |false=>
    cases h3:(parS (Zf w).1).2 != 0 with
    |true=>rw[h1,h2,h3]at hf;cases hf
    |false=>
     cases h4:(((parS (Zf w).1).1.length:Nat):Int)==0 with
     |true=>rw[h1,h2,h3,h4]at hf;cases hf
     |false=>rw[h1,h2,h3,h4]at hf;exact⟨by simpa using h1,by simpa using h2,by simpa using h3,rfl,hf⟩
 obtain⟨_,g2,g3⟩:=tok0 h1;have hc3:=vz w;have hwt:wtT (Zf w).1<=60000:=by rw[g3];have:=MJ (Proofs.Cl.cleanS w);omega
 have hvl:=Mh (parS (Zf w).1).1;obtain⟨n,R,⟨ts,r1,r2,r3,r4⟩,r5⟩:=hsp h2;have hts:QP (Proofs.Cl.cleanS w)=ts:=by rw[uy r1,Br r5,Rb]
 obtain⟨vt,vb,hv⟩:=zHv h4;have hn:n≠0:=fun e=>by rw[r3,e]at h5;cases h5
 obtain⟨l0,R0,c,r,sq,b,q1,q2,q3,q4,q5⟩:=r4.resolve_left hn;have hsl:sp.1.length<=1500:=by rw[r3,<-r2,<-hts];exact g2
 refine Has.eqb (show geti sp.1 _=some ⟨b,(beh (Proofs.Cl.cleanS w) R:Int)⟩ by rw[q5]at hsl ⊢;exact nL (by omega)) ?_;dsimp only;refine Has.bind (P:=fun y=>((beh (Proofs.Cl.cleanS w) R:Int)==((Proofs.Cl.cleanS w).length:Int))=true->y=vb) (Has.cond (fun _=>⟨vb,?_,fun _=>rfl⟩) fun h h'=>by rw[h]at h';cases h') fun y6 e6=> ?_
 ·rw[hv];exact nL (by rw[<-hv];omega)
 refine Has.bind (P:=fun y=>(bif (beh (Proofs.Cl.cleanS w) R:Int)==((Proofs.Cl.cleanS w).length:Int)then y6.token.kind==23 else false)=true->y=tokL (parS (Zf w).1).1) (Has.cond (fun _=>⟨_,gV (by omega),fun _=>rfl⟩) fun h h'=>by rw[h]at h';cases h') fun y7 e7=> ?_;refine Has.some fun ht=> ?_;dsimp only at ht;cases hc:(beh (Proofs.Cl.cleanS w) R:Int)==((Proofs.Cl.cleanS w).length:Int)with
 |false=>rw[hc]at ht;cases ht
 |true=>
  have e6:=e6 hc;subst e6;rw[hc]at ht e7;cases hk:y6.token.kind==23 with
  |false=>rw[hk]at ht;cases ht
  |true=>
   rw[hk]at ht e7;have e7:=e7 rfl;subst e7;have ht:(((tokL (parS (Zf w).1).1).length:Int)==((Zf w).1.length:Int))=true:=ht;have hpar:=oV h3 (by have:=Ob.1 ht;omega);rw[g3,hts,q1]at hpar;have hk:=Ob.1 hk;have hR:R=[]:=by
    have h6:=(Ho r1).length_le;have h7:=Ob.1 hc;unfold beh at h7;exact Mf.1 (by
     have:0<(Proofs.Cl.cleanS w).length:=by have h8:=(Oh R0).length_le;have h9:=(Ho q2).length_le;rw[q3,Da]at h8;omega
     omega)
   rw[<-q1,<-hts,<-g3,hv]at hpar;refine⟨hw,h1,by rw[<-g3,hv];exact hpar,⟨vt,y6,hv,hk⟩,l0,R0,q2,?_⟩;rw[g3,hts,q1]at hpar;have h24:=WU (by rw[<-g3]at hts;exact hpar) hk;obtain⟨d1,d2⟩:=zGk h24;rw[q3,d1];rw[d2]at q4;rw[<-q4,hR]
end Go.Lv.VT
end
