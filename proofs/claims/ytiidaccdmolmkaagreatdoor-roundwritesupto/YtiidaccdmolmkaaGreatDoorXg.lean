import Derived.Test.YtiidaccdmolmkaaGreatDoorXf
set_option linter.all false
namespace Go.Lv.VT
set_option maxRecDepth 100000
def hZ:List ze->Nat
 |[]=>0
 |t::r=>if t.u==9&&t.kb==[92]then 2 else if xg t then(if ni r then 3 else 2)else 1
def gv:List ze->aE
 |[]=>[]
 |t::r=>eq t++gv r
def pcS:List ze->aE
 |[]=>[]
 |t::r=>if t.u==9&&t.kb==[92]then [92,10]else gv (t::r)
def Y6{t:ze}(h:Eg t=true)(a:(t.u==13)=true):t=tkSp:=by
 rw[Fb]at a;cases Es h with
 |cId|cFn|cAt|cHash|cStr|cUrl|cDel|cNum|cPct|cDim=>simp at a
 |cMark k c b=>grind
def WZ{t:ze}(h:Eg t=true)(a:(t.u==5)=true): ∃m,ZL m=true/\t=⟨5,m,0,[],false⟩:=by
 rw[Fb]at a;cases Es h with
 |cStr l b=>grind
 |cId|cFn|cAt|cHash|cUrl|cDel|cNum|cPct|cDim=>simp at a
 |cMark k d c=>grind
def zR9{t:ze}(h:Eg t=true)(a:(t.u==9&&t.kb==[92])=true):t=⟨9,[92],0,[],false⟩:=by
 rw[Da,Fb,Fb]at a;cases Es h with
 |cDel c h=>grind
 |cId|cFn|cAt|cHash|cStr|cUrl|cNum|cPct|cDim=>simp at a
 |cMark k d b=>grind
def zMD{t:ze}(h:Eg t=true)(a:xg t=true): ∃l,ZL l=true/\dr l=[117,114,108]/\t=⟨2,l,0,[],false⟩:=by
 unfold xg at a;rw[Da,Fb,Fb]at a;cases Es h with
 |cFn l d c=>grind
 |cId|cAt|cHash|cStr|cUrl|cDel|cNum|cPct|cDim=>simp at a
 |cMark k b e=>grind
def zTx{t:ze}(h:(t.u==9&&t.kb==[92])=false): ¬(t.u=9/\t.kb=[92]):=by
 grind
def Mw(t:ze)(r:List ze):hZ (t::r)=if t.u==9&&t.kb==[92]then 2 else if xg t then(if ni r then 3 else 2)else 1:=rfl
def kM(t:ze)(r:List ze):okAt (t::r)=((!(t.u==9&&t.kb==[92])||ni r)&&(!(xg t)||Vp r)):=rfl
def Yw(s:ze)(r:List ze):Vp (s::r)=(bif s.u==13 then(match r with|u::_=>u.u==5|[]=>false)else s.u==5):=rfl
def zTy{t:ze}{r:List ze}(e: ∀u∈t::r,Eg u=true)(d:okAt (t::r)=true): ∃P Q,t::r=P++Q/\P.length=hZ (t::r)/\kA (pcS P) P:=by
 have c:=e t (Ub ..);rw[kM,Da]at d;rw[Mw];cases h:t.u==9&&t.kb==[92]with
 |true=>
  rw[h,Ab,Ac]at d;rw[La rfl];cases r with
  |nil=>cases d.1
  |cons s r=> have g:=Y6 (e s (by simp)) d.1;have p:=zR9 c h;subst g p;exact⟨[⟨9,[92],0,[],false⟩,tkSp],r,rfl,rfl, .back⟩
 |false=>
  rw[Ka (by decide)];cases j:xg t with
  |false=>
   rw[Ka (by decide)];have f:pcS [t]=eq t:=by show(if(t.u==9&&t.kb==[92])=true then [92,10]else eq t++[])=_;rw[h,Ka (by decide),Ib]
   exact⟨[t],r,rfl,rfl,by rw[f];exact .one t (Es c) (zTx h) j⟩
  |true=>
   rw[La rfl];rw[j,Ab,Ac]at d;obtain⟨l,n,o,rfl⟩:=zMD c j;have a:=d.2;have b: ∀m:aE,eq ⟨5,m,0,[],false⟩++[]=34::(cW dl m++[34]):=λm=>by rw[Cq,Ib]
   cases r with
   |nil=>cases a
   |cons s r=>
    cases g:s.u==13 with
    |false=>
     rw[Yw,g,Ba]at a;obtain⟨m,i,rfl⟩:=WZ (e s (by simp)) a;rw[show ni (⟨5,m,0,[],false⟩::r)=false from rfl,Ka (by decide)];refine⟨[⟨2,l,0,[],false⟩,⟨5,m,0,[],false⟩],r,rfl,rfl,?_⟩;have f:pcS [⟨2,l,0,[],false⟩,⟨5,m,0,[],false⟩]=ZA l++40::((if false then [32]else [])++34::(cW dl m++[34])):=by show eq ⟨2,l,0,[],false⟩++(eq ⟨5,m,0,[],false⟩++[])=_;rw[b,Xp,Ja];rfl
     rw[f];exact .url l m false n o i
    |true=>
     have k:=Y6 (e s (by simp)) g;subst k;cases r with
     |nil=>cases a
     |cons u r=>
      obtain⟨m,i,rfl⟩:=WZ (e u (by simp)) a;rw[show ni (tkSp::⟨5,m,0,[],false⟩::r)=true from rfl,La rfl];refine⟨[⟨2,l,0,[],false⟩,tkSp,⟨5,m,0,[],false⟩],r,rfl,rfl,?_⟩;have f:pcS [⟨2,l,0,[],false⟩,tkSp,⟨5,m,0,[],false⟩]=ZA l++40::((if true then [32]else [])++34::(cW dl m++[34])):=by show eq ⟨2,l,0,[],false⟩++(eq tkSp++(eq ⟨5,m,0,[],false⟩++[]))=_;rw[b,Xp,show eq tkSp=[32]from rfl,Ja];rfl
      rw[f];exact .url l m true n o i
def zKw{t:ze}{r:List ze}(h:t.kb.length<=co)(a:okAt (t::r)=true):jq (t::r)=some ((hZ (t::r):Nat):Int):=by
 have m:cl (t::r) 0=some t:=rfl;have k:=Mv (t::r) 1 13;have e:=Mv (t::r) 1 5;have b:=Mv (t::r) 2 5;unfold jq;simp only[m,za,Aa,oN h (show([117,114,108]:aE).length<=co by decide),Ov,zO];simp only[Int.natCast_one]at k e;replace b:Qn ((2,5),t::r)=_:=b;have g:Qn ((1,13),t::r)=some (ni r):=by rw[k];cases r<;>rfl
 rw[g];rw[kM]at a;unfold xg at a;rw[Mw];unfold xg;cases j:(t.u==9&&t.kb==[92])with
 |true=>
  grind
 |false=>
  have n:(bif t.u==9 then t.kb==[92]else false)=false:=by
   cases o:t.u==9
   ·rfl
   ·grind
  simp only[n,j,Ba,Va,Uc,ja];rw[j,Va,Uc,ja]at a;cases f:(t.u==2&&dr t.kb==[117,114,108])with
  |false=>
   grind
  |true=>
   rw[f,Ab,Ac]at a;rw[Da]at f;rw[f.1,f.2];simp only[Ca,Aa];cases r with
   |nil=>cases a
   |cons s r=>
    cases d:s.u==13 with
    |false=>
     have i:ni (s::r)=false:=d;have l:Qn ((1,5),t::s::r)=some (s.u==5):=e;have c:(s.u==5)=true:=by rw[Yw,d]at a;exact a
     simp only[i,Ba,zf,l,Aa,c,Ab];rfl
    |true=>
     have i:ni (s::r)=true:=d;simp only[i,Ca,zf,b,Aa];cases r with
     |nil=>rw[Yw,d]at a;cases a
     |cons u r=>
      have c:(u.u==5)=true:=by rw[Yw,d]at a;exact a
      show(bif !(u.u==5)then some 0 else some (cj (2+1)))=some 3;rw[c];rfl
def i5(l:aE):Bool:=l.all λc=> !(c==0||c==12||c==13)
def mg(a b:aE):i5 (a++b)=(i5 a&&i5 b):=by unfold i5;grind
def zE0: ∀l:aE,i5 l=true->Proofs.Cl.ds l=l
 |[],_=>by rw[Proofs.Cl.ds]
 |c::r,h=>by
  unfold i5 at h;rw[Yc,Da]at h;have e:=zE0 r h.2;have d:(c==0||c==12||c==13)=false:=by simpa using h.1
  rw[Mf,Mf]at d;obtain⟨⟨f,a⟩,b⟩:=d;rw[Proofs.Cl.ds,f,a,b,e]
  ·rfl
  grind
def Kq(c:UInt8):i5 (ew c)=true/\(cM c=true->i5 [c]=true)/\(c≠0->dl c=false->i5 [c]=true)/\(c≠0->hY c=false->i5 [c]=true)/\(ji c.toNat=true->i5 [c]=true)/\(cm c=true->i5 [c]=true):=by
 have: ∀n:Nat,n<256->i5 (ew (UInt8.ofNat n))=true/\(cM (UInt8.ofNat n)=true->i5 [UInt8.ofNat n]=true)/\(UInt8.ofNat n≠0->dl (UInt8.ofNat n)=false->i5 [UInt8.ofNat n]=true)/\(UInt8.ofNat n≠0->hY (UInt8.ofNat n)=false->i5 [UInt8.ofNat n]=true)/\(ji (UInt8.ofNat n).toNat=true->i5 [UInt8.ofNat n]=true)/\(cm (UInt8.ofNat n)=true->i5 [UInt8.ofNat n]=true):=by decide+kernel
 have:=this c.toNat (Kb c);simp_all
def Jq(dash:Bool): ∀(k:Nat) (l:aE),i5 (cJ dash k l)=true
 |_,[]=>by rw[cJ];rfl
 |k,c::r=>by
  obtain⟨b,a,_⟩:=Kq c;rw[cJ,mg,Jq dash (k - 1) r,Nb];unfold i9
  grind
def dE{p:UInt8->Bool}(a: ∀c,c≠0->p c=false->i5 [c]=true): ∀l:aE,ZL l=true->i5 (cW p l)=true
 |[],_=>by rw[cW];rfl
 |c::r,h=>by
  obtain⟨e,d⟩:=Gn h;rw[cW,mg,dE a r d,Nb];cases b:p c with
  |true=>exact(Kq c).1
  |false=>exact a c e b
def jY{l:aE}(h:l.all cm=true):i5 l=true:=by
 induction l with
 |nil=>rfl
 |cons c r a=> rw[Yc,Da]at h;rw[show c::r=[c]++r from rfl,mg,(Kq c).2.2.2.2.2 h.1,a h.2];rfl
def cl_T(n:Int)(p:Bool):i5 (cE n p)=true:=by
 obtain⟨a,_,_⟩:=Dv (n.natAbs / 1000);have c:=oL (n:=n) (p:=p);rw[bD,mg,mg,jY a];have b:i5 (sgT n)=true:=by unfold sgT;split<;>rfl
 rw[b];cases (cA (n.natAbs%1000) p).isEmpty with
 |true=>rfl
 |false=> show i5 (46::cA (n.natAbs%1000) p)=true;rw[show 46::cA (n.natAbs%1000) p=[46]++cA (n.natAbs%1000) p from rfl,mg,jY c];rfl
def zPE(w:aE):i5 (Ug w)=true:=by
 cases w with
 |nil=>rfl
 |cons c r=>
  rw[jo];cases Xj (c::r)with
  |true=>rw[Ca,mg,(Kq c).1,Jq];rfl
  |false=>exact Jq _ _ _
def TQ{s:aE}{P:List ze}(h:kA s P):i5 s=true:=by
 cases h with
 |one t h hb hu=>
  cases h with
  |cId l h0 h=>rw[au];exact Jq _ _ _
  |cFn l h0 h=>rw[Xp,mg];rw[show i5 (ZA l)=true from Jq _ _ _];rfl
  |cAt l h0 h=>rw[bu,show 64::ZA l=[64]++ZA l from rfl,mg,show i5 (ZA l)=true from Jq _ _ _];rfl
  |cHash l f h0 h a=>
   rw[Vs,show 35::Ai f l=[35]++Ai f l from rfl,mg];have:i5 (Ai f l)=true:=by cases f<;>exact Jq _ _ _
   rw[this];rfl
  |cStr l h=>rw[Cq,show 34::(cW dl l++[34])=[34]++(cW dl l++[34])from rfl,mg,mg,dE (λc h0 hc=>(Kq c).2.2.1 h0 hc) l h];rfl
  |cUrl l h=>rw[Lr,mg,mg,dE (λc h0 hc=>(Kq c).2.2.2.1 h0 hc) l h];rfl
  |cDel c h=>rw[Ur];exact(Kq c).2.2.2.2.1 h
  |cNum n f h1 h2 hf=>rw[Nr];exact cl_T _ _
  |cPct n h1 h2=>rw[Mr,mg,cl_T];rfl
  |cDim n u f h1 h2 hf h0 h=>rw[Sr,mg,cl_T,zPE];rfl
  |cMark k h1 h2=> rw[Us h1 h2];rcases Nv h1 h2 with rfl|rfl|rfl|rfl|rfl|rfl|rfl|rfl|rfl|rfl|rfl|rfl<;>rfl
 |back=>rfl
 |url l m b h hl hm=> rw[mg,show i5 (ZA l)=true from Jq _ _ _,show∀z:aE,40::z=[40]++z from λ_=>rfl,mg,mg,show∀z:aE,34::z=[34]++z from λ_=>rfl,mg,mg,dE (λc h0 hc=>(Kq c).2.2.1 h0 hc) m hm];cases b<;>rfl
def zRX{b:aE}{ts:List ze}{st:List (List ze×aE)}(h:Syn b ts st):i5 b=true:=by
 induction h with
 |nil=>rfl
 |cmt b s ts P st h e c a=>rw[mg,mg,a,TQ c];rfl
 |no b s ts P st h c d a=>rw[mg,a,TQ c];rfl
def tokB(x y:ze):Bool:=x.u==y.u&&(x.kb==y.kb&&(x.kg==y.kg&&(x.ki==y.ki&&(x.la==y.la&&true))))
def ig:List ze->List ze->Bool
 |[],[]=>true
 |x::l,y::m=>tokB x y&&ig l m
 |_,_=>false
def zHs(x y:ze)(l m:List ze):ig (x::l) (y::m)=(tokB x y&&ig l m):=rfl
def zN8{x y:ze}:tokB x y=true↔x=y:=by
 obtain⟨a,b,c,d,e⟩:=x;obtain⟨j,f,g,i,h⟩:=y;unfold tokB
 grind
def Sw: ∀{l m:List ze},ig l m=true↔l=m
 |[],[]=>by simp[ig]
 |x::l,y::m=>by rw[ig,Da,zN8,Sw,List.cons.injEq]
 |[],y::m=>by simp[ig]
 |x::l,[]=>by simp[ig]
def pM{l m:List ze}(h:l.length≠m.length):ig l m=false:=by
 cases a:ig l m with
 |false=>rfl
 |true=>rw[Sw.1 a]at h;grind
def zCJ {l m:List ze}(hl:l.length=m.length)(hn:l.length<=co){step:Int->Option (LO Int Unit Bool)}
  (h1: ∀(i:Nat) (h:i<l.length),step (i:Int)=bif !(tokB l[i] (m[i]'(hl▸h)))then some (.ret false)else some (.again (cj ((i:Int)+1))))
  (h2:step (l.length:Int)=some (.out ())):zM step 0 (λ_=>some true)=some (ig l m):=by
 have hb:co=4194304:=rfl;refine uk (λs=> ∃i:Nat,i<=l.length/\s=(i:Int)/\ig (l.drop i) (m.drop i)=ig l m) (λs=>l.length - s.toNat) _ ?_ ⟨0,by omega,rfl,rfl⟩;rintro _ ⟨i,hi,rfl,a⟩;rcases Ec i l.length with h|h
 ·rw[h1 i h];have hm:i<m.length:=hl▸h;rw[show l.drop i=l[i]::l.drop (i+1)from Eb h,show m.drop i=m[i]::m.drop (i+1)from Eb hm,zHs]at a;cases ht:tokB l[i] (m[i]'(hl▸h))with
  |true=> rw[ht,ja]at a;rw[Ab,Ba,zY (by omega) (by omega)];exact .inl ⟨_,rfl,⟨i+1,by omega,by omega,a⟩,by omega⟩
  |false=>
   grind
 ·have:i=l.length:=by omega
  subst this;rw[Je (Db _),Je (by omega)]at a;exact .inr (.inl ⟨(),h2,by rw[<-a];rfl⟩)
def DL{α:Type}{l:List α}{i:Nat}(h:i<l.length):cl l (i:Int)=some l[i]:=zF h
def int_ne{n m:Nat}:(((n:Int) != (m:Int)):Bool)= !(n==m):=by
 grind
def zMz{l m:List ze}(d:l.length<=co):BC (l,m)=some (ig l m):=by
 unfold BC;rw[int_ne];cases b:l.length==m.length with
 |false=>rw[Va,Ca,pM (Fa.1 b)]
 |true=>
  rw[Ab,Ba];have a:=Fb.1 b;refine zCJ a d (λi h=> ?_) ?_
  ·have c:i<m.length:=a▸h;have e:decide ((i:Int)<(l.length:Int))=true:=Ga (by omega);simp only[e,Ca,DL h,DL c,za,Aa];rfl
  grind
def same_eq{l m:List ze}(e:l.length<=co):xG (l,m)=some (ig l m):=by
 unfold xG;rw[int_ne];cases c:l.length==m.length with
 |false=>rw[Va,Ca,pM (Fa.1 c)]
 |true=>
  rw[Ab,Ba];have a:=Fb.1 c;refine zCJ a e (λi h=> ?_) ?_
  ·have b:i<m.length:=a▸h;have f:decide ((i:Int)<(l.length:Int))=true:=Ga (by omega);have d:decide ((0:Int)<=(i:Int))=true:=Ga (by omega);have g:decide ((i:Int)<(m.length:Int))=true:=Ga (by omega);simp only[f,d,g,Ca,DL h,DL b,za,Aa,Oa,Na h,Na b];rfl
  grind
def wrF:Nat->List ze->aE->List ze->aE
 |0,_,b,_=>b
 |_+1,_,b,[]=>b
 |n+1,a,b,t::r=>
  wrF n (a++(t::r).take (hZ (t::r))) ((if ig (Qw (b++pcS ((t::r).take (hZ (t::r))))) (a++(t::r).take (hZ (t::r)))then b else b++cmtW)++pcS ((t::r).take (hZ (t::r)))) ((t::r).drop (hZ (t::r)))
def wrS(l:List ze):aE:=wrF l.length [] [] l
def wZ: ∀(n:Nat) (ts:List ze) (b:aE) (r:List ze),b.length<=(wrF n ts b r).length
 |0,_,_,_=>Db _
 |_+1,_,_,[]=>Db _
 |n+1,ts,b,t::r=>by
  rw[wrF];refine Jc ?_ (wZ n _ _ _)
  grind
def Iq(l:List ze):Prop:=(∀t∈l,Eg t=true/\t.kb.length<=5000/\t.ki.length<=5000)/\ ∀k,k<l.length->okAt (l.drop k)=true
def zCE{l:List ze}(h:Iq l)(n:Nat):Iq (l.drop n):=by refine⟨λt b=>h.1 t (List.mem_of_mem_drop b),λk a=> ?_⟩;rw[Ic]at a;rw[ae];exact h.2 (n+k) (by omega)
def jD{t:ze}{r:List ze}:1<=hZ (t::r):=by rw[Mw];grind
def O0{t:ze}{r:List ze}:hZ (t::r)<=3:=by rw[Mw];grind
def K3{t:ze}{r:List ze}(h:Iq (t::r)):hZ (t::r)<=(t::r).length/\kA (pcS ((t::r).take (hZ (t::r)))) ((t::r).take (hZ (t::r))):=by
 obtain⟨P,Q,d,c,b⟩:=zTy (λu a=>(h.1 u a).1) (h.2 0 (by simp))
 grind
def zTi{t:ze}(e:Eg t=true)(g:t.kb.length<=5000)(h2:t.ki.length<=5000):(eq t).length<=20100:=by
 have i: ∀l:aE,l.length<=5000->(ZA l).length<=20000:=λl p=>by have:=Ej (l==[45]) (qC l) l;unfold ZA;omega
 cases Es e with
 |cId l d h=>rw[au];grind
 |cFn l d h=>rw[Xp,Ea];grind
 |cAt l d h=>rw[bu,Ha];grind
 |cHash l f d h j=>
  rw[Vs,Ha];have s:=i l g;have o:=Ej false 0 l;have m:l.length<=5000:=g;cases f with
  |true=>rw[show Ai true l=ZA l from rfl];omega
  |false=>rw[show Ai false l=cJ false 0 l from rfl];omega
 |cStr l h=>rw[Cq];have:=Am dl l;grind
 |cUrl l h=>rw[Lr];have:=Am hY l;grind
 |cDel c h=>rw[Ur];simp
 |cNum n f a b e=>rw[Nr];have:=(Kr a b (!f)).1;omega
 |cPct n a b=>rw[Mr,Ea,Td];have:=(Kr a b false).1;omega
 |cDim n u f a b e d h=>
  rw[Sr,Ea];have:=(Kr a b (!f)).1;have m:u.length<=5000:=h2;have q:(Ug u).length<=20004:=by
   cases u with
   |nil=>grind
   |cons c r=>
    rw[jo];cases Xj (c::r)with
    |true=>
     rw[Ca,Ea];have:=Ik c;have:=Ej false 0 r
     grind
    |false=>grind
  omega
 |cMark k a b=>rw[Us a b];have:=SN k;omega
def DT: ∀{l:List ze},(∀t∈l,Eg t=true/\t.kb.length<=5000/\t.ki.length<=5000)->(gv l).length<=20100*l.length
 |[],_=>Yb _
 |t::r,h=>by obtain⟨a,b,c⟩:=h t (Ub ..);have:=zTi a b c;have:=DT (l:=r) (λu d=>h u (Vb _ d));rw[gv,Ea,Ha];omega
def O6: ∀(l m:List ze),gv (l++m)=gv l++gv m
 |[],m=>rfl
 |t::l,m=>by rw[Bb,gv,gv,O6 l m,Ja]
def zMc {R:Type}{step:Int×List UInt8->Option (LO (Int×List UInt8) (List UInt8) R)}{l:List ze}(m:l.length<=3)(e: ∀t∈l,Eg t=true/\t.kb.length<=5000/\t.ki.length<=5000)
  (f: ∀(i:Nat) (a:aE) (hi:i<l.length),step ((i:Int),a)=(Ku (l[i],a)).bind λj=>some (LO.again (cj ((i:Int)+1),j)))
  (h2: ∀a,step ((l.length:Int),a)=some (.out a)):Dg step (0,[])=some (.out (gv l)):=by
 refine qh (λz=> ∃(i:Nat),i<=l.length/\z=((i:Int),gv (l.take i))) (λz=>l.length - z.1.toNat) _ ?_ ⟨0,by omega,rfl⟩;rintro _ ⟨i,hi,rfl⟩;rcases Ec i l.length with h|h
 ·obtain⟨a,b,c⟩:=e l[i] (Ia h);have g:=DT (l:=l.take i) (λt d=>e t (Bf d));rw[Oc]at g;have k:min i l.length<=2:=by omega
  have d:=l7 (acc:=gv (l.take i)) a b c (by
   grind)
  rw[f i _ h,d,Aa];refine .inl ⟨_,rfl,⟨i+1,by omega,?_⟩,by simp only;rw[zY (by omega) (by omega)];omega⟩;rw[zY (by omega) (by omega),Jb h,O6];refine Prod.ext (by grind) ?_;show _=gv (l.take i)++(eq l[i]++[])
  grind
 grind
def jt(x:List ze×aE):Zq:=⟨(x.1.length:Int),(x.2.length:Int)⟩
def zLI{b s A B:aE}{ts L us P:List ze}{m:Nat}(h:b=B++A/\A≠[]/\ts=L++us/\us≠[]/\ ∃R,run b L R/\Lk R A/\4<=R.length/\4<=A.length):ig (Qw (A++s)) (us++P)=ig (Qw (b++s)) (ts++P):=by
 obtain⟨o,k,i,n,R,j,a,l,e⟩:=h;have g:=Iw (K4 s j l);have f:Lk (R++s) (A++s):=by
  refine MZ a k ?_;rcases a with a|⟨d,y,_,rfl,_⟩
  ·cases A with
   |nil=>grind
   |cons c t=>
    cases t with
    |cons d u=>rw[zNA,<-a];exact Fz R
    |nil=>simp at e
  ·rfl
 rw[U5 f]at g;rw[g,i,Gg,Sw,Sw,Ja,List.append_cancel_left_eq]
def IM{x:List ze}(h:hH x=0):x.length<=1500/\(∀t∈x,Eg t=true)/\ ∀k,k<x.length->okAt (x.drop k)=true:=by
 unfold hH at h;cases hl:decide (x.length<=1500)with
 |false=>grind
 |true=>
  rw[hl,Ca]at h;cases ha:(List.range x.length).all (Xu x)with
  |false=>grind
  |true=>
   rw[Ya]at ha;have a: ∀k,k<x.length->Eg (x.getD k default)=true/\okAt (x.drop k)=true:=by intro k hk;have:=ha k (Pd.2 hk);unfold Xu at this;rw[Da]at this;exact this
   refine⟨jb hl,λt ht=> ?_,λk hk=>(a k hk).2⟩;obtain⟨k,hk,rfl⟩:=List.mem_iff_getElem.1 ht
   grind
def zRL{t:ze}{r:List ze}:(bif t.u==9 then((hZ (t::r):Nat):Int)==2 else false)=(t.u==9&&t.kb==[92]):=by
 cases a:t.u==9 with
 |false=>rfl
 |true=>
  have b:xg t=false:=by unfold xg;rw[Fb.1 a];rfl
  rw[Mw,a,Ca,b]
  grind
def nL{t:ze}{r:List ze}:pcS ((t::r).take (hZ (t::r)))=bif (t.u==9&&t.kb==[92])then [92,10]else gv ((t::r).take (hZ (t::r))):=by
 obtain⟨k,a⟩: ∃k,hZ (t::r)=k+1:=⟨hZ (t::r) - 1,by have:=jD (t:=t) (r:=r);omega⟩;rw[a,Ld,pcS]
 grind
def U8{n:Nat}{ts:List ze}{b:aE}{t:ze}{r:List ze}{s:aE}{P:List ze}(a:(t::r).take (hZ (t::r))=P)(c:pcS P=s):
  wrF (n+1) ts b (t::r)=wrF n (ts++P) ((if ig (Qw (b++s)) (ts++P)then b else b++cmtW)++s) ((t::r).drop (hZ (t::r))):=by
 subst c a;rw[wrF]
def ap16{n:Nat}(h:n<=99999):Zm n 1 16=true:=Wn (by omega) (by omega)
def rY{n m:Nat}(h:n+m<=200000):Zm n m 1=true:=by
 unfold Zm
 grind
def zP7{R:Type}{i:Int}{b:aE}{ts:List ze}{st:List (List ze×aE)}(h:zRF b ts st)(g:st.length<=100000): ∃L B A us,
  (bif decide (cj (((st.map jt).length:Int) - 4)>=0)then
        ck (decide (0<=cj (((st.map jt).length:Int) - 4))&&decide (cj (((st.map jt).length:Int) - 4)<((st.map jt).length:Int)))<|
        ((st.map jt)[(cj (((st.map jt).length:Int) - 4)).toNat]?).bind λc=>
        some (LX.out (i,b,st.map jt,c))
       else
        some (LX.out (i,b,st.map jt,(⟨0,0⟩:Zq))))=(some (LX.out (i,b,st.map jt,jt (L,B))):Option (LX (Int×List UInt8×List Zq×Zq) R))/\
  b=B++A/\ts=L++us/\ ∀s P,ig (Qw (A++s)) (us++P)=ig (Qw (b++s)) (ts++P):=by
 rw[Xa];by_cases l:4<=st.length
 ·obtain⟨A,R,us,d,k,e,a,j,f,o,n⟩:=h.bd (st.length - 4) (by omega);refine⟨st[st.length - 4].1,st[st.length - 4].2,A,us,?_,d,e,λs P=>zLI (m:=0) ⟨d,k,e,a,R,j,f,by omega,by omega⟩⟩;rw[zY (by omega) (by omega),Ga (by omega),Ca,Ga (by omega),Bool.and_self,Zd,show((st.length:Int) - 4).toNat=st.length - 4 by omega,Ta,Na (by omega)];rfl
 ·refine⟨[],[],b,ts,?_,rfl,rfl,λs P=>rfl⟩;rw[zY (by omega) (by omega),Ma (by omega),Ba];rfl
def zLQ{x:List ze}(hx: ∀t∈x,t.kb.length<=5000/\t.ki.length<=5000):
  dG x=some (if hH x=0 then(if 4000<(wrS x).length then([],28)else(wrS x,0))else([],hH x)):=by
 unfold dG;have bh:co=4194304:=rfl;rw[lV (λt ht=>by grind)];simp only[za,Aa];by_cases hg:hH x=0
 ·rw[La hg,hg,show((0:Int) != 0)=false from rfl,Ba];obtain⟨bj,Y,aw⟩:=IM hg;have Z:Iq x:=⟨λt ht=>⟨Y t ht,hx t ht⟩,aw⟩;refine uk (λz=> ∃(i:Nat) (b:aE) (st:List (List ze×aE)) (n:Nat),z=((i:Int),b,st.map jt)/\i<=x.length/\Syn b (x.take i) st/\b.length<=4000/\x.length - i<=n/\wrF n (x.take i) b (x.drop i)=wrS x/\st.length<=i) (λz=>x.length - z.1.toNat) _ ?_
   ⟨0,[],[],x.length,rfl,Yb _, .nil,Yb _,Db _,rfl,Db _⟩
  rintro _ ⟨i,b,st,n,rfl,hi,o,bm,hn,Q,bo⟩;simp only;rcases Ec i x.length with h|h
  ·have U:=zCE Z i;have d:x.drop i=x[i]::x.drop (i+1):=Eb h;obtain⟨t,ht⟩: ∃t,t=x[i]:=⟨_,rfl⟩;obtain⟨r,hr⟩: ∃r,r=x.drop (i+1):=⟨_,rfl⟩;rw[<-ht,<-hr]at d;rw[d]at U Q;have b3:(t::r).length=x.length - i:=by rw[<-d,Ic]
   obtain⟨ad,f⟩:=K3 U;have b5:=jD (t:=t) (r:=r);have b6:=O0 (t:=t) (r:=r);obtain⟨k,hk⟩: ∃k,hZ (t::r)=k:=⟨_,rfl⟩;obtain⟨P,hP⟩: ∃P,(t::r).take k=P:=⟨_,rfl⟩;obtain⟨s,hs⟩: ∃s,pcS P=s:=⟨_,rfl⟩;have e:=nL (t:=t) (r:=r);have p:=λm=>U8 (n:=m) (ts:=x.take i) (b:=b) (t:=t) (r:=r) (s:=s) (P:=P) (by rw[hk];exact hP) hs;have e3:jq (List.drop i x)=some ((k:Nat):Int):=by rw[d,<-hk];exact zKw (by grind) (U.2 0 (by simp))
   have al:=zRL (t:=t) (r:=r);rw[hk]at b5 ad b6 f e al p;rw[hP]at f e;rw[hs]at f e;rw[b3]at ad;have e1:decide ((i:Int)<(x.length:Int))=true:=Ga (by omega);have e2:(decide ((0:Int)<=(i:Int))&&decide ((i:Int)<=(x.length:Int)))=true:=by rw[Ga (by omega),Ga (by omega)];rfl
   have e4:cj ((i:Int)+((k:Nat):Int))=((i+k:Nat):Int):=by rw[zY (by omega) (by omega)];omega
   have e5:(decide ((0:Int)<=(i:Int))&&(decide ((i:Int)<=((i+k:Nat):Int))&&decide (((i+k:Nat):Int)<=(x.length:Int))))=true:=by rw[Ga (by omega),Ga (by omega),Ga (by omega)];rfl
   have e6:cl x (i:Int)=some t:=by rw[zF h,ht]
   have e7:List.drop i (List.take (i+k) x)=P:=by rw[List.drop_take,d,show i+k - i=k by omega,hP]
   simp only[e1,e2,e3,e4,e5,e6,Ca,Zd,Aa,Oa,e7];have b7:P.length<=3:=by rw[<-hP,Oc];omega
   have am: ∀u∈P,Eg u=true/\u.kb.length<=5000/\u.ki.length<=5000:=λu hu=>U.1 u (by grind);have bp:s.length<=60400:=by
    have:=DT am;rw[e];cases t.u==9&&t.kb==[92]with
    |true=>grind
    |false=>grind
   rw[Zt (zMc (l:=P) b7 am (λj a hj=> ?_) (λa=> ?_))]
   ·rw[al];have b8:(bif (t.u==9&&t.kb==[92])then some (LX.out ((i:Int),b,st.map jt,[(92:UInt8),(10:UInt8)]))else some (LX.out ((i:Int),b,st.map jt,gv P)))=(some (LX.out ((i:Int),b,st.map jt,s)):Option (LX (Int×List UInt8×List Zq×List UInt8) (LO (Int×List UInt8×List Zq) (List UInt8) (aE×Int)))):=by rw[e];cases t.u==9&&t.kb==[92]<;>rfl
    rw[b8,zf];simp only;have W:=zTd o;obtain⟨L,B,A,us,a3,V,a6,an⟩:=zP7 (R:=LO (Int×List UInt8×List Zq) (List UInt8) (aE×Int)) (i:=(i:Int)) W (by omega);rw[a3,zf];have bq:B.length<=b.length:=by rw[V,Ea];omega
    have br:A.length<=b.length:=by rw[V,Ea];omega
    have f1:(decide ((0:Int)<=(jt (L,B)).at_)&&decide ((jt (L,B)).at_<=(b.length:Int)))=true:=by show(decide ((0:Int)<=(B.length:Int))&&decide ((B.length:Int)<=(b.length:Int)))=true;rw[Ga (by omega),Ga (by omega)];rfl
    have f2:(jt (L,B)).at_.toNat=B.length:=Oa _;have f3:decide (B.length+(b.length - B.length)<=b.length)=true:=Ga (by omega);have f4:List.take (b.length - B.length) (List.drop B.length b)=A:=by rw[V,List.drop_left,Ea,show B.length+A.length - B.length=A.length by omega,Xc]
    have f5:zI A.length s.length=true:=Zc.2 (by omega);simp only[f1,f2,f3,f4,f5,Zd,zHH,Aa,e4,Oa];have b9:(jt (L,B)).kd=(L.length:Int):=rfl;have bt:L.length<=i:=by have:=congrArg List.length a6;rw[Oc,Ea]at this;omega
    have ba:List.drop L.length (List.take (i+k) x)=us++P:=by
     have:List.take (i+k) x=L++(us++P):=by rw[List.take_add,d,hP,a6,Ja]
     rw[this,List.drop_left]
    have a7:P.length=k:=by rw[<-hP,Oc];omega
    have bl:(us++P).length<=1500:=by have h1:=congrArg List.length a6;rw[Oc,Ea]at h1;rw[Ea,a7];omega
    have bb:i5 (A++s)=true:=by have h1:=zRX o;rw[V,mg,Da]at h1;rw[mg,h1.2,TQ f];rfl
    obtain⟨c,hc⟩: ∃c,c=ig (Qw (b++s)) (x.take i++P):=⟨_,rfl⟩;have v:ig (Qw (A++s)) (us++P)=c:=by rw[hc];exact an s P
    obtain⟨O,a8⟩: ∃O,O=(decide ((A++s).length<=4000)&&c):=⟨_,rfl⟩;have a9:(decide ((0:Int)<=(jt (L,B)).kd)&&(decide ((jt (L,B)).kd<=((i+k:Nat):Int))&&decide (((i+k:Nat):Int)<=(x.length:Int))))=true:=by rw[b9,Ga (by omega),Ga (by omega),Ga (by omega)];rfl
    have ao: ∀(E:Option (LX (Int×List Zq×List UInt8) (LO (Int×List UInt8×List Zq) (List UInt8) (aE×Int)))),
      E=(ck (decide ((0:Int)<=(jt (L,B)).kd)&&(decide ((jt (L,B)).kd<=((i+k:Nat):Int))&&decide (((i+k:Nat):Int)<=(x.length:Int)))|| !(!((Ws (A++s)).2 != 0)))<|
       (zA (!((Ws (A++s)).2 != 0)) (BC ((Ws (A++s)).1,List.drop (jt (L,B)).kd.toNat (List.take (i+k) x))) (default:Bool)).bind λbc=>
       bif bif (Ws (A++s)).2 != 0 then true else !bc then
        ck (Zm b.length ([47,42,42,47]:aE).length 1)<|
        some (LX.out ((i:Int),st.map jt,b++([47,42,42,47]:aE)))
       else
        some (LX.out ((i:Int),st.map jt,b)))->E=some (LX.out ((i:Int),st.map jt,if O then b else b++cmtW)):=by
     rintro E rfl;rw[a9,Uc,Zd,show(jt (L,B)).kd.toNat=L.length from Oa _,ba];have y:Zm b.length ([47,42,42,47]:aE).length 1=true:=rY (by grind);unfold Ws;by_cases F:4000<(A++s).length
     ·rw[La F];have:O=false:=by rw[a8,Ma (by omega)];rfl
      rw[this];simp only[show((28:Int) != 0)=true from rfl,Ab,ZF,Aa,Ca,y,Zd];rfl
     ·rw[Ka F,zE0 _ bb];have ab:O=c:=by rw[a8,Ga (by omega)];rfl
      by_cases J:1500<(Qw (A++s)).length
      ·rw[La J];have:O=false:=by rw[ab,<-v];exact pM (by omega)
       rw[this];simp only[show((4:Int) != 0)=true from rfl,Ab,ZF,Aa,Ca,y,Zd];rfl
      ·rw[Ka J];simp only[show((0:Int) != 0)=false from rfl,Va,zQ,Ba,zMz (show(Qw (A++s)).length<=co by omega),v,Aa,y,Zd]
       grind
    rw[ao _ rfl,zf];simp only;obtain⟨m,hm⟩: ∃m,n=m+1:=⟨n - 1,by omega⟩;subst hm;rw[p m,<-hc]at Q;have ap:=wZ m (x.take i++P) ((if c then b else b++cmtW)++s) ((t::r).drop k);rw[Q]at ap;have bw:cmtW.length=4:=rfl;have bx:(if O then b else b++cmtW).length<=4004:=by
     split
     ·omega
     ·grind
    rw[zn (ap16 (by grind)),zn (rY (by omega))];have c5:b.length+s.length<=(wrS x).length:=by
     refine Jc ?_ ap;rw[Ea];split
     ·omega
     ·grind
    by_cases M:4000<((if O then b else b++cmtW)++s).length
    ·grind
    ·rw[Ma (by omega),Ba];have ab:O=c:=by
      have:(A++s).length<=4000:=by
       rw[Ea]at M ⊢;have:b.length<=(if O then b else b++cmtW).length:=by
        split
        ·grind
        ·grind
       omega
      rw[a8,Ga this];rfl
     rw[ab]at M ⊢;have aq:x.take (i+k)=x.take i++P:=by rw[List.take_add,d,hP]
     refine .inl ⟨_,rfl,⟨i+k,(if c then b else b++cmtW)++s,st++[(x.take i,if c then b else b++cmtW)],m,?_,by omega,?_,by omega,by omega,?_,?_⟩,?_⟩
     ·refine Prod.ext e4 (Prod.ext rfl ?_);rw[Tc];show st.map jt++[_]=st.map jt++[jt (x.take i,if c then b else b++cmtW)];unfold jt
      grind
     ·rw[aq];cases ar:c with
      |true=> rw[La rfl];exact .no b s _ P st o f (Sw.1 (by rw[<-hc,ar]))
      |false=> rw[Ka (by decide)];refine .cmt b s _ P st o ?_ f;rintro rfl;have h0:=W.tok;rw[Pj (Qg rfl)]at h0;rw[<-h0,Lb,Lb,M0 f]at hc;rw[ar,Sw.2 rfl]at hc;cases hc
     ·rw[aq,<-Q,<-ae,d]
     ·rw[Ea,Td];omega
     ·simp only;rw[e4];omega
   ·have d1:decide ((j:Int)<(P.length:Int))=true:=Ga (by omega);simp only[d1,Ca,zF hj,Aa]
   ·simp only;rw[Ma (by omega),Ba]
  ·have:i=x.length:=by omega
   subst this;have e1:decide ((x.length:Int)<(x.length:Int))=false:=Ma (by omega);simp only[e1,Ba];refine .inr (.inl ⟨_,rfl,?_⟩);rw[Je (Db _)]at Q;have be:b=wrS x:=by
    cases n with
    |zero=>rw[wrF]at Q;exact Q
    |succ n=>rw[wrF]at Q;exact Q
   rw[<-be,Ka (by omega)]
 grind
def UU {S X R:Type}{step:S->Option (LO S X R)}{k:X->Option R}(Inv:S->Prop)(b:S->Nat)(Q:R->Prop)
  (h: ∀s,Inv s->(∃a,step s=some (.again a)/\Inv a/\b a<b s)\/(∃x y,step s=some (.out x)/\k x=some y/\Q y)\/(∃y,step s=some (.ret y)/\Q y)) {s:S} (hs:Inv s): ∃y,zM step s k=some y/\Q y:=by
 have c: ∀(m:Nat) (s:S),b s<m->Inv s-> ∃(r:LX X R) (y:R),ZP step m s=some r/\r.go k=some y/\Q y:=by
  intro m
  induction m with
  |zero=>intro s h;omega
  |succ m d=>
   intro s hm hs;simp only[ZP];rcases h s hs with⟨a,h1,h2,h3⟩|⟨x,y,h1,h2,h3⟩|⟨y,h1,h2⟩
   ·rw[h1];exact d a (by omega) h2
   ·rw[h1];exact⟨_,y,rfl,h2,h3⟩
   ·rw[h1];exact⟨_,y,rfl,rfl,h2⟩
 obtain⟨r,y,h1,h2,h3⟩:=c (b s+1) s (by omega) hs;exact⟨y,by rw[Di (qM h1)];exact h2,h3⟩
abbrev ix(s r:aE):Int:=((cG s r:Nat):Int)
def ix_0(s:aE):(0:Int)=ix s s:=by unfold ix cG;grind
def eW{s r:aE}{c:UInt8}(hs:s.length<=100000)(hr:c::r<:+s):cj (ix s (c::r)+1)=ix s r:=Ti (by unfold co;omega) hr
def ix_n{s r:aE}{n:Nat}(hs:s.length<=100000)(hr:r<:+s)(hn:n<=r.length):cj (ix s r+(n:Int))=ix s (r.drop n):=by have h1:=SS hr hn;have h2:=mi s (r.drop n);have:=mi s r;have e0:ix s r=((cG s r:Nat):Int):=rfl;rw[zY (by omega) (by omega),show ix s r+(n:Int)=((cG s r+n:Nat):Int) by omega,h1]
def yQ{s r:aE}{n:Nat}(hs:s.length<=100000)(hn:n<=100):cj (ix s r+(n:Int))=((cG s r+n:Nat):Int):=by have:=mi s r;have e0:ix s r=((cG s r:Nat):Int):=rfl;rw[zY (by omega) (by omega)];omega
def GN{s r:aE}{n:Nat}(hr:r<:+s):cl s ((cG s r+n:Nat):Int)=r[n]? :=by
 obtain⟨p,rfl⟩:=hr;unfold cl;rw[Ga (by omega),Ca,Oa];have:cG (p++r) r=p.length:=by unfold cG;rw[Ea];omega
 grind
def Uj{s r:aE}{c:UInt8}(hr:c::r<:+s):cl s (ix s (c::r))=some c:=by
 have:=GN (n:=0) hr
 grind
def aR{s r:aE}{n:Nat}(hs:s.length<=100000)(hr:r<:+s):Zz (s,((cG s r+n:Nat):Int))=some (((cr r n).toNat:Nat):Int):=by
 have a:=hr.length_le;have b:cG s r=s.length - r.length:=rfl;unfold Zz;simp only[za,GN hr];unfold cr;rw[Lc];by_cases h:n<r.length
 ·grind
 ·rw[Ma (by omega),Ba,List.getElem?_eq_none (by omega)];rfl
def Oh{s r:aE}(hs:s.length<=100000)(hr:r<:+s):Zz (s,ix s r)=some (((cr r 0).toNat:Nat):Int):=aR (n:=0) hs hr
def TS{s r:aE}(hs:s.length<=100000)(hr:r<:+s):Zz (s,cj (ix s r+1))=some (((cr r 1).toNat:Nat):Int):=by rw[show(1:Int)=((1:Nat):Int)from rfl,yQ hs (by omega)];exact aR hs hr
def xD(c:UInt8):Mx (c.toNat:Int)=some (dj c):=kq (by decide+kernel) c
def il(c:UInt8):ZG (c.toNat:Int)=some (cm c):=kq (by decide+kernel) c
def zNJ(c:UInt8):OB (c.toNat:Int)=some (fa c):=kq (by decide+kernel) c
def RF(c:UInt8):Pp (c.toNat:Int)=some (cM c):=kq (by decide+kernel) c
def tX(c:UInt8):KA (c.toNat:Int)=some (md c):=kq (by decide+kernel) c
def b_is(c d:UInt8):(((c.toNat:Nat):Int)==((d.toNat:Nat):Int))=(c==d):=jh c d
def b_10(c:UInt8):(((c.toNat:Nat):Int)==10)=(c==10):=jh c 10
def b_34(c:UInt8):(((c.toNat:Nat):Int)==34)=(c==34):=jh c 34
def b_35(c:UInt8):(((c.toNat:Nat):Int)==35)=(c==35):=jh c 35
def b_37(c:UInt8):(((c.toNat:Nat):Int)==37)=(c==37):=jh c 37
def b_39(c:UInt8):(((c.toNat:Nat):Int)==39)=(c==39):=jh c 39
def b_40(c:UInt8):(((c.toNat:Nat):Int)==40)=(c==40):=jh c 40
def b_41(c:UInt8):(((c.toNat:Nat):Int)==41)=(c==41):=jh c 41
def b_43(c:UInt8):(((c.toNat:Nat):Int)==43)=(c==43):=jh c 43
def b_45(c:UInt8):(((c.toNat:Nat):Int)==45)=(c==45):=jh c 45
def b_46(c:UInt8):(((c.toNat:Nat):Int)==46)=(c==46):=jh c 46
def b_64(c:UInt8):(((c.toNat:Nat):Int)==64)=(c==64):=jh c 64
def b_69(c:UInt8):(((c.toNat:Nat):Int)==69)=(c==69):=jh c 69
def b_92(c:UInt8):(((c.toNat:Nat):Int)==92)=(c==92):=jh c 92
def zTp(c:UInt8):(((c.toNat:Nat):Int)==101)=(c==101):=jh c 101
def b_48(c:UInt8):(((c.toNat:Nat):Int)==48)=(c==48):=jh c 48
def X4 {R:Type}{step:Int->Option (LO Int Int R)}{s:aE}(hs:s.length<=100000)(p:UInt8->Bool)(h0:p 0=false)
  (h: ∀q,q<:+s->step (ix s q)=some (bif p (cr q 0)then .again (cj (ix s q+1))else .out (ix s q))) {r:aE} (hr:r<:+s):Dg step (ix s r)=some (.out (ix s (cv p r))):=by
 refine qh (λz=> ∃q,z=ix s q/\q<:+s/\cv p q=cv p r) (λz=>s.length - z.toNat) _ ?_ ⟨r,rfl,hr,rfl⟩;rintro _ ⟨q,rfl,a,b⟩;rw[h q a];cases q with
 |nil=> rw[show cr ([]:aE) 0=0 from rfl,h0,Ba];exact .inr (.inl ⟨_,rfl,by rw[<-b];rfl⟩)
 |cons c t=>
  rw[show cr (c::t) 0=c from rfl];cases hp:p c with
  |true=> have hl:=a.length_le;rw[Ha]at hl;rw[Ca,eW hs a];refine .inl ⟨_,rfl,⟨t,rfl,ZJ a,by rw[<-b,cv,hp];rfl⟩,?_⟩;show s.length - cG s t<s.length - cG s (c::t);unfold cG;grind
  |false=> rw[Ba];exact .inr (.inl ⟨_,rfl,by rw[<-b,cv,hp];rfl⟩)
def NF{s r:aE}(hs:s.length<=100000)(hr:r<:+s):QT (s,ix s r)=some (ix s (cv dj r)):=by
 unfold QT;rw[Zt (X4 hs dj rfl (λq a=> ?_) hr)];simp only[za,Oh hs a,Aa,xD]
 grind
def wL{s r:aE}(hs:s.length<=100000)(hr:r<:+s):QS (s,ix s r)=some (ix s (cv cm r)):=by
 unfold QS;rw[Zt (X4 hs cm rfl (λq a=> ?_) hr)];simp only[za,Oh hs a,Aa,il]
 grind
def Kw{s r:aE}(hs:s.length<=100000)(hr:r<:+s):qX (s,ix s r)=some (cF r):=by
 unfold qX;simp only[za,Oh hs hr,TS hs hr,Aa,b_92];unfold cF bne;cases cr r 0==92 with
 |false=>rfl
 |true=>simp only[zQ,Aa,Ca,b_10,ja]
def zKI{s r:aE}{c:UInt8}(hs:s.length<=100000)(hr:c::r<:+s):qX (s,cj (ix s (c::r)+1))=some (cF r):=by rw[eW hs hr];exact Kw hs (ZJ hr)
def sQ{s r:aE}(hs:s.length<=100000)(hr:r<:+s):Tu (s,ix s r)=some (d6 r):=by
 unfold Tu;simp only[za,Oh hs hr,TS hs hr,Aa,b_45,zNJ,Kw hs hr];cases r with
 |nil=>rfl
 |cons c t=>
  rw[zKI hs hr];unfold d6;rw[show(c::t).drop 1=t from rfl];cases cr (c::t) 0==45 with
  |true=>
   rw[Ca,La rfl];cases fa (cr (c::t) 1)with
   |true=>rfl
   |false=>
    simp only[Va,zQ,Aa,b_45,Ba,Ac];cases cr (c::t) 1==45 with
    |true=>rfl
    |false=>rfl
  |false=> rw[Ba,Ka (by decide)];cases fa (cr (c::t) 0)<;>rfl
def Pm{n:Nat}(h:n<256):qj (cN ((n:Nat):Int))=some (UInt8.ofNat n):=by rw[Av,xe h,Z5 h]
def zSY{n:Nat}(hn:n<16777216):wG (n:Int)=some (Dh n):=by
 unfold wG YA Dh;simp only[za,Aa];have f:(((n:Nat):Int)==0)=decide (n=0):=by
  by_cases h:n=0
  ·subst h;rfl
  ·grind
 have hc:(bif bif ((n:Nat):Int)==0 then true else bif decide ((n:Int)>=55296)then decide ((n:Int)<=57343)else false then true else decide ((n:Int)>1114111))=decide (n=0\/(55296<=n/\n<=57343)\/1114111<n):=by
  rw[f];by_cases h0:n=0
  ·simp[h0]
  ·grind
 rw[hc];by_cases e:n=0\/(55296<=n/\n<=57343)\/1114111<n
 ·rw[Ga e,La e];rfl
 ·rw[Ma e,Ka e,Ba];have d: ∀k:Nat,0<k->cj (Int.tdiv (n:Int) (k:Int))=((n / k:Nat):Int):=by intro k hk;have:n / k<=n:=Nat.div_le_self n k;rw[show Int.tdiv (n:Int) (k:Int)=((n / k:Nat):Int)from rfl];generalize n / k=m at*;rw[zY (by omega) (by omega)]
  have i: ∀(a:Nat),Int.tmod (a:Int) 64=((a%64:Nat):Int):=λa=>rfl;have c: ∀(a b:Nat),a+b<=1000000->cj ((a:Int)+(b:Int))=((a+b:Nat):Int):=by intro a b h;rw[zY (by omega) (by omega)];omega
  have b1: ∀a:Nat,a%64<64:=λa=>Vf _ (by omega);by_cases h1:n<128
  ·rw[Ga (by omega),Ca,La h1,Pm (by omega)];rfl
  ·rw[Ma (by omega),Ba,Ka h1];by_cases h2:n<2048
   ·rw[Ga (by omega),Ca,La h2,show(64:Int)=((64:Nat):Int)from rfl,d 64 (by omega),show Int.tmod (n:Int) ((64:Nat):Int)=((n%64:Nat):Int)from rfl,show(192:Int)=((192:Nat):Int)from rfl,c _ _ (by omega),show(128:Int)=((128:Nat):Int)from rfl,c _ _ (by grind),Pm (by omega),Aa,Pm (by grind)];rfl
   ·rw[Ma (by omega),Ba,Ka h2];by_cases h3:n<65536
    ·rw[Ga (by omega),Ca,La h3,show(4096:Int)=((4096:Nat):Int)from rfl,d 4096 (by omega),show(64:Int)=((64:Nat):Int)from rfl,d 64 (by omega),show Int.tmod (n:Int) ((64:Nat):Int)=((n%64:Nat):Int)from rfl,show Int.tmod ((n / 64:Nat):Int) ((64:Nat):Int)=((n / 64%64:Nat):Int)from rfl,show(224:Int)=((224:Nat):Int)from rfl,c _ _ (by omega),show(128:Int)=((128:Nat):Int)from rfl,c _ _ (by grind),c _ _ (by grind),
      Pm (by omega),Aa,Pm (by grind),Aa,Pm (by grind)];rfl
    ·rw[Ma (by omega),Ba,Ka h3,show(262144:Int)=((262144:Nat):Int)from rfl,d 262144 (by omega),show(4096:Int)=((4096:Nat):Int)from rfl,d 4096 (by omega),show(64:Int)=((64:Nat):Int)from rfl,d 64 (by omega),show Int.tmod (n:Int) ((64:Nat):Int)=((n%64:Nat):Int)from rfl,show Int.tmod ((n / 64:Nat):Int) ((64:Nat):Int)=((n / 64%64:Nat):Int)from rfl,show Int.tmod ((n / 4096:Nat):Int) ((64:Nat):Int)=((n / 4096%64:Nat):Int)from rfl,
      show(240:Int)=((240:Nat):Int)from rfl,c _ _ (by omega),show(128:Int)=((128:Nat):Int)from rfl,c _ _ (by grind),c _ _ (by grind),c _ _ (by grind),
      Pm (by omega),Aa,Pm (by grind),Aa,Pm (by grind),Aa,Pm (by grind)];rfl
def Ns{s r:aE}{c:UInt8}(hr:c::r<:+s):List.drop (cG s (c::r)) (List.take (cG s r) s)=[c]:=vS (t:=[c]) (e:=r) hr rfl
def Gt{s r:aE}{c:UInt8}(hr:c::r<:+s):(decide (0<=ix s (c::r))&&(decide (ix s (c::r)<=ix s r)&&decide (ix s r<=(s.length:Int))))=true:=by
 have h1:=mi s r;have h2:=hr.length_le;rw[Ha]at h2;have h3:cG s (c::r)<=cG s r:=by unfold cG;rw[Ha];omega
 grind
def zQg{c:UInt8}:decide (md c>=0)=Q4 c:=by
 have:=av c
 grind
def LG{s r:aE}{c:UInt8}(hs:s.length<=100000)(hr:c::r<:+s):qw (s,ix s (c::r))=some ((zR r).1,ix s (zR r).2):=by
 have hl:=ZJ hr;have l:=hr.length_le;rw[Ha]at l;unfold qw YA;simp only[eW hs hr,za,Aa];cases r with
 |nil=>
  have:ix s []=(s.length:Int):=by unfold ix cG;rw[Cb];rfl
  rw[this,Ga (by omega),Ca];show some (Mm,(s.length:Int))=some (Mm,ix s []);rw[this]
 |cons d t=>
  have E:cG s (d::t)<s.length:=by unfold cG;rw[Ha]at *; omega
  rw[Ma (by unfold ix;omega),Ba,Uj hl,Aa,tX,Aa,av];cases v:Q4 d with
  |false=>
   rw[Va,Ca];simp only[eW hs hl];rw[zn (Gt hl),Oa,Oa,Ns hl];have:zR (d::t)=([d],t):=by show(if Q4 d then _ else _)=_;rw[v,Ka (by decide)]
   rw[this]
  |true=>
   rw[Ab,Ba];have F:zR (d::t)=(Dh (hexes 6 0 (d::t)).1,js (hexes 6 0 (d::t)).2):=by show(if Q4 d then _ else _)=_;rw[v,La rfl]
   rw[F];have j:(hexes 6 0 (d::t)).2<:+s:=(xz 6 0 _).trans hl;have f:=fF 6 0 (d::t);rw[show 16 ^ 6*(0+1)=16777216 from rfl]at f;rw[Zt (s:=((0:Int),ix s (d::t))) (x:=(((hexes 6 0 (d::t)).1:Int),ix s (hexes 6 0 (d::t)).2)) (qh (λz=> ∃(n i:Nat) (q:aE),z=((n:Int),ix s q)/\q<:+s/\cG s q=cG s (d::t)+i/\i<=6/\n<16 ^ i/\hexes (6 - i) n q=hexes 6 0 (d::t)) (λz=>s.length - z.2.toNat) _ ?_ ⟨0,0,d::t,rfl,hl,rfl,by omega,by decide,rfl⟩)]
   ·simp only[Oh hs j,Aa,xD,zSY f];cases J:(hexes 6 0 (d::t)).2 with
    |nil=>rfl
    |cons e u=> rw[J]at j;rw[show cr (e::u) 0=e from rfl];show(zK (bif dj e then _ else _) _)=some (_,ix s (if dj e then u else e::u));rw[eW hs j];cases dj e<;>rfl
   ·rintro _ ⟨n,i,q,rfl,k,hb,hi,hn,a⟩;have L:n<16777216:=Mc hn (yg (by omega) hi:16 ^ i<=16 ^ 6);have M:=mi s (d::t);have m:cj (ix s (d::t)+6)=((cG s (d::t)+6:Nat):Int):=yQ (n:=6) hs (by omega);simp only[m];have o:decide (ix s q<((cG s (d::t)+6:Nat):Int))=decide (i<6):=by rw[ng];unfold ix;omega
    rw[o];cases q with
    |nil=>
     have:ix s []=(s.length:Int):=by unfold ix cG;rw[Cb];rfl
     rw[this,Ma (by omega),Ba];simp only[ZF,Aa,Ba];refine .inr (.inl ⟨_,rfl,?_⟩);rw[<-a,Hz _ _ [] (by decide),this]
    |cons e u=>
     have p:=k.length_le;rw[Ha]at p;have y:cG s (e::u)<s.length:=by unfold cG;rw[Ha];omega
     rw[Ga (by unfold ix;omega),Ca,Uj k];rcases Ec i 6 with A|A
     ·rw[Ga A];simp only[zQ,Aa,tX,Ca,zQg];cases b:Q4 e with
      |true=>
       have O:=Iz b;have hI:md e=(i0 e:Int):=by unfold md;rw[La b]
       rw[Ca,hI,eW hs k];refine .inl ⟨_,rfl,⟨16*n+i0 e,i+1,u,?_,ZJ k,?_,by omega,by rw[Ng];omega,?_⟩,?_⟩
       ·rw[zY (n:=16*(n:Int)) (by omega) (by omega),zY (by omega) (by omega)];refine Prod.ext (by show 16*(n:Int)+(i0 e:Int)=((16*n+i0 e:Nat):Int);omega) rfl
       ·have:cG s u=cG s (e::u)+1:=by unfold cG;rw[Ha];omega
        omega
       ·rw[<-a,show 6 - i=(6 - (i+1))+1 by omega,bG b]
       ·show s.length - cG s u<s.length - cG s (e::u);unfold cG;rw[Ha];omega
      |false=> rw[Ba];refine .inr (.inl ⟨_,rfl,?_⟩);rw[<-a,Hz _ _ _ (show Q4 (cr (e::u) 0)=false from b)]
     ·rw[Ma (by omega)];simp only[ZF,Aa,Ba];refine .inr (.inl ⟨_,rfl,?_⟩);rw[<-a,show 6 - i=0 by omega];rfl
def kR{s r:aE}(hs:s.length<=100000)(hr:r<:+s):Kn (s,ix s r)=some ((zJ r).1,ix s (zJ r).2):=by
 unfold Kn;refine uk (λz=> ∃(q acc:aE),z=(ix s q,acc)/\q<:+s/\acc.length+4*q.length<=4*s.length/\acc++(zJ q).1=(zJ r).1/\(zJ q).2=(zJ r).2) (λz=>s.length - z.1.toNat) _ ?_ ⟨r,[],rfl,hr,by have:=hr.length_le;rw[Cb];omega,rfl,rfl⟩;rintro _ ⟨q,acc,rfl,d,hl,a,b⟩;simp only[za];cases q with
 |nil=>
  have:ix s []=(s.length:Int):=by unfold ix cG;rw[Cb];rfl
  have j:decide (ix s []<(s.length:Int))=false:=Ma (by rw[this];omega);simp only[j,ZF,Aa,Ba];rw[QW]at a b;exact .inr (.inr (by rw[<-a,<-b,Ib]))
 |cons c t=>
  have i:=d.length_le;rw[Ha]at i hl;have k:cG s (c::t)<s.length:=by unfold cG;rw[Ha];omega
  have j:decide (ix s (c::t)<(s.length:Int))=true:=Ga (by unfold ix;omega);rw[Zo]at a b;simp only[j,zQ,Uj d,Aa,RF,Ca,eW hs d];cases e:cM c with
  |true=> rw[e,La rfl]at a b;rw[Ca,zn (Gt d),Oa,Oa,Ns d,zn (Zc.2 (by rw[Td];omega))];refine .inl ⟨_,rfl,⟨t,acc++[c],rfl,ZJ d,by rw[Ea,Td];omega,by rw[<-a,Ja];rfl,b⟩,?_⟩;show s.length - cG s t<s.length - cG s (c::t);unfold cG;rw[Ha];omega
  |false=>
   rw[e,Ka (by decide)]at a b;rw[Ba,Kw hs d];simp only[Aa];cases f:cF (c::t)with
   |true=> rw[f,La rfl]at a b;have h4:=Ut t;have l:=ZO t;rw[Ca,LG hs d];simp only[Aa];rw[zn (Zc.2 (by omega))];refine .inl ⟨_,rfl,⟨_,_,rfl,(ZT t).trans (ZJ d),by rw[Ea];omega,by rw[<-a,Ja],b⟩,?_⟩;show s.length - cG s (zR t).2<s.length - cG s (c::t);unfold cG;rw[Ha];omega
   |false=> rw[f,Ka (by decide)]at a b;exact .inr (.inr (by rw[Ba,<-a,<-b,Ib]))
def yY{R:Type}{s r:aE}(hs:s.length<=100000)(hr:r<:+s):
  (bif bif (((cr r 0).toNat:Nat):Int)==43 then true else(((cr r 0).toNat:Nat):Int)==45 then some (LX.out (cj (ix s r+1)))else some (LX.out (ix s r)))=(some (LX.out (ix s (cq r))):Option (LX Int R)):=by
 rw[b_43,b_45,Vy];unfold cq Hg;cases r with
 |nil=>rfl
 |cons c t=>
  rw[eW hs hr]
  grind
def zTH{R:Type}{s r:aE}(hs:s.length<=100000)(hr:r<:+s):
  (bif (((cr r 0).toNat:Nat):Int)==46 then some (LX.out (cj (ix s r+1)))else some (LX.out (ix s r)))=(some (LX.out (ix s (fd r))):Option (LX Int R)):=by
 rw[b_46];unfold fd;cases r with
 |nil=>rfl
 |cons c t=>
  rw[eW hs hr]
  grind
def zLE{s r:aE}(hr:r<:+s):fd r<:+s:=by
 unfold fd;split
 ·exact Em hr 1
 ·exact hr
def zHp{s r:aE}(hs:s.length<=100000)(hr:r<:+s):yI (s,ix s r)=some (iS r):=by unfold yI;have hu:=dw hr;simp only[za,Oh hs hr,Aa,yY hs hr,zf,Oh hs hu,zTH hs hu,Oh hs (zLE hu),il];rfl
def zNG{s r:aE}(hs:s.length<=100000)(hr:r<:+s):Q7 (s,ix s r)=some (ix s (Za r).1,(Za r).2):=by
 unfold Q7;have hu:=dw hr;have a:yf r<:+s:=Dm cm hu;simp only[za,Oh hs hr,Aa,yY hs hr,zf,wL hs hu];rw[show cv cm (cq r)=yf r from rfl];rw[Jk];generalize yf r=q at a ⊢;have b:(Zx q).1<:+s:=iM a;have e2:((Zz (s,ix s q)).bind λf=>(zA (f==46) (Zz (s,cj (ix s q+1))) (default:Int)).bind λj=>(zA (f==46) (ZG j) (default:Bool)).bind λk=>
   bif bif f==46 then k else false then(QS (s,cj (ix s q+1))).bind λl=>some (LX.out (l,false))else some (LX.out (ix s q,true)))=(some (LX.out (ix s (Zx q).1,(Zx q).2)):Option (LX (Int×Bool) (Int×Bool))):=by
  rw[Oh hs a,Aa,TS hs a,b_46];unfold Zx;cases m:cr q 0==46 with
  |false=>rfl
  |true=>
   simp only[zQ,Aa,il,Ca,ja];cases n:cm (cr q 1)with
   |false=>rfl
   |true=>
    cases q with
    |nil=>exact absurd n (by decide)
    |cons c t=> rw[eW hs a,wL hs (ZJ a),Ca,La rfl];rfl
 rw[e2,zf];obtain⟨w,fl⟩: ∃w fl,Zx q=(w,fl):=⟨_,_,rfl⟩;obtain⟨fl,i⟩:=fl;rw[i]at b ⊢;simp only at b ⊢;rw[Oh hs b];simp only[Aa,zTp,b_69,Vy];unfold cV;cases o:cr w 0==101||cr w 0==69 with
 |false=>rfl
 |true=>
  cases w with
  |nil=>exact absurd o (by decide)
  |cons c t=>
   have ht:=ZJ b;have e:=dw ht;rw[Ca,La rfl,eW hs b,Oh hs ht];simp only[Aa];have e3:(bif ((((cr t 0).toNat:Nat):Int)==43||(((cr t 0).toNat:Nat):Int)==45)then some (LX.out (ix s (c::t),fl,cj (ix s t+1)))else some (LX.out (ix s (c::t),fl,ix s t)))=(some (LX.out (ix s (c::t),fl,ix s (cq t))):Option (LX (Int×Bool×Int) (LX (Int×Bool) (Int×Bool)))):=by
    rw[b_43,b_45];unfold cq Hg;cases t with
    |nil=>rfl
    |cons d u=>
     rw[eW hs ht]
     grind
   rw[e3,zf];simp only[Oh hs e,Aa,il,wL hs e];rw[show(c::t).drop 1=t from rfl];cases cm (cr (cq t) 0)<;>rfl
def zFB(v c:Int):(if v<c then v else c)=(if c<v then c else v):=by grind
def zBa {S X R:Type}{step:S->Option (LO S X R)}{l:aE}{cap:Nat}(hl:l.all cm=true)(hc:cap<=1000000000000)(st:Int->Nat->S)(out:Int->X)(a:S->Nat)
  (b: ∀v i,i<=l.length->a (st v i)=l.length - i)
  (h1: ∀(v:Int) (i:Nat) (hi:i<l.length),step (st v i)=some (.again (st (if(cap:Int)<cj (cj (10*v)+cj (cN ((l[i].toNat:Int) - 48)))then(cap:Int)else cj (cj (10*v)+cj (cN ((l[i].toNat:Int) - 48)))) (i+1))))
  (h2: ∀v:Int,step (st v l.length)=some (.out (out v))):Dg step (st 0 0)=some (.out (out ((ej cap 0 l:Nat):Int))):=by
 refine qh (λs=> ∃i:Nat,i<=l.length/\s=st ((ej cap 0 (l.take i):Nat):Int) i) a _ ?_ ⟨0,by omega,rfl⟩;rintro _ ⟨i,hi,rfl⟩;rcases Ec i l.length with h|h
 ·refine .inl ⟨_,h1 _ i h,⟨i+1,by omega,?_⟩,by grind⟩;have c:=Wt (Ya.1 hl _ (Ia h));have ht:ej cap 0 (l.take (i+1))=min cap (eS (ej cap 0 (l.take i)) l[i]):=by rw[Jb h,BN]
  have hb:=Vm cap (l.take i) 0 (Yb _);have hu:cN ((l[i].toNat:Int) - 48)=((l[i].toNat - 48:Nat):Int):=by show IntKind.u8.wrap _=_;rw[IntKind.wrap_u8];omega
  unfold eS at ht;rw[hu,zY (n:=10*_) (by omega) (by omega),zY (n:=((l[i].toNat - 48:Nat):Int)) (by omega) (by omega),zY (by omega) (by omega)];congr 1;split<;>omega
 grind
def zL9(cap:Nat): ∀(l:aE) (n:Nat),ej cap (min cap n) l=min cap (eg n l)\/l=[]
 |[],n=> .inr rfl
 |c::l,n=>by
  left;have a: ∀(l:aE) (n m:Nat),min cap n=min cap m->min cap (ej cap n l)=min cap (eg m l):=by
   intro l
   induction l with
   |nil=>intro n m h;exact h
   |cons c l b=> intro n m h;rw[ej,show eg m (c::l)=eg (eS m c) l from rfl];refine b _ _ ?_;unfold eS;omega
  have h1:=a (c::l) (min cap n) n (by omega);have h2:=Vm cap (c::l) (min cap n) (Nat.min_le_left ..);omega
def zEV{cap:Nat}{l:aE}(hl:l≠[]):ej cap 0 l=min cap (eg 0 l):=by
 have:=zL9 cap l 0
 grind
def JU: ∀(k n:Nat),1<=n->n<=Tg->12<=k->Xh k n=Tg:=by
 have hm:Tg=1000000000000:=rfl;have a: ∀(k n:Nat),n<=Tg->Tg<=n*10 ^ k->Xh k n=Tg:=by
  intro k
  induction k with
  |zero=>intro n h1 h2;rw[Xh];grind
  |succ k b=>
   intro n h1 h2;have h0:n≠0:=by rintro rfl;simp at h2;omega
   rw[Xh];split
   ·omega
   ·refine b _ (Nat.min_le_left ..) ?_;have e:n*10 ^ (k+1)=10*n*10 ^ k:=by rw[Ng,lh 10 n,pg,lh (10 ^ k) 10]
    grind
 intro k n h1 h2 h3;refine a k n h2 ?_;have h4:10 ^ 12<=10 ^ k:=yg (by omega) h3;have c:1*10 ^ k<=n*10 ^ k:=Rc _ h1
 grind
def X7: ∀k,Xh k 0=0
 |0=>rfl
 |k+1=>by rw[Xh,La (.inl rfl)]
def zN6{A:aE}{p q:Int}(b:A.length<=9500)(hp:(p=q)\/(400<p/\400<q)\/(p< -9600/\q< -9600)):g9 A p=g9 A q:=by
 rcases hp with rfl|⟨h1,h2⟩|⟨h1,h2⟩
 ·rfl
 ·unfold g9;rw[Ka (by omega),Ka (by omega)];have a:=Vm Tg A 0 (Yb _);by_cases h0:ej Tg 0 A=0
  ·rw[h0,X7,X7]
  ·rw[JU _ _ (by omega) a (by omega),JU _ _ (by omega) a (by omega)]
 ·unfold g9
  grind
def expR:Option (UInt8×aE×aE)->Int
 |none=>0
 |some (_,s,x)=>if s==[45]then -((ej 10000 0 x:Nat):Int)else((ej 10000 0 x:Nat):Int)
def zPX{N:fb}(a:N.ok=true)(b:(N.D++N.F.getD []).length<=9500):g9 (N.D++N.F.getD []) (3+expR N.X - ((N.F.getD []).length:Int))=g9 (N.D++N.F.getD []) (3+expV N.X - ((N.F.getD []).length:Int)):=by
 refine zN6 b ?_;rw[Ea]at b;unfold fb.ok at a;simp only[Da]at a;cases d:N.X with
 |none=>exact .inl rfl
 |some f=>
  obtain⟨e,s,x⟩:=f;rw[d]at a;simp only[Da]at a;have c:x≠[]:=by rintro rfl;exact absurd a.2.1.2 (by decide)
  unfold expR expV;simp only;rw[zEV c,zEV c];by_cases hv:eg 0 x<10000
  ·grind
  ·grind
def zBg {S X R:Type}{step:S->Option (LO S X R)}{s r:aE}(hr:r<:+s)(a:aE)(st:aE->Nat->aE->S)(out:aE->Nat->aE->X)(i:S->Nat)
  (b: ∀acc n q,q<:+s->i (st acc n q)=q.length)
  (h1: ∀(acc:aE) (n:Nat) (c:UInt8) (t:aE),c::t<:+s->cm c=true->acc.length<=a.length+s.length->n<=s.length->step (st acc n (c::t))=some (.again (st (acc++[c]) (n+1) t)))
  (h2: ∀(acc:aE) (n:Nat) (q:aE),q<:+s->cm (cr q 0)=false->step (st acc n q)=some (.out (out acc n q))):
  Dg step (st a 0 r)=some (.out (out (a++r.takeWhile cm) (r.takeWhile cm).length (cv cm r))):=by
 refine qh (λz=> ∃(acc:aE) (n:Nat) (q:aE),z=st acc n q/\q<:+s/\acc++q.takeWhile cm=a++r.takeWhile cm/\n+(q.takeWhile cm).length=(r.takeWhile cm).length/\cv cm q=cv cm r) i _ ?_ ⟨a,0,r,rfl,hr,rfl,by omega,rfl⟩;rintro _ ⟨acc,n,q,rfl,d,ha,hn,hp⟩;have j:=hr.length_le;have k:(r.takeWhile cm).length<=r.length:=(List.takeWhile_prefix cm).length_le;cases e:cm (cr q 0)with
 |true=>
  cases q with
  |nil=>exact absurd e (by decide)
  |cons c t=>
   have hc:cm c=true:=e;rw[Ph,La hc]at ha hn;rw[cv,La hc]at hp;rw[Ha]at hn;have f:acc.length<=a.length+s.length:=by have:=congrArg List.length ha;rw[Ea,Ea]at this;omega
   refine .inl ⟨_,h1 acc n c t d hc f (by omega),⟨acc++[c],n+1,t,rfl,ZJ d,by grind,by omega,hp⟩,?_⟩;rw[b _ _ _ (ZJ d),b _ _ _ d,Ha];omega
 |false=>
  refine .inr (.inl ⟨_,h2 acc n q d e,?_⟩);have ht:q.takeWhile cm=[]:=by
   cases q with
   |nil=>rfl
   |cons c t=>rw[Ph,Ka (by grind)]
  have l:cv cm q=q:=by
   cases q with
   |nil=>rfl
   |cons c t=>rw[cv,Ka (by grind)]
  grind
def jK{D t:aE}(hD:D.all cm=true)(ht:cm (cr t 0)=false):(D++t).takeWhile cm=D/\cv cm (D++t)=t:=by
 have hp:cv cm t=t:=by
  cases t with
  |nil=>rfl
  |cons c r=>rw[cv,Ka (by rw[show cm c=false from ht];decide)]
 have h2:cv cm (D++t)=t:=by rw[cz _ _ hD,hp]
 refine⟨?_,h2⟩;have:=Jw cm (D++t);simp_all
def u6(X:Option (UInt8×aE×aE))(h: ∀e s x,X=some (e,s,x)->e=101\/e=69):cm (cr (dp X) 0)=false:=by
 cases X with
 |none=>rfl
 |some a=> obtain⟨e,s,x⟩:=a;rcases h e s x rfl with rfl|rfl<;>rfl
def sK{s q:aE}(a:q<:+s):s.length - (ix s q).toNat=q.length:=by have:=a.length_le;show s.length - (((cG s q:Nat):Int)).toNat=_;rw[Oa];unfold cG;omega
def zzC{N:fb}(U:N.ok=true)(hl:N.txt.length<=9000):Qb N.txt=some N.val:=by
 have a7:=zPX U;obtain⟨sg,D,F,X⟩:=N;have c7:=U;unfold fb.ok at U;simp only[Da]at U;obtain⟨⟨⟨bm,hD⟩,bo⟩,hX⟩:=U;have hF:(F.getD []).all cm=true:=by
  cases F with
  |none=>rfl
  |some f=>grind
 have a6: ∀e s x,X=some (e,s,x)->(e=101\/e=69)/\sgB s=true/\x≠[]/\x.all cm=true:=by rintro e s x rfl;simp only[Da,Pb,Fb]at hX;exact⟨hX.1.1.1,hX.1.1.2,by grind,hX.2⟩
 obtain⟨x,hx⟩: ∃x,fb.txt ⟨sg,D,F,X⟩=x:=⟨_,rfl⟩;rw[hx]at hl ⊢;have V:x=sg++(D++(cH F++dp X)):=hx.symm;have E:x.length<=100000:=by omega
 have r0:D++(cH F++dp X)<:+x:=⟨sg,V.symm⟩;have r1:cH F++dp X<:+x:=(List.suffix_append D _).trans r0;have r2:dp X<:+x:=(List.suffix_append (cH F) _).trans r1;have c8:sg.length+(D.length+((cH F).length+(dp X).length))=x.length:=by rw[V];simp only[Ea]
 have c9:(F.getD []).length<=(cH F).length:=by
  cases F with
  |none=>grind
  |some f=>show f.length<=(46::f).length;grind
 have bp:(D++F.getD []).length<=9000:=by rw[Ea];omega
 have hA:(D++F.getD []).all cm=true:=by rw[List.all_append,hD,hF];rfl
 have ar:cm (cr (cH F++dp X) 0)=false:=by
  cases F with
  |none=>exact u6 X (λe s x h=>(a6 e s x h).1)
  |some f=>rfl
 have aw:=u6 X (λe s x h=>(a6 e s x h).1)
 -- the head
 have a8: ∃y1,cl x 0=some y1/\(((y1.toNat:Int)==45)=(sg==[45]))/\
   (bif bif (y1.toNat:Int)==43 then true else(y1.toNat:Int)==45 then(some (LX.out (([]:aE),(3:Int),(1:Int))):Option (LX (aE×Int×Int) Int))else some (LX.out ([],3,0)))=some (LX.out ([],3,ix x (D++(cH F++dp X)))):=by
  have hb:cG x (D++(cH F++dp X))=sg.length:=by unfold cG;rw[Ea,Ea];omega
  rcases Gw bm with rfl|rfl|rfl
  ·obtain⟨c,q,e⟩: ∃c q,D++(cH F++dp X)=c::q:=by
    cases J:D++(cH F++dp X)with
    |nil=>
     have h1:=List.append_eq_nil_iff.1 J;rw[h1.1]at bo;cases F with
     |none=>grind
     |some f=>simp_all
    |cons c q=>grind
   have a9:c≠43/\c≠45:=by
    cases D with
    |nil=>
     cases F with
     |none=>grind
     |some f=>injection e with e1 _;grind
    |cons d D'=> injection e with e1 _;subst e1;rw[Yc,Da]at hD;exact⟨(dh hD.1).2.1,(dh hD.1).1⟩
   refine⟨c,by rw[V,Lb,e];rfl,?_,?_⟩
   ·rw[b_45,Fa.2 a9.2];rfl
   ·rw[b_43,b_45,Fa.2 a9.1,Fa.2 a9.2]
    grind
  ·refine⟨43,by rw[V];rfl,rfl,?_⟩
   grind
  ·refine⟨45,by rw[V];rfl,rfl,?_⟩
   grind
 obtain⟨y1,hg,bq,hj⟩:=a8;unfold Qb;simp only[za,hg,Aa];rw[hj,zf]
 -- the digits
 have b3:=zBg (R:=Int) (s:=x) (r:=D++(cH F++dp X)) (step:=λ(Q:aE×Int)=>
   (Zz (x,Q.2)).bind λy5=>(ZG y5).bind λy6=>
   bif y6 then
    ck (decide (0<=Q.2)&&(decide (Q.2<=cj (Q.2+1))&&decide (cj (Q.2+1)<=(x.length:Int))))<|
    ck (zI Q.1.length (List.drop Q.2.toNat (List.take (cj (Q.2+1)).toNat x)).length)<|
    some (LO.again (Q.1++List.drop Q.2.toNat (List.take (cj (Q.2+1)).toNat x),cj (Q.2+1)))
   else
    some (LO.out (Q.1,Q.2))) r0 [] (λacc _ q=>(acc,ix x q)) (λacc _ q=>(acc,ix x q)) (λz=>x.length - z.2.toNat) (λacc n q J=>sK J)
  (λacc n c t J hc ha _=>by
   simp only[Oh E J,Aa,il,show cr (c::t) 0=c from rfl,hc,Ca,eW E J];rw[zn (Gt J),Oa,Oa,Ns J,zn (Zc.2 (by grind))])
  (λacc n q J hc=>by
   simp only[Oh E J,Aa,il,hc,Ba])
 rw[(jK hD ar).1,(jK hD ar).2,Lb]at b3;rw[Zt b3];simp only[Oh E r1,Aa];have b5:(bif (((cr (cH F++dp X) 0).toNat:Nat):Int)==46 then
    zM (λ(o:aE×Int×Int)=>
      (Zz (x,o.2.2)).bind λab=>(ZG ab).bind λad=>
      bif ad then
       ck (decide (0<=o.2.2)&&(decide (o.2.2<=cj (o.2.2+1))&&decide (cj (o.2.2+1)<=(x.length:Int))))<|
       ck (zI o.1.length (List.drop o.2.2.toNat (List.take (cj (o.2.2+1)).toNat x)).length)<|
       some (LO.again (o.1++List.drop o.2.2.toNat (List.take (cj (o.2.2+1)).toNat x),cj (o.2.1 - 1),cj (o.2.2+1)))
      else
       some (LO.out (o.1,o.2.1,o.2.2)):aE×Int×Int->Option (LO (aE×Int×Int) (aE×Int×Int) (LX (aE×Int×Int) Int))) (D,3,cj (ix x (cH F++dp X)+1)) (λal=>some (LX.out (al.1,al.2.1,al.2.2)))
   else some (LX.out (D,3,ix x (cH F++dp X))))=some (LX.out (D++F.getD [],3 - ((F.getD []).length:Int),ix x (dp X))):=by
  rw[b_46];cases F with
  |none=>
   have:(cr (cH none++dp X) 0==46)=false:=by
    cases X with
    |none=>rfl
    |some ex=>obtain⟨e,s,y⟩:=ex;rcases(a6 e s y rfl).1 with rfl|rfl<;>rfl
   rw[this,Ba];show some (LX.out (D,3,ix x (dp X)))=some (LX.out (D++[],3 - ((([]:aE).length:Nat):Int),ix x (dp X)))
   grind
  |some f=>
   have hf:f.all cm=true:=hF;have br:f++dp X<:+x:=ZJ (c:=46) r1;rw[show(cr (cH (some f)++dp X) 0==46)=true from rfl,Ca,show cH (some f)++dp X=46::(f++dp X)from rfl,eW E (show 46::(f++dp X)<:+x from r1)];have b6:=zBg (R:=LX (aE×Int×Int) Int) (s:=x) (r:=f++dp X) (step:=λ(o:aE×Int×Int)=>
      (Zz (x,o.2.2)).bind λab=>(ZG ab).bind λad=>
      bif ad then
       ck (decide (0<=o.2.2)&&(decide (o.2.2<=cj (o.2.2+1))&&decide (cj (o.2.2+1)<=(x.length:Int))))<|
       ck (zI o.1.length (List.drop o.2.2.toNat (List.take (cj (o.2.2+1)).toNat x)).length)<|
       some (LO.again (o.1++List.drop o.2.2.toNat (List.take (cj (o.2.2+1)).toNat x),cj (o.2.1 - 1),cj (o.2.2+1)))
      else
       some (LO.out (o.1,o.2.1,o.2.2))) br D (λacc n q=>(acc,3 - (n:Int),ix x q)) (λacc n q=>(acc,3 - (n:Int),ix x q)) (λz=>x.length - z.2.2.toNat) (λacc n q J=>sK J)
    (λacc n c t J hc ha hn=>by
     simp only[Oh E J,Aa,il,show cr (c::t) 0=c from rfl,hc,Ca,eW E J];rw[zn (Gt J),Oa,Oa,Ns J,zn (Zc.2 (by grind)),zY (by omega) (by omega),show(3:Int) - (n:Int) - 1=3 - ((n+1:Nat):Int) by omega])
    (λacc n q J hc=>by
     simp only[Oh E J,Aa,il,hc,Ba])
   rw[(jK hf aw).1,(jK hf aw).2]at b6;rw[show(3:Int)=3 - ((0:Nat):Int)from rfl,Zt b6];rfl
 rw[b5,zf];simp only;obtain⟨A,am⟩: ∃A,A=D++F.getD []:=⟨_,rfl⟩;obtain⟨k,hk⟩: ∃k,k=(F.getD []).length:=⟨_,rfl⟩;rw[<-am,<-hk]at a7 ⊢;rw[<-am]at hA bp;have ca:k<=9000:=by omega
 -- the exponent
 have b7:(bif decide (ix x (dp X)<(x.length:Int))then
    (cl x (cj (ix x (dp X)+1))).bind λb8=>
    zK (X:=Int×Int) (
      (cl x (cj (ix x (dp X)+1))).bind λbt=>
      bif bif (bt.toNat:Int)==43 then true else(b8.toNat:Int)==45 then
       some (LX.out (3 - (k:Int),cj (cj (ix x (dp X)+1)+1)))
      else
       some (LX.out (3 - (k:Int),cj (ix x (dp X)+1)))) λan=>
    zM (λ(j:Int×Int)=>
      bif decide (j.1<(x.length:Int))then
       (cl x j.1).bind λL=>
       some (LO.again (cj (j.1+1),if cj (cj (10*j.2)+cj (cN ((L.toNat:Int) - 48)))<10000 then cj (cj (10*j.2)+cj (cN ((L.toNat:Int) - 48)))else 10000))
      else
       some (LO.out j.2):Int×Int->Option (LO (Int×Int) (Int) (LX Int Int))) (an.2,0) λb9=>
    zK (X:=Int×Int) (
      bif (b8.toNat:Int)==45 then
       some (LX.out (an.1,cj (0 - b9)))
      else
       some (LX.out (an.1,b9))) λba=>
    some (LX.out (cj (ba.1+ba.2)))
   else
    some (LX.out (3 - (k:Int))))=some (LX.out (3+expR X - (k:Int))):=by
  cases X with
  |none=>
   have:ix x (dp none)=(x.length:Int):=by show((cG x []:Nat):Int)=_;unfold cG;rw[Cb];rfl
   rw[this,Ma (by omega),Ba];show some (LX.out (3 - (k:Int)))=some (LX.out (3+0 - (k:Int)));rfl
  |some ex=>
   obtain⟨e,s,y⟩:=ex;obtain⟨he,hs,bb,ao⟩:=a6 e s y rfl;have r3:e::(s++y)<:+x:=r2;have r4:s++y<:+x:=ZJ r3;have r5:y<:+x:=(List.suffix_append s _).trans r4;have cb:cG x (e::(s++y))<x.length:=by have:=r3.length_le;rw[Ha]at this;unfold cG;rw[Ha];omega
   show(bif decide (ix x (e::(s++y))<(x.length:Int))then _ else _)=_;rw[show dp (some (e,s,y))=e::(s++y)from rfl,Ga (by grind),Ca,eW E r3];have W: ∀(K:Int->Option (LX Int Int)),zM (λ(j:Int×Int)=>
      bif decide (j.1<(x.length:Int))then
       (cl x j.1).bind λL=>
       some (LO.again (cj (j.1+1),if cj (cj (10*j.2)+cj (cN ((L.toNat:Int) - 48)))<10000 then cj (cj (10*j.2)+cj (cN ((L.toNat:Int) - 48)))else 10000))
      else
       some (LO.out j.2):Int×Int->Option (LO (Int×Int) (Int) (LX Int Int))) (ix x y,0) K=K ((ej 10000 0 y:Nat):Int):=by
    intro K;have cc:cG x y+y.length=x.length:=by have:=r5.length_le;unfold cG;omega
    have:=zBa (R:=LX Int Int) (l:=y) (cap:=10000) ao (by omega) (step:=λ(j:Int×Int)=>
      bif decide (j.1<(x.length:Int))then
       (cl x j.1).bind λL=>
       some (LO.again (cj (j.1+1),if cj (cj (10*j.2)+cj (cN ((L.toNat:Int) - 48)))<10000 then cj (cj (10*j.2)+cj (cN ((L.toNat:Int) - 48)))else 10000))
      else
       some (LO.out j.2)) (λv i=>(((cG x y+i:Nat):Int),v)) (λv=>v) (λz=>x.length - z.1.toNat) (λv i hi=>by grind)
     (λv i hi=>by
      have d1:decide (((cG x y+i:Nat):Int)<(x.length:Int))=true:=Ga (by omega);simp only[d1,Ca,GN r5,Na hi,Aa,zFB];rw[zY (n:=((cG x y+i:Nat):Int)+1) (by omega) (by omega)];rfl)
     (λv=>by
      grind)
    exact Zt this
   have Y:=Vm 10000 y 0 (Yb _);obtain⟨d,u,ap⟩:=Mj bb;have bw:cm d=true:=by rw[ap,Yc,Da]at ao;exact ao.1
   have bc:=dh bw;have Z:expR (some (e,s,y))=if s==[45]then -((ej 10000 0 y:Nat):Int)else((ej 10000 0 y:Nat):Int):=rfl;rcases Gw hs with rfl|rfl|rfl
   ·rw[Lb,ap,Uj (by grind),<-ap];simp only[Aa,b_43,b_45,Fa.2 bc.2.1,Fa.2 bc.1,Ba,zf];rw[W];rw[Z,Ka (by decide),zY (by omega) (by omega)];congr 2;omega
   ·rw[show([43]:aE)++y=43::y from rfl,Uj (show 43::y<:+x from r4),eW E (show 43::y<:+x from r4)];simp only[Aa];rw[show(((43:UInt8).toNat:Int)==43)=true from rfl,show(((43:UInt8).toNat:Int)==45)=false from rfl];simp only[Ca,Ba,zf];rw[W];rw[Z,Ka (by decide),zY (by omega) (by omega)];congr 2;omega
   ·rw[show([45]:aE)++y=45::y from rfl,Uj (show 45::y<:+x from r4),eW E (show 45::y<:+x from r4)];simp only[Aa];rw[show(((45:UInt8).toNat:Int)==43)=false from rfl,show(((45:UInt8).toNat:Int)==45)=true from rfl];simp only[Ca,Ba,zf];rw[W];rw[Z,La (by decide),zY (n:=0 - _) (by omega) (by omega),zY (by omega) (by omega)];congr 2;omega
 rw[b7,zf]
 -- the value
 obtain⟨p,hp⟩: ∃p:Int,p=3+expR X - (k:Int):=⟨_,rfl⟩;have M:=a7 (by grind);have cd: -10000<=expR X/\expR X<=10000:=by
  cases X with
  |none=>exact⟨by decide,by decide⟩
  |some ex=>
   obtain⟨e,s,y⟩:=ex;have Y:=Vm 10000 y 0 (Yb _);unfold expR
   grind
 simp only at M;rw[<-hp]at M ⊢;obtain⟨m,hm⟩: ∃m:Nat,m=if p<0 then((A.length:Int)+p).toNat else A.length:=⟨_,rfl⟩;have ce:m<=A.length:=by rw[hm];split<;>omega
 have aq:(if p<0 then A.take ((A.length:Int)+p).toNat else A)=A.take m:=by
  rw[hm];split
  ·rfl
  ·grind
 have hT:(A.take m).all cm=true:=by rw[Ya]at hA ⊢;exact λb hb=>hA b (Bf hb)
 have cf:(A.take m).length=m:=by rw[Oc];omega
 have bx:cj ((A.length:Int)+p)=(A.length:Int)+p:=zY (by omega) (by omega);rw[bx];have be:=zBa (X:=Int) (R:=Int) (l:=A.take m) (cap:=Tg) hT (by unfold Tg;omega) (step:=λ(O:Int×Int)=>
   bif bif decide (O.2<(A.length:Int)+p)then decide (O.2<(A.length:Int))else false then
    (cl A O.2).bind λbh=>
    some (LO.again (if cj (cj (10*O.1)+cj (cN ((bh.toNat:Int) - 48)))<1000000000000 then cj (cj (10*O.1)+cj (cN ((bh.toNat:Int) - 48)))else 1000000000000,cj (O.2+1)))
   else
    some (LO.out O.1)) (λv i=>(v,(i:Int))) (λv=>v) (λz=>m - z.2.toNat) (λv i hi=>by grind)
  (λv i hi=>by
   have cg:i<m:=by omega
   have d1:decide ((i:Int)<(A.length:Int)+p)=true:=Ga (by grind);have d2:decide ((i:Int)<(A.length:Int))=true:=Ga (by omega);have hg:cl A (i:Int)=some (A.take m)[i]:=by rw[zF (by omega),List.getElem_take]
   simp only[d1,d2,Ca,hg,Aa,zFB];rw[zY (n:=(i:Int)+1) (by omega) (by omega)];rfl)
  (λv=>by
   grind)
 have a3:=be;rw[show((0:Int),((0:Nat):Int))=((0:Int),(0:Int))from rfl]at a3;rw[Zt a3];have Y:=Vm Tg (A.take m) 0 (Yb _);have c5:Tg=1000000000000:=rfl;rw[Zt (XU (v:=ej Tg 0 (A.take m)) (p:=p) (by omega) (by omega) (by omega) (λa b=>by grind))];have c6:=dM p.toNat _ Y;have bj:((Xh p.toNat (ej Tg 0 (A.take m)):Nat))=g9 A p:=by unfold g9;rw[aq]
 rw[bj]at c6 ⊢;rw[bq];have bl:fb.val ⟨sg,D,F,X⟩=if sg==[45]then -((g9 A p:Nat):Int)else((g9 A p:Nat):Int):=by unfold fb.val;simp only;rw[<-am,<-hk,<-M]
 rw[bl];cases sg==[45]with
 |true=> rw[Ca,La rfl,zY (by omega) (by omega)];congr 1;omega
 |false=>grind
end Go.Lv.VT
