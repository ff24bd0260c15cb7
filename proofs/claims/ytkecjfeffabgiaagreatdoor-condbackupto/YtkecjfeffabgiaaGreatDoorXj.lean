/- Media queries: the program's and the reference's reading. -/
import Derived.Test.YtkecjfeffabgiaaGreatDoorXi
import Derived.Test.YtkecjfeffabgiaaGreatDoorXg
set_option linter.unusedSimpArgs false
set_option linter.unusedVariables false
namespace Go.Lv.VT
theorem PU(k:Int): ∀(l:List zb) (a:List (List zb)×List zb) (pre:List zb),(∀p∈a.1,p.Sublist pre)->a.2.Sublist pre->
  (∀p∈(l.foldl (bg k) a).1,p.Sublist (pre++l))/\(l.foldl (bg k) a).2.Sublist (pre++l)
 |[],a,pre,h1,h2=>by rw[Xa];exact⟨h1,h2⟩
 |v::l,a,pre,h1,h2=>by
  have e:pre++v::l=(pre++[v])++l:=by simp
  rw[Ee,e];refine PU k l _ _ ?_ ?_
  ·intro p hp;unfold bg at hp;split at hp
   ·rw[Ed]at hp;rcases hp with hp|hp
    ·exact(h1 p hp).trans (Ue _ _)
    ·rw[Gc]at hp;subst hp;exact h2.trans (Ue _ _)
   ·exact(h1 p hp).trans (Ue _ _)
  ·unfold bg;split
   ·exact List.nil_sublist _
   ·exact List.Sublist.append h2 (ve _)
theorem zz7{k:Int}{l p:List zb}(h:p∈ji k l):p.Sublist l:=by
 obtain⟨h1,h2⟩:=PU k l ([],[]) [] (by intro p hp;cases hp) (ve _);rw[Pb]at h1 h2;unfold ji at h;rw[Ed]at h;rcases h with h|h
 ·exact h1 p h
 ·rw[Gc]at h;subst h;exact h2
theorem zz6(k:Int)(l:List zb):(ji k l).length<=l.length+1:=by obtain⟨_,h,_⟩:=mF k l ([],[]);unfold ji Og;simp only[Ja,Fa,Eb]at*;omega
theorem H6: ∀l:List zb,2*l.length<=zL zo l
 |[]=>by simp
 |v::l=>by have:=H6 l;have:=Im v;rw[Qf,Fa];omega
theorem O4: ∀{l:List zb},sp l=[]-> ∀v∈l,isSp v=true
 |[],_,v,h=>by cases h
 |a::l,hs,v,h=>by
  rw[En]at hs;cases ha:isSp a with
  |false=>rw[ha,Ia (by simp)]at hs;cases hs
  |true=>
   rw[ha,Ka rfl]at hs;rcases Jb.1 h with rfl|h
   ·exact ha
   ·exact O4 hs v h
theorem mR: ∀(l:List zb) (b:List zb),(∀v∈l,isSp v=true)->(l.foldl (bg 18) ([],b)).1=[]
 |[],b,_=>rfl
 |v::l,b,h=>by
  have hv:=h v Fb;unfold isSp at hv;have e:(v.token.kind==18)=false:=by rw[Bb]at hv;rw[hv];rfl
  rw[Ee,bg,e,Ia (by simp)];exact mR l _ fun w hw=>h w (ja _ hw)
theorem zDI{l:List zb}(h:sp l=[]):(ji 18 l).length=1:=by unfold ji Og;rw[mR l [] (O4 h)];rfl
def aD(x:List zb):zf:=⟨2,[],0,noDC,(ji 18 x).map fun p=>orN (Lh p)⟩
def nilC:zf:=⟨0,[],0,noDC,[]⟩
def lm(x:List zb):zf×Int:=
 if errS x=0 then(if sp x=[]then(allC [],0)else if 64<(ji 18 x).length then(nilC,4)else(aD x,0))else(nilC,errS x)
theorem PR{x:List zb}(hz:zL zo x<=big):yt x=some (lm x):=by
 unfold yt lm;have hsz:=Nr x;simp only[zyR (show szL x<=big by omega),ze,Aa];by_cases he:errS x=0
 ·have hn: ¬((18:Int)<1\/(24:Int)<18):=by decide
  have e0:((0:Int) != 0)=false:=rfl;simp only[Ka he,Ia hn,e0,Ba,sj,Aa];have hP:=zz6 18 x;have hx2:=H6 x;have hb2:2<=big:=by unfold big;omega
  have hmem: ∀p∈ji 18 x,zL zo p<=big:=fun p hp=>Ob (Bi (zz7 hp)) hz;have hone:sp x=[]->(ji 18 x).length=1:=zDI;generalize hPe:ji 18 x=P at*;have key:(bif decide ((P.length:Int)>64)then some ((⟨0,[],0,(⟨[],[],false⟩:zD),[]⟩:zf),(4:Int))else
    Zj (fun(s4:Int×(Int×Str×Int×Str×Bool)×List zf)=>
     bif decide (s4.1<(P.length:Int))then
      (geti P s4.1).bind fun y5=>
      (Qj (⟨y5⟩:zk)).bind fun y6=>
      Zk (X:=(Int×Str×Int×Str×Bool)×List zf×zf) (
        bif !y6.1.2 then
         some (LX.out ((s4.2.1.1,s4.2.1.2.1,s4.2.1.2.2.1,s4.2.1.2.2.2.1,s4.2.1.2.2.2.2),s4.2.2,(⟨3,[],0,(⟨[],[],false⟩:zD),[(⟨1,[],0,(⟨[],[],false⟩:zD),[(⟨4,[97,108,108],0,(⟨[],[],false⟩:zD),[]⟩:zf)]⟩:zf)]⟩:zf)))
        else
         some (LX.out ((s4.2.1.1,s4.2.1.2.1,s4.2.1.2.2.1,s4.2.1.2.2.2.1,s4.2.1.2.2.2.2),s4.2.2,(⟨y6.1.1.kind,y6.1.1.name,y6.1.1.num,y6.1.1.decl,y6.1.1.list⟩:zf)))) fun j7=>
      need (zW j7.2.1.length 1 104)<|
      some (LO.again (w64 (s4.1+1),(j7.1.1,j7.1.2.1,j7.1.2.2.1,j7.1.2.2.2.1,j7.1.2.2.2.2),j7.2.1++[(⟨j7.2.2.kind,j7.2.2.name,j7.2.2.num,j7.2.2.decl,j7.2.2.list⟩:zf)]))
     else
      some (LO.out ((s4.2.1.1,s4.2.1.2.1,s4.2.1.2.2.1,s4.2.1.2.2.2.1,s4.2.1.2.2.2.2),s4.2.2)):Int×(Int×Str×Int×Str×Bool)×List zf->Option (LO (Int×(Int×Str×Int×Str×Bool)×List zf) ((Int×Str×Int×Str×Bool)×List zf) (zf×Int))) (0,(2,[],0,[],false),[]) fun o8=>
    some ((⟨o8.1.1,o8.1.2.1,o8.1.2.2.1,(⟨o8.1.2.2.2.1,[],o8.1.2.2.2.2⟩:zD),o8.2⟩:zf),(0:Int)))=some (if 64<P.length then(nilC,4)else(⟨2,[],0,noDC,P.map fun p=>orN (Lh p)⟩,0)):=by
   by_cases h64:64<P.length
   ·have e:decide ((P.length:Int)>64)=true:=Ga (by omega);rw[e,Ka h64];rfl
   ·have e:decide ((P.length:Int)>64)=false:=Db (by omega);rw[e,Ia h64,Ba];refine(H9 P (fun(_:Unit) _=>()) (fun _ i=>((i:Int),(2,[],0,[],false),(P.take i).map fun p=>orN (Lh p))) (fun _=>((2,[],0,[],false),P.map fun p=>orN (Lh p))) (a0:=()) rfl ?_ ?_).trans rfl
    ·intro i _ h;have hap:zW ((P.take i).map fun p=>orN (Lh p)).length 1 104=true:=by refine QH ?_;rw[Ib,yc];omega
     obtain⟨⟨⟨c,b⟩,rd⟩,g1,g2,g3⟩:=zFa (hmem _ (jb h));have hc:(bif b then c else jO)=orN (Lh P[i]):=by
      cases hq:Lh P[i]with
      |none=> rw[hq]at g2;obtain rfl:b=false:=g2;rfl
      |some z=> rw[hq]at g2;obtain rfl:b=true:=g2;exact g3 z hq
     have ht:(P.take (i+1)).map (fun p=>orN (Lh p))=(P.take i).map (fun p=>orN (Lh p))++[bif b then c else jO]:=by rw[Xb h,We,hc];rfl
     simp only[ZF h,Da,Zo h,Aa,g1,ht];cases b with
     |false=>simp only[Ta,Da,zq,hap,zK,Zp h (show P.length<=big by omega)];rfl
     |true=>simp only[Va,Ba,Da,zq,hap,zK,Zp h (show P.length<=big by omega),Zd]
    ·intro _;simp only[qA,Ba,Yc]
  have hl0:(((sp x).length:Int)==0)=decide (sp x=[]):=by
   cases sp x with
   |nil=>rfl
   |cons a r=> have:(((a::r).length:Int)==0)=false:=Ha.2 (by simp only[Fa];omega);rw[this];rfl
  have h1:((P.length:Int)==1)=decide (P.length=1):=by
   by_cases h:P.length=1
   ·rw[Ga h,h];rfl
   ·rw[Db h];exact Ha.2 (by omega)
  simp only[hl0,h1];have haske:aD x=⟨2,[],0,noDC,P.map fun p=>orN (Lh p)⟩:=by unfold aD;rw[hPe]
  rw[haske];by_cases hs:sp x=[]
  ·have e1:=Ga (hone hs);have e2:=Ga hs;simp only[e1,e2,Da,znE,Ka hs];rfl
  ·have e2:=Db hs;simp only[e2,Ba,Ia hs];cases decide (P.length=1)with
   |true=>exact key
   |false=>exact key
 ·have e0:(errS x != 0)=true:=Lf.2 he;simp only[Ia he,e0,Da];rfl
def TH(o:Option zD):zD×Bool:=match o with
 |some d=>(d,true)
 |none=>(⟨[],[],false⟩,false)
def oneO(x:List zb):Option zD:=bif (oneS x).2 then some (oneS x).1 else none
theorem zH7{x:List zb}(h:(oneS x).2=false):oneS x=noD:=by
 unfold oneS at h ⊢;split
 ·rfl
 ·rename_i n r e;simp only[e]at h;cases hk:n.token.kind==1 with
  |false=>rfl
  |true=>
   simp only[hk,Da]at h ⊢;split
   ·rfl
   ·rename_i c q e2;simp only[e2]at h;cases hc:c.token.kind==16 with
    |false=>rfl
    |true=>
     simp only[hc,Da]at h ⊢;cases hd:Dg ⟨nmD n.token.text,(Ug (q.dropWhile isSp)).1,(Ug (q.dropWhile isSp)).2⟩with
     |false=>rfl
     |true=>rw[hd]at h;cases h
theorem zE0(x:List zb):TH (oneO x)=oneS x:=by
 unfold oneO;cases h:(oneS x).2 with
 |true=>show((oneS x).1,true)=_;rw[<-h]
 |false=>rw[zH7 h];rfl
theorem zu8{x:List zb}(hz:zL zo x<=big)(he:errS x=0):LA x=some ((TH (oneO x)).1,(TH (oneO x)).2,0):=by have hsz:=Nr x;unfold LA;have:((0:Int) != 0)=false:=rfl;rw[zE0];simp only[ut (show szL x<=big by omega),he,this,zu9 (show szL x<=big by omega),ze,Aa,Ba]
theorem zFf{v:zb}{c:Int}(h:shV v c=true):shV v 0=true:=by
 rw[Vy]at h ⊢;have e:((0:Int) != 0)=false:=rfl;rw[e];cases h1:(zC v.token.kind==0&&decide (0<v.list.length))with
 |true=>rw[h1]at h;cases h
 |false=>
  rw[h1]at h;cases h2:(zC v.token.kind != 0&& !(shL v.list (zC v.token.kind)))with
  |true=>rw[h2]at h;simp at h
  |false=>rfl
theorem XQ{c:Int}: ∀{l:List zb},shL l c=true->shL l 0=true
 |[],_=>by rw[shL]
 |v::r,h=>by rw[shL,Ca]at h ⊢;exact⟨zFf h.1,XQ h.2⟩
theorem U8{c:Int}{v:zb}: ∀{l:List zb},shL l c=true->v∈l->shV v c=true
 |[],_,h=>by cases h
 |w::r,h,hv=>by
  rw[shL,Ca]at h;rcases Jb.1 hv with rfl|hv
  ·exact h.1
  ·exact U8 h.2 hv
theorem nU{v:zb}: ∀{l:List zb},v∈l->Oi v<=ZP l
 |[],h=>by cases h
 |w::r,h=>by
  rw[ZP];rcases Jb.1 h with rfl|h
  ·omega
  ·have:=nU h;omega
theorem YS{v:zb}: ∀{l:List zb},v∈l->(tokV v).length<=(tokL l).length
 |[],h=>by cases h
 |w::r,h=>by
  rw[tokL,Ja];rcases Jb.1 h with rfl|h
  ·omega
  ·have:=YS h;omega
theorem oK{l:List zb}:errS l=0↔ZP l<=16/\(tokL l).length<=1500/\shL l 0=true:=by
 unfold errS;by_cases h1:16<ZP l
 ·rw[Ka h1];constructor
  ·intro h;cases h
  ·rintro⟨h,_⟩;omega
 rw[Ia h1];by_cases h2:1500<(tokL l).length
 ·rw[Ka h2];constructor
  ·intro h;cases h
  ·rintro⟨_,h,_⟩;omega
 rw[Ia h2];cases shL l 0 with
 |true=>simp;omega
 |false=>simp
theorem d9{l:List zb}(h:errS l=0){a:zb}(ha:a∈l)(hk:(a.token.kind==21)=true):errS a.list=0:=by
 rw[Bb]at hk;rw[oK]at h ⊢;obtain⟨h1,h2,h3⟩:=h;have c:zC a.token.kind=22:=by rw[hk];rfl
 have d:=nU ha;have t:=YS ha;have s:=U8 h3 ha;rw[LK,c,Ia (by decide)]at d;rw[Gq,c,Ia (by decide)]at t;simp only[Fa,Ja,Eb]at t;rw[Vy,c]at s;refine⟨by omega,by omega,XQ (c:=22) ?_⟩;cases hs:shL a.list 22 with
 |true=>rfl
 |false=>rw[hs]at s;simp at s
def vZ(d:zD):zf:=⟨7,[],0,d,[]⟩
def LD:zf:=⟨8,[],0,noDC,[]⟩
def mg(f:List zb->Option zf)(a:zb):Option zf:=
 bif a.token.kind==2 then some LD else bif a.token.kind==21 then(match oneO a.list with
  |some d=>some (vZ d)
  |none=>match f a.list with
   |some c=>some c
   |none=>some LD)else none
def Sj(f:List zb->Option zf)(l:List zb):Option zf:=match l with
 |[]=>none
 |a::_=>mg f a
def il(f:List zb->Option zf)(op:Str):Nat->Bool->List zb->Option (List zf)
 |0,_,_=>none
 |n+1,flag,l=>match l with
  |[]=>some []
  |a::r=>bif flag&&(isW op a&&decide ((sp r).length<r.length))then(match sp r with
   |[]=>none
   |b::r'=>match mg f b with
    |none=>none
    |some x=>(il f op n (decide ((sp r').length<r'.length)) (sp r')).map (x:: ·))else none
def xg(f:List zb->Option zf)(op:Str)(flag:Bool)(l:List zb):Option (List zf):=il f op (l.length+1) flag l
theorem dW(f:List zb->Option zf)(op:Str): ∀{n m:Nat} {flag:Bool} {l:List zb},l.length<n->l.length<m->il f op n flag l=il f op m flag l
 |0,_,_,_,h,_=>by omega
 |_,0,_,_,_,h=>by omega
 |n+1,m+1,flag,l,h1,h2=>by
  cases l with
  |nil=>rfl
  |cons a r=>
   unfold il;simp only;cases flag&&(isW op a&&decide ((sp r).length<r.length))with
   |false=>rfl
   |true=>
    simp only[Da];cases hs:sp r with
    |nil=>rfl
    |cons b r'=>
     have hl:=Ai r;have hl2:=Ai r';rw[hs,Fa]at hl;rw[Fa]at h1 h2;simp only;cases mg f b with
     |none=>rfl
     |some x=>rw[dW f op (n:=n) (m:=m) (by omega) (by omega)]
theorem zyN(f:List zb->Option zf)(op:Str)(n:Nat)(flag:Bool)(a:zb)(r:List zb):il f op (n+1) flag (a::r)=
  bif flag&&(isW op a&&decide ((sp r).length<r.length))then(match sp r with
   |[]=>none
   |b::r'=>match mg f b with
    |none=>none
    |some x=>(il f op n (decide ((sp r').length<r'.length)) (sp r')).map (x:: ·))else none:=rfl
theorem CL(f:List zb->Option zf)(op:Str)(flag:Bool):xg f op flag []=some []:=rfl
theorem VG(f:List zb->Option zf)(op:Str)(flag:Bool)(a:zb)(r:List zb):xg f op flag (a::r)=
  bif flag&&(isW op a&&decide ((sp r).length<r.length))then(match sp r with
   |[]=>none
   |b::r'=>match mg f b with
    |none=>none
    |some x=>(xg f op (decide ((sp r').length<r'.length)) (sp r')).map (x:: ·))else none:=by
 unfold xg;rw[zyN];cases flag&&(isW op a&&decide ((sp r).length<r.length))with
 |false=>rfl
 |true=>
  simp only[Da];cases hs:sp r with
  |nil=>rfl
  |cons b r'=>
   have hl:=Ai r;have hl2:=Ai r';rw[hs,Fa]at hl;simp only;cases mg f b with
   |none=>rfl
   |some x=>rw[dW f op (n:=(a::r).length) (m:=(sp r').length+1) (by rw[Fa];omega) (by omega)]
def orC(l:List zf):zf:=⟨2,[],0,noDC,l⟩
def Ni(f:List zb->Option zf)(l:List zb):Option zf:=match sp l with
 |[]=>none
 |a::r=>bif isW notW a then(bif decide ((sp r).length<r.length)&&(sp (sp r).tail).isEmpty then(Sj f (sp r)).map notC else none)else
  match mg f a with
  |none=>none
  |some x=>match sp r with
   |[]=>some x
   |w::t=>bif isW orW w then(xg f orW (decide ((sp r).length<r.length)) (w::t)).map fun q=>orC (x::q)
    else(xg f andW (decide ((sp r).length<r.length)) (w::t)).map fun q=>allC (x::q)
theorem uL{f g:List zb->Option zf}{a:zb}(h:f a.list=g a.list):mg f a=mg g a:=by unfold mg;rw[h]
theorem kV{f g:List zb->Option zf}(op:Str): ∀{n:Nat} {flag:Bool} {l:List zb},(∀a∈l,f a.list=g a.list)->il f op n flag l=il g op n flag l
 |0,_,_,_=>rfl
 |n+1,flag,[],_=>rfl
 |n+1,flag,a::r,h=>by
  have hr: ∀b∈sp r,f b.list=g b.list:=fun b hb=>h b (ja _ ((kg r).subset hb));unfold il;simp only;cases flag&&(isW op a&&decide ((sp r).length<r.length))with
  |false=>rfl
  |true=>
   simp only[Da];cases hs:sp r with
   |nil=>rfl
   |cons b r'=> rw[hs]at hr;have hr': ∀b∈sp r',f b.list=g b.list:=fun b hb=>hr b (ja _ ((kg r').subset hb));simp only;rw[uL (hr b Fb),kV op hr']
theorem TV{f g:List zb->Option zf}{l:List zb}(h: ∀a∈l,f a.list=g a.list):Ni f l=Ni g l:=by
 have h0: ∀a∈sp l,f a.list=g a.list:=fun a ha=>h a ((kg l).subset ha);unfold Ni;cases hs:sp l with
 |nil=>rfl
 |cons a r=>
  rw[hs]at h0;have hr: ∀b∈sp r,f b.list=g b.list:=fun b hb=>h0 b (ja _ ((kg r).subset hb));have hh:Sj f (sp r)=Sj g (sp r):=by
   cases hs2:sp r with
   |nil=>rfl
   |cons b t=>exact uL (hr b (by rw[hs2];exact Fb))
  simp only;rw[hh,uL (h0 a Fb)];cases hs2:sp r with
  |nil=>rfl
  |cons w t=> rw[hs2]at hr;simp only[xg,kV _ hr]
def Br:Nat->List zb->Option zf
 |0,_=>none
 |n+1,l=>Ni (Br n) l
def Mh(l:List zb):Option zf:=Br (zL zo l+1) l
theorem dN{l:List zb}{a:zb}(ha:a∈l):zL zo a.list<zL zo l:=by have h1:=DD (f:=zo) ha;have h2:=Im a;omega
theorem pW: ∀{n m:Nat} {l:List zb},zL zo l<n->zL zo l<m->Br n l=Br m l
 |0,_,_,h,_=>by omega
 |_,0,_,_,h=>by omega
 |n+1,m+1,l,h1,h2=>by show Ni (Br n) l=Ni (Br m) l;refine TV fun a ha=> ?_;have:=dN ha;exact pW (by omega) (by omega)
theorem nz(l:List zb):Mh l=Ni Mh l:=by show Ni (Br (zL zo l)) l=_;refine TV fun a ha=> ?_;have:=dN ha;exact pW (by omega) (by omega)
def OkV{Y:Type}(T:List zb->Option Y)(g:Y->zf×Bool)(f:List zb->Option zf)(a:zb):Prop:=
 a.token.text.length<=big/\zL zo a.list<=big/\((a.token.kind==21)=true->errS a.list=0/\ ∃y,T a.list=some y/\MayR (g y) (f a.list))
theorem ME{S:zk->Option ((zf×Bool)×zk)}{f:List zb->Option zf}{m:List zb}(hm: ∀a∈m,OkV (fun l=>S ⟨l⟩) (fun y=>y.1) f a):
  ∃c b v,ZO S ⟨m⟩=some ((c,b),⟨v⟩)/\MayR (c,b) (Sj f m)/\(b=true->v=m.tail):=by
 unfold ZO;simp only[Ls,ze,Aa];cases m with
 |nil=>exact⟨_,_,_,rfl,Zx _,fun h=>by cases h⟩
 |cons a r=>
  obtain⟨h1,h2,h3⟩:=hm a Fb;simp only[ll,Sj,mg];cases h2k:a.token.kind==2 with
  |true=> simp only[Da,Aq,Aa];exact⟨_,_,_,rfl,Kl _,fun _=>rfl⟩
  |false=>
   cases hk:a.token.kind==21 with
   |false=>exact⟨_,_,_,rfl,Zx _,fun h=>by cases h⟩
   |true=>
    obtain⟨he,⟨⟨c,b⟩,rd⟩,g1,g2,g3⟩:=h3 hk;have g1:S ⟨a.list⟩=some ((c,b),rd):=g1;simp only[Ba,Da,Aq,Aa,zu8 h2 he];cases ho:oneO a.list with
    |some d=>exact⟨_,_,_,rfl,Kl _,fun _=>rfl⟩
    |none=>
     have e0:((0:Int)==0)=true:=rfl;simp only[TH,e0,Da,Ba,g1,Aa];cases hf:f a.list with
     |none=> rw[hf]at g2;obtain rfl:b=false:=g2;exact⟨_,_,_,rfl,Kl _,fun _=>rfl⟩
     |some z=> rw[hf]at g2;obtain rfl:b=true:=g2;obtain rfl:c=z:=g3 z hf;simp only[Da,Zd];exact⟨c,_,_,rfl,Kl _,fun _=>rfl⟩
theorem PT{a:zb}(h:isW andW a=true):isW orW a=false:=by unfold isW at*;rw[Ca,Bb (a:=lowS a.token.text)]at h;rw[h.2,Bool.and_eq_false_iff];exact .inr rfl
def opW(op:Int)(l:List zb):Int:=if op=0 then(bif headW orW l then 2 else 1)else op
def Ru(op:Int):Str:=if op=2 then orW else andW
def resT(f:List zb->Option zf)(op:Int)(flag:Bool)(l:List zb)(acc:List zf):Option zf:=
 (xg f (Ru (opW op l)) flag l).map fun q=>⟨opW op l,[],0,noDC,acc++q⟩
theorem zE6{α:Type}(a:α)(r:List α):decide (((a::r).length:Int)>0)=true:=Ga (by simp only[Fa];omega)
theorem len0{α:Type}(l:List α):((l.length:Int)==0)=l.isEmpty:=by
 cases l with
 |nil=>rfl
 |cons a r=>exact Ha.2 (by simp only[Fa];omega)
theorem zCc{S:zk->Option ((zf×Bool)×zk)}{f:List zb->Option zf}{l:List zb}(hl:l.length<=big)(hm: ∀a∈l,OkV (fun l=>S ⟨l⟩) (fun y=>y.1) f a):
  ∃y,qi S ⟨l⟩=some y/\MayR y.1 (Ni f l):=by
 unfold qi Ni;have hm0: ∀a∈sp l,OkV (fun l=>S ⟨l⟩) (fun y=>y.1) f a:=fun a ha=>hm a ((kg l).subset ha);have hl0:(sp l).length<=big:=Ob (Ai l) hl;simp only[sj,ze,Aa];generalize sp l=m at*;rw[TB [notW] m (fun a ha=>(hm0 a ha).1) (by intro s hs;simp at hs;subst hs;exact⟨by decide,zHM⟩) (by decide)];have e0:(notW==([]:Str))=false:=rfl;have e1:(([]:Str)==([]:Str))=true:=rfl;have happ:zW 0 1 104=true:=QH (by decide);cases m with
 |nil=> obtain⟨c,b,v,g1,g2,g3⟩:=ME hm0;obtain rfl:b=false:=g2.1;simp only[Ak,headW,Ba,Aa,e1,Va,g1,Ta,Da];exact⟨_,rfl,Zx _⟩
 |cons a r=>
  have hmr: ∀a∈sp r,OkV (fun l=>S ⟨l⟩) (fun y=>y.1) f a:=fun a ha=>hm0 a (ja _ ((kg r).subset ha));have hlr:(sp r).length<=big:=by have:=Ai r;rw[Fa]at hl0;omega
  simp only[Ak,headW];cases hn:isW notW a with
  |true=>
   obtain⟨c,b,v,g1,g2,g3⟩:=ME hmr;simp only[Da,Aa,e0,Ta,Ef,sj,g1,Zd,len0];refine⟨_,rfl,?_⟩;cases hh:Sj f (sp r)with
   |none=>
    rw[hh]at g2;obtain rfl:b=false:=g2.1;cases decide ((sp r).length<r.length)&&(sp (sp r).tail).isEmpty<;>exact Zx _
   |some x=>
    rw[hh]at g2;obtain rfl:b=true:=g2.1;obtain rfl:c=x:=g2.2 x rfl;obtain rfl:=g3 rfl;cases decide ((sp r).length<r.length)with
    |false=>exact Zx _
    |true=>
     cases (sp (sp r).tail).isEmpty with
     |false=>exact Zx _
     |true=>exact Kl _
  |false=>
   obtain⟨c,b,v,g1,g2,g3⟩:=ME hm0;simp only[Sj]at g2;simp only[Ba,Aa,e1,Va,g1];cases hh:mg f a with
   |none=> rw[hh]at g2;obtain rfl:b=false:=g2.1;exact⟨_,rfl,Zx _⟩
   |some x=>
    rw[hh]at g2;obtain rfl:b=true:=g2.1;obtain rfl:c=x:=g2.2 x rfl;obtain rfl:r=v:=(g3 rfl).symm;simp only[Va,Ba,sj,Ef,Aa,Zd,len0];cases hsr:sp r with
    |nil=> simp only;exact⟨((c,true),_),rfl,Kl _⟩
    |cons w t=>
     rw[hsr]at hmr hlr;have hsp:sp (w::t)=w::t:=by rw[<-hsr,Dn]
     have hres:(bif isW orW w then(xg f orW (decide ((w::t).length<r.length)) (w::t)).map (fun q=>orC (c::q))
       else(xg f andW (decide ((w::t).length<r.length)) (w::t)).map fun q=>allC (c::q))=resT f 0 (decide ((w::t).length<r.length)) (w::t) [c]:=by
      unfold resT opW headW;rw[Ka rfl];simp only;cases isW orW w<;>rfl
     simp only[List.isEmpty_cons,Ba,hres];generalize decide ((w::t).length<r.length)=flag;refine XT (fun s:Bool×zk×(Int×Str×Int×Str×Bool)×(Int×Str×Int×Str×Bool)×List zf=>s.2.1.v.length)
      (fun s=> ∃op:Int,(op=0\/op=1\/op=2)/\s.2.2.1=(0,[],0,[],false)/\s.2.2.2.1=(op,[],0,[],false)/\sp s.2.1.v=s.2.1.v/\(op=0->s.2.1.v≠[])/\(∀a∈s.2.1.v,OkV (fun l=>S ⟨l⟩) (fun y=>y.1) f a)/\s.2.2.2.2.length+s.2.1.v.length<=big+1)
      (fun s (r:(zf×Bool)×zk)=>MayR r.1 (resT f s.2.2.2.1.1 s.1 s.2.1.v s.2.2.2.2)) ?_ ?_
     ·rintro⟨flag,⟨v⟩,_,_,acc⟩ ⟨op,hop,rfl,rfl,hv,hne,hok,hacc⟩;simp only at hv hne hok hacc;cases v with
      |nil=> have hop0:op≠0:=fun h=>hne h rfl;right;right;refine⟨(⟨[]⟩,(0,[],0,[],false),(op,[],0,[],false),acc),rfl,?_⟩;refine⟨_,rfl,?_⟩;unfold resT opW;rw[Ia hop0,CL,jc,Xa];exact Kl _
      |cons a r=>
       simp only[zE6,Da];rw[TB [andW,orW] (a::r) (fun a ha=>(hok a ha).1) (by intro s hs;simp at hs;rcases hs with rfl|rfl<;>exact⟨by decide,by decide⟩) (by decide)];have hokr: ∀a∈sp r,OkV (fun l=>S ⟨l⟩) (fun y=>y.1) f a:=fun a ha=>hok a (ja _ ((kg r).subset ha));obtain⟨c',b,v',k1,k2,k3⟩:=ME hokr;have hlen:=Ai r;rw[Fa]at hacc
       -- behind a word
       have tail: ∀(t:Int) (s:Str),(t=1/\s=andW\/t=2/\s=orW)->isW s a=true->(op=0\/op=t)->(bif s==[97,110,100]then(1:Int)else bif s==[111,114]then 2 else 0)=t->
         (∃s':Bool×zk×(Int×Str×Int×Str×Bool)×(Int×Str×Int×Str×Bool)×List zf,
          (bif bif !decide ((sp r).length<r.length)then true else !b then
           some (LO.ret (((⟨t,[],0,(⟨[],[],false⟩:zD),acc⟩:zf),false),(⟨v'⟩:zk)))
          else
           some (LO.again (decide ((sp v').length<v'.length),(⟨sp v'⟩:zk),((0:Int),([]:Str),(0:Int),([]:Str),false),(t,([]:Str),(0:Int),([]:Str),false),acc++[c'])):
            Option (LO (Bool×zk×(Int×Str×Int×Str×Bool)×(Int×Str×Int×Str×Bool)×List zf) (zk×(Int×Str×Int×Str×Bool)×(Int×Str×Int×Str×Bool)×List zf) ((zf×Bool)×zk)))=some (LO.again s')/\
          (∃op:Int,(op=0\/op=1\/op=2)/\s'.2.2.1=(0,[],0,[],false)/\s'.2.2.2.1=(op,[],0,[],false)/\sp s'.2.1.v=s'.2.1.v/\(op=0->s'.2.1.v≠[])/\(∀a∈s'.2.1.v,OkV (fun l=>S ⟨l⟩) (fun y=>y.1) f a)/\s'.2.2.2.2.length+s'.2.1.v.length<=big+1)/\
          s'.2.1.v.length<(a::r).length/\ ∀q:(zf×Bool)×zk,MayR q.1 (resT f s'.2.2.2.1.1 s'.1 s'.2.1.v s'.2.2.2.2)->MayR q.1 (resT f op true (a::r) acc))\/
         (∃q:(zf×Bool)×zk,(bif bif !decide ((sp r).length<r.length)then true else !b then
           some (LO.ret (((⟨t,[],0,(⟨[],[],false⟩:zD),acc⟩:zf),false),(⟨v'⟩:zk)))
          else
           some (LO.again (decide ((sp v').length<v'.length),(⟨sp v'⟩:zk),((0:Int),([]:Str),(0:Int),([]:Str),false),(t,([]:Str),(0:Int),([]:Str),false),acc++[c'])):
            Option (LO (Bool×zk×(Int×Str×Int×Str×Bool)×(Int×Str×Int×Str×Bool)×List zf) (zk×(Int×Str×Int×Str×Bool)×(Int×Str×Int×Str×Bool)×List zf) ((zf×Bool)×zk)))=some (LO.ret q)/\MayR q.1 (resT f op true (a::r) acc)):=by
        intro t s hts hs hopt _;have hopw:opW op (a::r)=t:=by
         unfold opW headW;rcases hopt with rfl|rfl
         ·rw[Ka rfl];simp only;rcases hts with⟨rfl,rfl⟩|⟨rfl,rfl⟩
          ·rw[PT hs];rfl
          ·rw[hs];rfl
         ·have:op≠0:=by rcases hts with⟨rfl,_⟩|⟨rfl,_⟩<;>decide
          rw[Ia this]
        have hwo:Ru t=s:=by unfold Ru;rcases hts with⟨rfl,rfl⟩|⟨rfl,rfl⟩<;>rfl
        have hR:resT f op true (a::r) acc=(xg f s true (a::r)).map fun q=>⟨t,[],0,noDC,acc++q⟩:=by unfold resT;rw[hopw,hwo]
        rw[hR,VG,hs];simp only[Cb];cases decide ((sp r).length<r.length)with
        |false=> right;exact⟨_,rfl,Zx _⟩
        |true=>
         simp only[Da,Va,Ba];cases hsr:sp r with
         |nil=> rw[hsr]at k2;obtain rfl:b=false:=k2.1;right;exact⟨_,rfl,Zx _⟩
         |cons d r'=>
          rw[hsr]at k2 k3 hlen hokr;simp only[Sj]at k2 ⊢;cases hfd:mg f d with
          |none=> rw[hfd]at k2;obtain rfl:b=false:=k2.1;right;exact⟨_,rfl,Zx _⟩
          |some z=>
           rw[hfd]at k2;obtain rfl:b=true:=k2.1;obtain rfl:c'=z:=k2.2 z rfl;obtain rfl:v'=r':=k3 rfl;have hl2:=Ai v';rw[Fa]at hlen;have ht0:t≠0:=by rcases hts with⟨rfl,_⟩|⟨rfl,_⟩<;>decide
           left;refine⟨(decide ((sp v').length<v'.length),⟨sp v'⟩,(0,[],0,[],false),(t,[],0,[],false),acc++[c']),rfl,⟨t,by rcases hts with⟨rfl,_⟩|⟨rfl,_⟩<;>simp,rfl,rfl,Dn _,fun h=>absurd h ht0,?_,?_⟩,?_,?_⟩
           ·intro x hx;exact hokr x (ja _ ((kg v').subset hx))
           ·simp only[Ja,Fa,Eb];omega
           ·simp only[Fa];omega
           ·intro q hq;unfold resT opW at hq;simp only at hq;rw[Ia ht0,hwo]at hq;cases hmo:xg f s (decide ((sp v').length<v'.length)) (sp v')with
            |none=>rw[hmo]at hq;exact hq
            |some qq=> rw[hmo]at hq;simp only[jc,La,xc]at hq ⊢;exact hq
       have fail: ∀s:Str,s=Ru (opW op (a::r))->(flag=false\/isW s a=false)->resT f op flag (a::r) acc=none:=by
        intro s hs hfl;unfold resT;rw[<-hs,VG];rcases hfl with rfl|h
        ·rfl
        ·rw[h];cases flag<;>rfl
       have hap:zW acc.length 1 104=true:=QH (by unfold big at hacc;omega);have q1:(andW==([97,110,100]:Str))=true:=rfl;have q2:(orW==([97,110,100]:Str))=false:=rfl;have q3:(orW==([111,114]:Str))=true:=rfl;have q4:(([]:Str)==([97,110,100]:Str))=false:=rfl;have q5:(([]:Str)==([111,114]:Str))=false:=rfl;have i0:((0:Int)==0)=true:=rfl;have i1:((1:Int)==0)=false:=rfl;have i2:((2:Int)==0)=false:=rfl;simp only[Ak,headW];cases ha:isW andW a with
       |true=>
        simp only[Da,Aa,q1,i1,Ba,Ef,sj,k1,hap,zK,Zd];cases flag with
        |false=> right;left;exact⟨_,rfl,by rw[fail _ rfl (.inl rfl)];exact Zx _⟩
        |true=>
         rcases hop with rfl|rfl|rfl
         ·rcases tail 1 andW (.inl ⟨rfl,rfl⟩) ha (.inl rfl) rfl with h|h
          ·exact .inl h
          ·exact .inr (.inl h)
         ·rcases tail 1 andW (.inl ⟨rfl,rfl⟩) ha (.inr rfl) rfl with h|h
          ·exact .inl h
          ·exact .inr (.inl h)
         ·right;left;exact⟨_,rfl,by rw[fail orW rfl (.inr (PT ha))];exact Zx _⟩
       |false=>
        cases ho:isW orW a with
        |true=>
         simp only[Da,Aa,q2,q3,i2,Ba,Ef,sj,k1,hap,zK,Zd];cases flag with
         |false=> right;left;exact⟨_,rfl,by rw[fail _ rfl (.inl rfl)];exact Zx _⟩
         |true=>
          rcases hop with rfl|rfl|rfl
          ·rcases tail 2 orW (.inr ⟨rfl,rfl⟩) ho (.inl rfl) rfl with h|h
           ·exact .inl h
           ·exact .inr (.inl h)
          ·right;left;exact⟨_,rfl,by rw[fail andW rfl (.inr ha)];exact Zx _⟩
          ·rcases tail 2 orW (.inr ⟨rfl,rfl⟩) ho (.inr rfl) rfl with h|h
           ·exact .inl h
           ·exact .inr (.inl h)
        |false=>
         simp only[Ba,Aa,q4,q5,i0,Da];right;left;refine⟨_,rfl,?_⟩;have hw:isW (Ru (opW op (a::r))) a=false:=by
          unfold Ru;split
          ·exact ho
          ·exact ha
         rw[fail _ rfl (.inr hw)];exact Zx _
     ·exact⟨0, .inl rfl,rfl,rfl,hsp,fun _=>List.cons_ne_nil _ _,hmr,by simp only[Fa,Eb]at *; omega⟩
def iN(f:List zb->Option zf)(l:List zb):Option zf:=match l with
 |[]=>none
 |a::r=>bif isW notW a then(bif decide ((sp r).length<r.length)&&(sp (sp r).tail).isEmpty then(Sj f (sp r)).map notC else none)else
  match mg f a with
  |none=>none
  |some x=>match sp r with
   |[]=>some x
   |w::t=>bif isW orW w then(xg f orW (decide ((sp r).length<r.length)) (w::t)).map fun q=>orC (x::q)
    else(xg f andW (decide ((sp r).length<r.length)) (w::t)).map fun q=>allC (x::q)
theorem zFu(f:List zb->Option zf)(l:List zb):Ni f l=iN f (sp l):=by unfold Ni iN;cases sp l<;>rfl
theorem CU{f:List zb->Option zf}{op:Str}(hop:lowS op=op): ∀{bs:List zb} {xs:List zf},bs.length=xs.length->(∀b∈bs,isSp b=false)->(∀(i:Nat) b x,bs[i]? =some b->xs[i]? =some x->mg f b=some x)->
  ∀{b0:zb},xg f op (!bs.isEmpty) ((sepV op ((b0::bs).map fun b=>[b])).drop 2)=some xs
 |[],[],_,_,_,b0=>by show xg f op false []=_;exact CL _ _ _
 |b::bs,x::xs,hl,hsp,h,b0=>by
  have ih:=CU (f:=f) hop (bs:=bs) (xs:=xs) (by simpa using hl) (fun c hc=>hsp c (ja _ hc)) (fun i=>h (i+1)) (b0:=b);have hb:=hsp b (Fb ..);have ht:=h 0 b x rfl rfl;have e:(sepV op ((b0::b::bs).map fun b=>[b])).drop 2=wdN op::vSp::sepV op ((b::bs).map fun b=>[b]):=by simp only[Yb];rw[sepV];rfl
  have hw:isW op (wdN op)=true:=by show((1:Int)==1&&lowS op==op)=true;rw[hop];simp
  have hs2: ∃r',sepV op ((b::bs).map fun b=>[b])=b::r'/\sp r'=(sepV op ((b::bs).map fun b=>[b])).drop 2/\decide ((sp r').length<r'.length)= !bs.isEmpty:=by
   cases bs with
   |nil=>exact⟨[],rfl,rfl,rfl⟩
   |cons c t=>
    refine⟨vSp::wdN op::vSp::sepV op ((c::t).map fun b=>[b]),?_,?_,?_⟩
    ·simp only[Yb];rw[sepV];rfl
    ·simp only[Yb];rw[sepV];rfl
    ·show decide ((wdN op::vSp::_).length<(vSp::wdN op::vSp::_).length)=true;exact Ga (by simp)
  obtain⟨r',e1,e2,e3⟩:=hs2;rw[e,show(!(b::bs).isEmpty)=true from rfl,VG,hw,e1];have hsp1:sp (vSp::b::r')=b::r':=by show(vSp::b::r').dropWhile isSp=_;rw[Bc,Ka (show isSp vSp=true from rfl),Bc,Ia (by rw[hb];decide)]
  rw[hsp1,Ga (show(b::r').length<(vSp::b::r').length by simp)];simp only[vg,Da,ht];rw[e3,e2,ih];rfl
 |[],_::_,h,_,_,_=>by simp at h
 |_::_,[],h,_,_,_=>by simp at h
def bk(c:zf):zb:=bif c.kind==7 then blk (vlD c.decl)else bif c.kind==8 then blk [wdN unkN]else blk (vlC c)
theorem rZ(c:zf):(bif Qk c then vlC c else [blk (vlC c)])=[bk c]:=by
 obtain⟨k,n,m,d,l⟩:=c;unfold Qk bk;simp only;cases h7:k==7 with
 |true=>rw[vlC,h7];rfl
 |false=>
  cases h8:k==8 with
  |true=>rw[vlC,h7,h8];rfl
  |false=>rfl
theorem Um(c:zf):(bk c).token=tkOp:=by unfold bk;cases c.kind==7<;>cases c.kind==8<;>rfl
theorem u7(l:List zf):viCs l=(l.map bk).map fun b=>[b]:=by rw[Jw,mh];exact He fun c _=>rZ c
theorem pR{c:zf}(hb:Pg c=true):c=⟨c.kind,[],0,noDC,c.list⟩:=by obtain⟨k,n,m,⟨dn,dv,di⟩,l⟩:=c;unfold Pg Vj at hb;simp only[Ca,Bb,Uc,Lc]at hb;obtain⟨rfl,rfl,rfl,rfl,rfl⟩:=hb;rfl
theorem N9{x:List zb}{a:zb}{r:List zb}(h:trimS x=a::r)(ha:(a.token.kind==1)=false\/ ∃b t,r.dropWhile isSp=b::t/\(b.token.kind==16)=false):oneO x=none:=by
 unfold oneO oneS;rw[h];simp only;rcases ha with ha|⟨b,t,e,hb⟩
 ·rw[ha];rfl
 ·cases a.token.kind==1 with
  |false=>rfl
  |true=>rw[Da,e];simp only;rw[hb];rfl
theorem SS{a:zb}{r:List zb}(ha:isSp a=false): ∃q,trimS (a::r)=a::q/\ ∃s,r=q++s/\ ∀x∈s,isSp x=true:=by
 obtain⟨u,hu⟩:=YK (a::r);have e:trimS (a::r)=trimB (a::r):=by show trimB ((a::r).dropWhile isSp)=_;rw[Bc,Ia (by rw[ha];decide)]
 obtain⟨w,h1,h2,_⟩:=tL (a::r);rw[e];cases hq:trimB (a::r)with
 |nil=>
  rw[hq,Pb]at h1;have:=h2 a (by rw[<-h1];simp);rw[ha]at this;cases this
 |cons b q=> rw[hq,Sa]at h1;injection h1 with h3 h4;subst h3;exact⟨q,rfl,w,h4,h2⟩
theorem zIO{y:zf}(hs:supC y=true)(h7:(y.kind==7)=false)(h8:(y.kind==8)=false):oneO (vlC y)=none:=by
 have hs0:=hs;rw[Jj,h7,h8,Ba,Ba]at hs;simp only[Ca,aa]at hs;obtain⟨hk,_,hl,_⟩:=hs;obtain⟨k,n,m,d,l⟩:=y;simp only at h7 h8 hk hl;rw[vlC,h7,h8,Ba,Ba,u7];cases l with
 |nil=>cases k==3<;>simp at hl
 |cons c r=>
  cases h3:k==3 with
  |true=>
   rw[Da];obtain⟨q,e1,s,e2,e3⟩:=SS (a:=wdN [110,111,116]) (r:=vSp::((List.map bk (c::r)).map fun b=>[b]).headD []) rfl;refine N9 e1 (.inr ?_);have e2:vSp::[bk c]=q++s:=e2;have hb:isSp (bk c)=false:=by unfold isSp;rw[Um];rfl
   cases q with
   |nil=>rw[Pb]at e2;rw[<-e2]at e3;have:=e3 (bk c) (by simp);rw[hb]at this;cases this
   |cons q0 q1=>
    injection e2 with e4 e5;cases q1 with
    |nil=>
     have e5:[bk c]=s:=e5;have:=e3 (bk c) (by rw[<-e5];simp);rw[hb]at this;cases this
    |cons q2 q3=> injection e5 with e6 _;subst e4;subst e6;refine⟨bk c,q3,?_,by rw[Um];rfl⟩;rw[Bc,Ka (show isSp vSp=true from rfl),Bc,Ia (by rw[hb];decide)]
  |false=>
   rw[Ba];have key: ∀w,oneO (sepV w ((List.map bk (c::r)).map fun b=>[b]))=none:=fun w=>by
    have hb:isSp (bk c)=false:=by unfold isSp;rw[Um];rfl
    have: ∃t,sepV w ((List.map bk (c::r)).map fun b=>[b])=bk c::t:=by
     cases r with
     |nil=>exact⟨[],rfl⟩
     |cons c2 r2=>simp only[Yb];rw[sepV];exact⟨_,rfl⟩
    obtain⟨t,e⟩:=this;rw[e];obtain⟨q,e1,_⟩:=SS (a:=bk c) (r:=t) hb;exact N9 e1 (.inl (by rw[Um];rfl))
   cases k==2 with
   |true=>exact key _
   |false=>exact key _
theorem zC0{c:zf}(hs:supC c=true):((c.kind==7||c.kind==8)=false->Mh (vlC c)=some c)/\mg Mh (bk c)=some c:=by
 have key: ∀(n:Nat) (c:zf),sizC c<=n->supC c=true->((c.kind==7||c.kind==8)=false->Mh (vlC c)=some c)/\mg Mh (bk c)=some c:=by
  intro n
  induction n with
  |zero=>intro c hc;have:=Qe c;omega
  |succ n ih=>
   intro c hc hs;have hsz:=QD c;have hs0:=hs;rw[Jj]at hs;have hm: ∀y∈c.list,sizC y<=n:=fun y hy=>by have:=Qx hy;omega
   have h21:((bk c).token.kind==2)=false/\((bk c).token.kind==21)=true:=by rw[Um];exact⟨rfl,rfl⟩
   cases h7:c.kind==7 with
   |true=>
    rw[h7,Da]at hs;simp only[Ca,Bb,Uc]at hs;refine⟨fun h=>by simp at h,?_⟩;unfold mg;rw[h21.1,h21.2,Ba,Da];have e:(bk c).list=vlD c.decl:=by unfold bk;rw[h7];rfl
    have ho:oneO (vlD c.decl)=some c.decl:=by unfold oneO;rw[zH9 hs.2.2.2];rfl
    rw[e,ho];obtain⟨k,nm,m,d,l⟩:=c;obtain⟨rfl,rfl,rfl,_⟩:=hs;rw[show k=7 from eq_of_beq h7];rfl
   |false=>
    cases h8:c.kind==8 with
    |true=>
     rw[h7,h8,Ba,Da]at hs;simp only[Ca,Uc]at hs;refine⟨fun h=>by simp at h,?_⟩;unfold mg;rw[h21.1,h21.2,Ba,Da];have e:(bk c).list=[wdN unkN]:=by unfold bk;rw[h7,h8];rfl
     have ho:oneO [wdN unkN]=none:=by decide+kernel
     have ht:Mh [wdN unkN]=none:=by rw[nz];rfl
     rw[e,ho];simp only[ht];rw[pR hs.2,hs.1,eq_of_beq h8];rfl
    |false=>
     have hto:Mh (vlC c)=some c:=by
      rw[h7,h8,Ba,Ba]at hs;simp only[Ca,aa]at hs;obtain⟨hk,hb,hl,ha⟩:=hs;have hce:=pR hb;have hbs: ∀y,isSp (bk y)=false:=fun y=>by unfold isSp;rw[Um];rfl
      have hsp: ∀y t,sp (vSp::bk y::t)=bk y::t:=fun y t=>by show(vSp::bk y::t).dropWhile isSp=_;rw[Bc,Ka (show isSp vSp=true from rfl),Bc,Ia (by rw[hbs];decide)]
      have hsp0: ∀y t,sp (bk y::t)=bk y::t:=fun y t=>by show(bk y::t).dropWhile isSp=_;rw[Bc,Ia (by rw[hbs];decide)]
      have hnw: ∀w y,isW w (bk y)=false:=fun w y=>by unfold isW;rw[Um];rfl
      have iht: ∀y∈c.list,mg Mh (bk y)=some y:=fun y hy=>(ih y (hm y hy) (ha y hy)).2;generalize hkk:c.kind=k at*;generalize hll:c.list=l at*;have hvl:vlC c=bif k==3 then wdN [110,111,116]::vSp::(viCs l).headD []else bif k==2 then sepV [111,114] (viCs l)else sepV [97,110,100] (viCs l):=by rw[hce,vlC,h7,h8];rfl
      rw[hvl,u7,nz];cases l with
      |nil=>cases k==3<;>simp at hl
      |cons y r=>
       cases h3:k==3 with
       |true=>
        rw[h3,Da]at hl;cases r with
        |cons z r=>simp at hl
        |nil=> rw[Da];unfold Ni;show(bif isW notW (wdN [110,111,116])then _ else _)=_;rw[show isW notW (wdN [110,111,116])=true by decide+kernel,Da];have e:sp (vSp::(List.map (fun b=>[b]) (List.map bk [y])).headD [])=[bk y]:=hsp y [];rw[e];show(bif decide (1<2)&&(sp []).isEmpty then(Sj Mh [bk y]).map notC else none)=_;show(Sj Mh [bk y]).map notC=_;unfold Sj;simp only;rw[iht y (by simp),hce,eq_of_beq h3];rfl
       |false=>
        rw[h3,Ba]at hl;rw[Ba];cases r with
        |nil=>simp at hl
        |cons z r=>
         have go: ∀(w:Str),lowS w=w->Ni Mh (sepV w ((List.map bk (y::z::r)).map fun b=>[b]))=bif isW orW (wdN w)then(xg Mh orW true ((sepV w ((List.map bk (y::z::r)).map fun b=>[b])).drop 2)).map fun q=>orC (y::q)else(xg Mh andW true ((sepV w ((List.map bk (y::z::r)).map fun b=>[b])).drop 2)).map fun q=>allC (y::q):=fun w hw=>by simp only[Yb];rw[sepV];unfold Ni;rw[show [bk y]++(vSp::wdN w::vSp::sepV w ([bk z]::(List.map bk r).map fun b=>[b]))=bk y::vSp::wdN w::vSp::sepV w ([bk z]::(List.map bk r).map fun b=>[b])from rfl,hsp0];simp only[hnw,Ba,iht y (by simp)];rw[show sp (vSp::wdN w::vSp::sepV w ([bk z]::(List.map bk r).map fun b=>[b]))=wdN w::vSp::sepV w ([bk z]::(List.map bk r).map fun b=>[b])from rfl];simp only;rw[Ga (by simp:(wdN w::vSp::sepV w ([bk z]::(List.map bk r).map fun b=>[b])).length<(vSp::wdN w::vSp::sepV w ([bk z]::(List.map bk r).map fun b=>[b])).length)];rfl
         have mb: ∀w:Str,lowS w=w->xg Mh w true ((sepV w ((List.map bk (y::z::r)).map fun b=>[b])).drop 2)=some (z::r):=fun w hw=>
          CU hw (bs:=List.map bk (z::r)) (xs:=z::r) (by simp) (fun b hb=>by obtain⟨x,_,rfl⟩:=Rb.1 hb;exact hbs x) (fun i b x hb hx=>by
           rw[Oa,hx]at hb;cases hb;exact iht x (ja _ (Kb hx))) (b0:=bk y)
         cases h2:k==2 with
         |true=> rw[Da,go [111,114] (by decide+kernel),show isW orW (wdN [111,114])=true by decide+kernel,Da,show(orW:Str)=[111,114]from rfl,mb [111,114] (by decide+kernel),hce,eq_of_beq h2];rfl
         |false=>
          have hk1:k=1:=by rw[h3,h2,Jc,Gd]at hk;exact eq_of_beq hk
          rw[Ba,go [97,110,100] (by decide+kernel),show isW orW (wdN [97,110,100])=false by decide+kernel,Ba,show(andW:Str)=[97,110,100]from rfl,mb [97,110,100] (by decide+kernel),hce,hk1];rfl
     refine⟨fun _=>hto,?_⟩;unfold mg;rw[h21.1,h21.2,Ba,Da];have e:(bk c).list=vlC c:=by unfold bk;rw[h7,h8];rfl
     rw[e,zIO hs0 h7 h8];simp only[hto]
 exact key _ c (Ua _) hs
set_option maxRecDepth 100000
def pxN:Str:=[112,120]
def dimT(m:Int):zg:=⟨12,[],m,pxN,m.natAbs%1000==0⟩
theorem zFm: ∀r,r<1000->(r==0||Ck r true==Ck r false)=true:=by decide+kernel
theorem zJo{m:Int}:txS (dimT m)=numT m false++pxN:=by
 unfold dimT;rw[Wp,show jg pxN=pxN by decide];congr 1;have h:=zFm (m.natAbs%1000) (pg _ (by omega));cases hf:m.natAbs%1000==0 with
 |true=>rfl
 |false=> rw[hf,Jc]at h;unfold numT ig;rw[Ta,eq_of_beq h]
theorem zDU{m:Int}(h0:0<=m)(h1:m<=1000000000000)(z:Str):Zb (numT m false++(pxN++41::z))=dimT m::Zb (41::z):=by
 have hp:PcT (txS (dimT m)) [dimT m]:= .one _ (.cDim m pxN _ (by omega) h1 (fun e=>by
  obtain⟨q,rfl⟩: ∃q:Nat,m=(q:Int):=⟨m.toNat,by omega⟩;have:=eq_of_beq e;show((q%1000:Nat):Int)=0;have e2:((q:Int)).natAbs=q:=rfl;rw[e2]at this;omega) (by decide) (by decide)) (fun e=>by cases e.1) rfl
 have:=I5 hp (M5 (show(12:Int)≠13 by decide)) (UO z);rw[zJo,La]at this;exact this
def LH:zg:=⟨18,[],0,[],false⟩
def lvC(y:zf):zb:=bif y.kind==4 then wdN y.name else blk [wdN (bif y.kind==5 then minW else maxW),leaf Gh,vSp,leaf (dimT y.num)]
def seqV(l:List zf):List zb:=sepV andW (l.map fun y=>[lvC y])
def innC(q:zf):List zf:=match q.list with
 |[]=>[]
 |y::_=>y.list
def Gg(q:zf):List zb:=bif q.kind==3 then wdN notW::vSp::seqV (innC q)else seqV q.list
def comV:List (List zb)->List zb
 |[]=>[]
 |[v]=>v
 |v::u::r=>v++(leaf LH::vSp::comV (u::r))
def mvC(c:zf):List zb:=comV (c.list.map Gg)
def hdT(s:Str):Prop:= ∃c r,s=c::r/\spB c=false
theorem DF{s:Str}(h:hdT s)(z:Str):past spB (s++z)=s++z:=by obtain⟨c,r,rfl,hc⟩:=h;show past spB (c::_)=c::_;rw[past,hc];rfl
theorem zAL{s:Str}(h:hdT s)(z:Str):hdT (s++z):=by obtain⟨c,r,rfl,hc⟩:=h;exact⟨c,_,rfl,hc⟩
theorem zEb{n:Str}(h0:n≠[]):hdT (ZB n):=by have hn:=Wj h0;obtain⟨c,r,e⟩:=Si (Kk hn);have h1:=(jr (oo hn)).1;rw[e]at h1 ⊢;exact⟨c,r,rfl,h1⟩
theorem NG{f:Bool}{y:zf}(h:ag f y=true):(y.kind=4/\f=true/\y=medC y.name/\medS y.name=true)\/((y.kind=5\/y.kind=6)/\y=⟨y.kind,[],y.num,noDC,[]⟩/\0<=y.num/\y.num<=1000000000000/\isN y.num=true):=by
 obtain⟨k,n,m,d,l⟩:=y;obtain⟨dn,dv,di⟩:=d;unfold ag Vj at h;simp only[Ca,Vb,Bb,Uc,Lc,Ab]at h;obtain⟨rfl,⟨rfl,rfl,rfl⟩,h⟩:=h;rcases h with⟨hf,hk,hm,hs⟩|⟨hk,hn,h0,hN⟩
 ·left;subst hk;subst hm;exact⟨rfl,hf,rfl,hs⟩
 ·right;subst hn;refine⟨hk,rfl,h0,?_,hN⟩;unfold isN at hN;rw[Ca]at hN;exact Ac hN.2
theorem tN{n:Str}(h:medS n=true):n≠[]/\Zy n=true/\lowS n=n/\(n==notW)=false/\(n==au)=false:=by unfold medS keyS at h;simp only[Ca,Lc,ic,Bb,Ab]at h;obtain⟨⟨h0,_,_,h1,h2⟩,_,h3,h4⟩:=h;exact⟨(by intro e;rw[e]at h0;cases h0),h4,h3,h1,h2⟩
theorem zBr:ZB minW=minW:=by decide+kernel
theorem zBo:ZB maxW=maxW:=by decide+kernel
theorem zAt{w:Str}(hw:ZB w=w)(h0:w≠[])(hn:Zy w=true){m:Int}(m0:0<=m)(m1:m<=1000000000000)(z:Str):
  Zb (40::(w++58::32::(numT m false++(pxN++41::z))))=tokL [blk [wdN w,leaf Gh,vSp,leaf (dimT m)]]++Zb z:=by
 have hid:=Pn (n:=w) (y:=58::32::(numT m false++(pxN++41::z))) h0 hn (.inr ⟨_,_,rfl, .inl rfl⟩);rw[hw]at hid;obtain⟨c,r,e,_,hc,_⟩:=Gp m false (pxN++41::z);have hp:past spB (numT m false++(pxN++41::z))=numT m false++(pxN++41::z):=by rw[e];show past spB (c::_)=c::_;rw[past,hc];rfl
 rw[M9,hid,UA (k:=16) (by decide) (by decide) rfl (by decide),Cm,hp,zDU m0 m1,bP,xQ];rw[wdN,qd rfl,qd rfl,show vSp=leaf tkSp from rfl,qd rfl,qd rfl,tokL];rfl
theorem eT{f:Bool}{y:zf}(h:ag f y=true):(∀z,sfx z->Zb (medT y++z)=tokL [lvC y]++Zb z)/\hdT (medT y):=by
 rcases NG h with⟨hk,_,e,hm⟩|⟨hk,e,m0,m1,_⟩
 ·obtain⟨h0,hn,_⟩:=tN hm;have et:medT y=ZB y.name:=by rw[e,medC,medT];rfl
  have ev:lvC y=wdN y.name:=by unfold lvC;rw[hk];rfl
  rw[et,ev];refine⟨fun z hz=> ?_,zEb h0⟩;rw[Pn h0 hn hz,wdN,qd rfl,tokL];rfl
 ·have et:medT y=(bif y.kind==5 then uk else Al)++numT y.num false++pxW:=by rw[e,medT];rcases hk with hk|hk<;>rw[hk]<;>rfl
  have ev:lvC y=blk [wdN (bif y.kind==5 then minW else maxW),leaf Gh,vSp,leaf (dimT y.num)]:=by unfold lvC;rcases hk with hk|hk<;>rw[hk]<;>rfl
  rw[et,ev];have hw: ∀b:Bool,ZB (bif b then minW else maxW)=(bif b then minW else maxW)/\(bif b then minW else maxW)≠[]/\Zy (bif b then minW else maxW)=true:=fun b=>by
   cases b
   ·exact⟨zBo,by decide,by decide⟩
   ·exact⟨zBr,by decide,by decide⟩
  obtain⟨w1,w2,w3⟩:=hw (y.kind==5);refine⟨fun z _=> ?_,(by
   cases y.kind==5
   ·exact⟨40,_,rfl,rfl⟩
   ·exact⟨40,_,rfl,rfl⟩)⟩
  rw[<-zAt w1 w2 w3 m0 m1];congr 1;cases y.kind==5<;>simp[uk,Al,pxW,pxN]
theorem bQ: ∀{l:List zf},l≠[]->(∀y∈l,∃f,ag f y=true)->(∀z,sfx z->Zb (jn and5 (l.map medT)++z)=tokL (seqV l)++Zb z)/\hdT (jn and5 (l.map medT))
 |[],h,_=>absurd rfl h
 |[y],_,h=>by obtain⟨f,hf⟩:=h y (by simp);have:=eT hf;have e:jn and5 (List.map medT [y])=medT y:=Lib.join_one _ _;rw[e];exact this
 |y::y2::r,_,h=>by
  obtain⟨f,hf⟩:=h y (by simp);obtain⟨t1,t2⟩:=eT hf;obtain⟨i1,i2⟩:=bQ (l:=y2::r) (by simp) fun x hx=>h x (ja _ hx);have e:jn and5 ((y::y2::r).map medT)=medT y++32::(andW++32::jn and5 ((y2::r).map medT)):=by simp[jn,List.intercalate,and5]
  refine⟨fun z hz=> ?_,by rw[e];exact zAL t2 _⟩;have hn:ZB andW=andW:=by decide+kernel
  have hand:hdT andW:=⟨97,[110,100],rfl,rfl⟩;have hid:=Pn (n:=andW) (by decide) (by decide) (tu (jn and5 ((y2::r).map medT)++z));rw[hn]at hid;have e2:medT y++32::(andW++32::jn and5 ((y2::r).map medT))++z=medT y++32::(andW++32::(jn and5 ((y2::r).map medT)++z)):=by simp
  rw[e,e2,t1 _ (tu _),Cm,DF hand,hid,Cm,DF i2,i1 z hz];show _=tokL ([lvC y]++(vSp::wdN andW::vSp::seqV (y2::r)))++Zb z;rw[Us,show vSp=leaf tkSp from rfl,qd rfl,wdN,qd rfl,qd rfl];simp
theorem yI{q:zf}(h:qL q=true):q=allC q.list/\q.list≠[]/\Dq q.list=true:=by obtain⟨k,n,m,d,l⟩:=q;obtain⟨dn,dv,di⟩:=d;unfold qL Pg Vj at h;simp only[Ca,Bb,Uc,Lc,List.isEmpty_eq_false_iff]at h;obtain⟨rfl,⟨rfl,rfl,rfl,rfl,rfl⟩,hl,hv⟩:=h;exact⟨rfl,hl,hv⟩
theorem G7{q:zf}(h:Vg q=true):(qL q=true/\q.kind=1)\/ ∃y,q=notC y/\qL y=true/\jm y=true:=by
 have ha:=h;unfold Vg at h;cases h3:q.kind==3 with
 |false=> rw[h3,Ba]at h;exact .inl ⟨h,by have:=h;unfold qL at this;rw[Ca]at this;exact eq_of_beq this.1⟩
 |true=>
  rw[h3,Da,Ca]at h;obtain⟨hb,h⟩:=h;obtain⟨k,n,m,d,l⟩:=q;obtain⟨dn,dv,di⟩:=d;unfold Pg Vj at hb;simp only[Ca,Bb,Uc,Lc]at hb;obtain⟨rfl,rfl,rfl,rfl,rfl⟩:=hb;have hk:k=3:=eq_of_beq h3;subst hk;simp only at h
  match l,h with
  |[],h=>cases h
  |[y],h=>rw[Ca]at h;exact .inr ⟨y,rfl,h.1,h.2⟩
  |_::_::_,h=>cases h
theorem TL{q:zf}(h:Vg q=true):(∀z,sfx z->Zb (medT q++z)=tokL (Gg q)++Zb z)/\hdT (medT q):=by
 have one: ∀q:zf,qL q=true->medT q=jn and5 (q.list.map medT)/\(∀z,sfx z->Zb (jn and5 (q.list.map medT)++z)=tokL (seqV q.list)++Zb z)/\hdT (jn and5 (q.list.map medT)):=fun q hq=>by obtain⟨e,hl,hv⟩:=yI hq;refine⟨by rw[e,allC,medT,Pt];rfl,?_⟩;exact bQ hl fun y hy=>yw hv hy
 rcases G7 h with⟨hq,hk⟩|⟨y,rfl,hq,_⟩
 ·obtain⟨e,h1,h2⟩:=one q hq;have ev:Gg q=seqV q.list:=by unfold Gg;rw[hk];rfl
  rw[e,ev];exact⟨h1,h2⟩
 ·obtain⟨e,h1,h2⟩:=one y hq;have et:medT (notC y)=notW++32::jn and5 (y.list.map medT):=by rw[notC,medT,Mk,Mk,e];rfl
  have ev:Gg (notC y)=wdN notW::vSp::seqV y.list:=rfl;rw[et,ev];have hn:ZB notW=notW:=by decide+kernel
  refine⟨fun z hz=> ?_,⟨110,_,rfl,rfl⟩⟩;have hid:=Pn (n:=notW) (by decide) (by decide) (tu (jn and5 (y.list.map medT)++z));rw[hn]at hid;rw[La];show Zb (notW++32::(jn and5 (y.list.map medT)++z))=_;rw[hid,Cm,DF h2,h1 z hz,show vSp=leaf tkSp from rfl,wdN,qd rfl,qd rfl];rfl
theorem rR: ∀{l:List zf},(∀q∈l,Vg q=true)->Zb (jn cma2 (l.map medT))=tokL (comV (l.map Gg))
 |[],_=>by show Zb []=tokL [];rw[Rv,tokL]
 |[q],h=>by have:=(TL (h q (by simp))).1 [] (.inl rfl);rw[Xa,Rv,Xa]at this;rw[show jn cma2 (List.map medT [q])=medT q from Lib.join_one _ _,this];rfl
 |q::q2::r,h=>by
  have t1:=(TL (h q (by simp))).1;have ih:=rR (l:=q2::r) fun x hx=>h x (ja _ hx);have hh:hdT (jn cma2 ((q2::r).map medT)):=by
   have:=(TL (h q2 (by simp))).2;cases r with
   |nil=>rw[show jn cma2 (List.map medT [q2])=medT q2 from Lib.join_one _ _];exact this
   |cons a t=> have e:=Lib.join_cons (medT q2) ((a::t).map medT) cma2;rw[show jn cma2 ((q2::a::t).map medT)=_ from e];exact zAL this _
  have e:jn cma2 ((q::q2::r).map medT)=medT q++44::32::jn cma2 ((q2::r).map medT):=by simp[jn,List.intercalate,cma2]
  have hp:=DF hh [];rw[Xa]at hp;rw[e,t1 _ (zKr _),UA (k:=18) (by decide) (by decide) rfl (by decide),Cm,hp,ih];show _=tokL (Gg q++(leaf LH::vSp::comV ((q2::r).map Gg)));rw[Us,qd rfl,show vSp=leaf tkSp from rfl,qd rfl];rfl
theorem zEE{c:zf}(h:Zu c=true):Zb (medT c)=tokL (mvC c):=by
 have h0:=h;unfold Zu at h;simp only[Ca,Vb,Bb,Uc,aa]at h;unfold mvC;obtain⟨k,n,m,d,l⟩:=c;simp only at h ⊢;rcases h.2 with⟨rfl,rfl⟩|⟨rfl,_,_,ha⟩
 ·rw[medT,Mk];show Zb []=tokL [];rw[Rv,tokL]
 ·rw[medT,Pt];exact rR ha
theorem kU{y:zf}(hk:y.kind=5\/y.kind=6)(e:y=⟨y.kind,[],y.num,noDC,[]⟩)(h0:0<=y.num)(hN:isN y.num=true):bi (lvC y)=some y:=by
 have hpx:pxS (dimT y.num)=true:=by unfold pxS dimT;rw[hN,Ga h0];rfl
 have hK: ∀k:Int,Ep k [leaf Gh,vSp,leaf (dimT y.num)]=some ⟨k,[],y.num,noDC,[]⟩:=fun k=>by unfold Ep;show(bif ((sp []).isEmpty&&pxS (dimT y.num))then some (⟨k,[],(dimT y.num).num,noDC,[]⟩:zf)else none)=_;rw[hpx];rfl
 rcases hk with hk|hk
 ·have ev:lvC y=blk [wdN minW,leaf Gh,vSp,leaf (dimT y.num)]:=by unfold lvC;rw[hk];rfl
  rw[ev];refine Eq.trans (b:=Ep 5 [leaf Gh,vSp,leaf (dimT y.num)]) rfl ?_;rw[hK,<-hk,<-e]
 ·have ev:lvC y=blk [wdN maxW,leaf Gh,vSp,leaf (dimT y.num)]:=by unfold lvC;rw[hk];rfl
  rw[ev];refine Eq.trans (b:=Ep 6 [leaf Gh,vSp,leaf (dimT y.num)]) rfl ?_;rw[hK,<-hk,<-e]
def Xl(l:List zf):List zb:=l.flatMap fun y=>[vSp,wdN andW,vSp,lvC y]
theorem Xn: ∀(y:zf) (l:List zf),seqV (y::l)=lvC y::Xl l
 |y,[]=>rfl
 |y,x::r=>by show [lvC y]++(vSp::wdN andW::vSp::seqV (x::r))=_;rw[Xn x r];rfl
theorem RH{y:zf}:isSp (lvC y)=false:=by unfold lvC;cases y.kind==4<;>rfl
theorem wS: ∀{l:List zf},(∀y∈l,bi (lvC y)=some y)->Rj (Xl l)=some l
 |[],_=>by rw[Tq];rfl
 |y::r,h=>by
  have hf:=h y (by simp);have ih:=wS (l:=r) fun x hx=>h x (ja _ hx);rw[Tq];have e1:sp (Xl (y::r))=wdN andW::vSp::lvC y::Xl r:=rfl;have e2:sp (vSp::lvC y::Xl r)=lvC y::Xl r:=by show sp (lvC y::Xl r)=_;rw[En,RH,Ia (by simp)]
  have e3:isW andW (wdN andW)=true:=by decide
  simp only[e1,e2,e3,Da,hf,ih,jc]
theorem lV{y:zf}{r:List zf}(h:Dq (y::r)=true):ag true y=true/\ ∀x∈r,ag false x=true:=by
 unfold Dq at h;rw[aa]at h;refine⟨?_,fun x hx=> ?_⟩
 ·exact h 0 (Ad.2 (by simp))
 ·obtain⟨i,hi,rfl⟩:=Fg hx;have:=h (i+1) (Ad.2 (by simp;omega));rw[List.getD_cons_succ,Mf,Ya hi]at this;exact this
theorem zA6{x:zf}(h:ag false x=true):bi (lvC x)=some x:=by
 rcases NG h with⟨_,hf,_⟩|⟨hk,e,m0,_,hN⟩
 ·cases hf
 ·exact kU hk e m0 hN
theorem gU{y:zf}{r:List zf}(h:Dq (y::r)=true)(not only:Bool)(ho:only=true->y.kind=4):vo not only (seqV (y::r))=some (bif not then notC (allC (y::r))else allC (y::r)):=by
 obtain⟨h1,h2⟩:=lV h;have hr:=wS fun x hx=>zA6 (h2 x hx);have hf:Dv only (seqV (y::r))=some y:=by
  rw[Xn];rcases NG h1 with⟨hk,_,e,hm⟩|⟨hk,e,m0,_,hN⟩
  ·have ev:lvC y=wdN y.name:=by unfold lvC;rw[hk];rfl
   have hlow:=(tN hm).2.2.1;rw[ev];show(bif medS (lowS y.name)then some (medC (lowS y.name))else none)=_;rw[hlow,hm,Da,<-e]
  ·have hb:=kU hk e m0 hN;have hk4:((lvC y).token.kind==1)=false:=by unfold lvC;rcases hk with hk|hk<;>rw[hk]<;>rfl
   have ho:only=false:=by
    cases only with
    |false=>rfl
    |true=>have:=ho rfl;rcases hk with hk|hk<;>rw[hk]at this<;>cases this
   show(bif (lvC y).token.kind==1 then _ else bif only then none else bi (lvC y))=_;rw[hk4,ho,Ba,Ba,hb]
 unfold vo;rw[hf,Xn];simp only[Ef,hr]
theorem zyP{y:zf}(h:jm y=true): ∃x r,y.list=x::r/\x.kind=4:=by
 unfold jm at h;split at h
 ·cases h
 ·rename_i x r e;exact⟨x,r,e,eq_of_beq h⟩
theorem CV{q:zf}(h:Vg q=true):Lh (Gg q)=some q/\ ∃v r,Gg q=v::r/\isSp v=false:=by
 rcases G7 h with⟨hq,hk⟩|⟨y,rfl,hq,hnm⟩
 ·obtain⟨e,hl,hv⟩:=yI hq;have ev:Gg q=seqV q.list:=by unfold Gg;rw[hk];rfl
  obtain⟨y,r,el⟩:=List.exists_cons_of_ne_nil hl;rw[el]at hv e ev;rw[ev];have hs:sp (seqV (y::r))=seqV (y::r):=by rw[Xn,En,RH,Ia (by simp)]
  have hw: ∀s:Str,(s=notW\/s=au)->headW s (seqV (y::r))=false:=fun s hs=>by
   rw[Xn];show isW s (lvC y)=false;rcases NG (lV hv).1 with⟨hk,_,_,hm⟩|⟨hk,_⟩
   ·have evy:lvC y=wdN y.name:=by unfold lvC;rw[hk];rfl
    obtain⟨_,_,hlow,a,b⟩:=tN hm;rw[evy];show((1:Int)==1&&lowS y.name==s)=false;rw[hlow];rcases hs with rfl|rfl
    ·rw[a];rfl
    ·rw[b];rfl
   ·unfold lvC;rcases hk with hk|hk<;>rw[hk]<;>rfl
  refine⟨?_,lvC y,Xl r,Xn y r,RH⟩;unfold Lh;rw[hs,hw _ (.inl rfl),hw _ (.inr rfl),Ba,Ba,gU hv false false (fun e=>by cases e),<-e];rfl
 ·obtain⟨e,hl,hv⟩:=yI hq;obtain⟨x,r,el,hk4⟩:=zyP hnm;have ev:Gg (notC y)=wdN notW::vSp::seqV y.list:=rfl;rw[el]at hv e ev;rw[ev];refine⟨?_,_,_,rfl,rfl⟩;have e1:sp (wdN notW::vSp::seqV (x::r))=wdN notW::vSp::seqV (x::r):=rfl;have e2:sp (vSp::seqV (x::r))=seqV (x::r):=by show sp (seqV (x::r))=_;rw[Xn,En,RH,Ia (by simp)]
  have e3:headW notW (wdN notW::vSp::seqV (x::r))=true:=by show isW notW (wdN notW)=true;decide
  unfold Lh;rw[e1,e3,Da,Ef,e2,gU hv true true (fun _=>hk4),Da,<-e]
theorem LJ{k:Int}: ∀(v:List zb) (a:List (List zb)×List zb),(∀x∈v,(x.token.kind==k)=false)->v.foldl (bg k) a=(a.1,a.2++v)
 |[],a,_=>by rw[List.foldl_nil,Xa]
 |x::r,a,h=>by rw[Ee,show bg k a x=(a.1,a.2++[x]) by unfold bg;rw[h x (by simp)];rfl,LJ r _ fun y hy=>h y (ja _ hy),La];rfl
def NoC(v:List zb):Prop:= ∀x∈v,(x.token.kind==18)=false
theorem nR: ∀(vs:List (List zb)) (a:List (List zb)) (b:List zb),(∀v∈vs,NoC v)->vs≠[]-> ∃v r,vs=v::r/\(comV vs).foldl (bg 18) (a,b)=(a++((b++v)::r.map (vSp:: ·)).dropLast,((b++v)::r.map (vSp:: ·)).getLast (by simp))
 |[],_,_,_,h=>absurd rfl h
 |[v],a,b,h,_=>⟨v,[],rfl,by rw[comV,LJ v _ (h v (by simp))];simp⟩
 |v::u::r,a,b,h,_=>by refine⟨v,u::r,rfl,?_⟩;obtain⟨v',r',e',ih⟩:=nR (u::r) (a++[b++v]) [vSp] (fun x hx=>h x (ja _ hx)) (by simp);injection e' with e1 e2;subst e1;subst e2;rw[comV,List.foldl_append,LJ v _ (h v (by simp)),Ee];have s1:bg 18 (a,b++v) (leaf LH)=(a++[b++v],[]):=rfl;rw[s1,Ee,show bg 18 (a++[b++v],[]) vSp=(a++[b++v],[vSp])from rfl,ih];simp
theorem zz5{v:List zb}{r:List (List zb)}(h: ∀x∈v::r,NoC x):ji 18 (comV (v::r))=v::r.map (vSp:: ·):=by obtain⟨v',r',e,hc⟩:=nR (v::r) [] [] h (by simp);injection e with e1 e2;subst e1;subst e2;unfold ji Og;rw[hc];simp only[Pb];exact List.dropLast_concat_getLast _
theorem l5(y:zf):((lvC y).token.kind==18)=false:=by unfold lvC;cases y.kind==4<;>rfl
theorem A8(l:List zf):NoC (seqV l):=by
 cases l with
 |nil=>intro x hx;cases hx
 |cons y r=>
  rw[Xn];intro x hx;rcases Jb.1 hx with rfl|hx
  ·exact l5 y
  ·obtain⟨z,_,hz⟩:=Pd.1 hx;simp only[Jb,Yd,Hg]at hz;rcases hz with rfl|rfl|rfl|rfl
   ·rfl
   ·rfl
   ·rfl
   ·exact l5 z
theorem jZ(q:zf):NoC (Gg q):=by
 unfold Gg;cases q.kind==3 with
 |false=>exact A8 _
 |true=>
  intro x hx;rcases Jb.1 hx with rfl|hx
  ·rfl
  rcases Jb.1 hx with rfl|hx
  ·rfl
  ·exact A8 _ x hx
structure FlV (v:List zb):Prop where
 s:ShB v
 d:ZP v<=1
theorem Nq{t:zg}(h:zC t.kind=0)(h2:(t.kind==22)=false){r:List zb}(hr:FlV r):FlV (leaf t::r):=⟨QQ h h2 hr.s,by rw[qJ h];exact hr.d⟩
theorem dD:FlV []:=⟨Jn,by rw[ZP];omega⟩
theorem FlV.app{a b:List zb}(ha:FlV a)(hb:FlV b):FlV (a++b):=⟨ha.s.app hb.s,by rw[uA];exact Nat.max_le.2 ⟨ha.d,hb.d⟩⟩
theorem tZ(y:zf):FlV [lvC y]:=by
 unfold lvC;cases y.kind==4 with
 |true=>exact Nq rfl rfl dD
 |false=>
  have hz:ZP [wdN (bif y.kind==5 then minW else maxW),leaf Gh,vSp,leaf (dimT y.num)]=0:=by rw[wdN,qJ rfl,qJ rfl,show vSp=leaf tkSp from rfl,qJ rfl,qJ rfl,ZP]
  exact⟨TE (QQ rfl rfl (QQ rfl rfl (show ShB (vSp::_)from QQ (t:=tkSp) rfl rfl (QQ rfl rfl Jn)))),by rw[Ba,MF,hz];omega⟩
theorem W9: ∀l:List zf,FlV (Xl l)
 |[]=>dD
 |y::r=>by have h:FlV (vSp::wdN andW::vSp::([lvC y]++Xl r)):=Nq (t:=tkSp) rfl rfl (Nq rfl rfl (Nq (t:=tkSp) rfl rfl ((tZ y).app (W9 r))));exact h
theorem P7(l:List zf):FlV (seqV l):=by
 cases l with
 |nil=>exact dD
 |cons y r=> rw[Xn];exact(tZ y).app (W9 r)
theorem fl_q(q:zf):FlV (Gg q):=by
 unfold Gg;cases q.kind==3 with
 |false=>exact P7 _
 |true=>exact Nq rfl rfl (Nq (t:=tkSp) rfl rfl (P7 _))
theorem Jz: ∀l:List zf,FlV (comV (l.map Gg))
 |[]=>dD
 |[q]=>fl_q q
 |q::q2::r=>by have h:FlV (Gg q++(leaf LH::vSp::comV ((q2::r).map Gg))):=(fl_q q).app (Nq rfl rfl (Nq (t:=tkSp) rfl rfl (Jz (q2::r))));exact h
theorem zId(c:zf):parS (tokL (mvC c))=if 1500<(tokL (mvC c)).length then([],4)else(mvC c,0):=
 rQ ⟨(Jz c.list).s.1,Ob (Jz c.list).d (by omega)⟩
theorem zHk{c:zf}(h:(tokL (mvC c)).length<=1500):errS (mvC c)=0:=oK.2 ⟨Ob (Jz c.list).d (by omega),h,(Jz c.list).s.1⟩
theorem zED{c:zf}(h:Zu c=true)(hl:(tokL (mvC c)).length<=1500):lm (mvC c)=(c,0):=by
 have h0:=h;obtain⟨k,n,m,d,l⟩:=c;obtain⟨dn,dv,di⟩:=d;unfold Zu Pg Vj at h;simp only[Ca,Vb,Bb,Uc,aa,Lc,List.isEmpty_eq_false_iff,Ab]at h;obtain⟨⟨rfl,rfl,rfl,rfl,rfl⟩,h⟩:=h;unfold lm;rw[Ka (zHk hl)];rcases h with⟨rfl,rfl⟩|⟨rfl,hne,h64,ha⟩
 ·rfl
 ·cases l with
  |nil=>exact absurd rfl hne
  |cons q r=>
   have hq:=ha q (by simp);obtain⟨hb,v,t,ev,hv⟩:=CV hq;have em:mvC ⟨2,[],0,⟨[],[],false⟩,q::r⟩=comV (Gg q::r.map Gg):=rfl;have hcut:ji 18 (comV (Gg q::r.map Gg))=Gg q::(r.map Gg).map (vSp:: ·):=zz5 fun x hx=>by
    rcases Jb.1 hx with rfl|hx
    ·exact jZ q
    ·obtain⟨z,_,rfl⟩:=Rb.1 hx;exact jZ z
   have hsp:sp (comV (Gg q::r.map Gg))≠[]:=by
    have: ∃t',comV (Gg q::r.map Gg)=v::t':=by
     rw[ev];cases r with
     |nil=>exact⟨_,rfl⟩
     |cons a b=>exact⟨_,rfl⟩
    obtain⟨t',e⟩:=this;rw[e,En,hv,Ia (by simp)];simp
   rw[em,Ia hsp,hcut,Ia (by simp only[Fa,Ib]at h64 ⊢;omega)];unfold aD;rw[hcut,Yb,mh,mh,hb];have:r.map (((fun p=>orN (Lh p))∘(vSp:: ·))∘Gg)=r:=by
    have hc: ∀z∈r,(((fun p=>orN (Lh p))∘(vSp:: ·))∘Gg) z=z:=fun z hz=>by
     obtain⟨hbz,v2,t2,ez,hvz⟩:=CV (ha z (ja _ hz));show orN (Lh (vSp::Gg z))=z;have:Lh (vSp::Gg z)=Lh (Gg z):=by unfold Lh;rw[show sp (vSp::Gg z)=sp (Gg z)from rfl]
     rw[this,hbz];rfl
    exact(He hc).trans (List.map_id r)
   rw[this];rfl
end Go.Lv.VT
