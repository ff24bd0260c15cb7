/- nest: copies, trimming, parts (PlNest2, PlNest3, PlNest4 over the texts of seat .Z). -/
import Derived.Test.YtbgmaekmfjhfoaaGreatDoorXa
import Derived.Test.YtbgmaekmfjhfoaaGreatDoorMo
import Derived.KernelRfl
import Derived.Test.YtbgmaekmfjhfoaaGreatDoorXb
set_option linter.unusedSimpArgs false
set_option linter.unusedVariables false
namespace Go.Lv.VT
def szP:List (List za)->Nat
 |[]=>0
 |l::r=>1+szL l+szP r
theorem GU{v:List za}: ∀{l:List (List za)},v∈l->szL v<=szP l
 |[],h=>by cases h
 |x::l,h=>by
  rw[szP];rcases Db.1 h with rfl|h
  ·omega
  ·have:=GU h;omega
theorem IU: ∀(l:List (List za)),l.length<=szP l
 |[]=>Sa _
 |v::r=>by rw[szP,Da];have:=IU r;omega
theorem DW{R:Type}(x:Option R):both x x=x:=by unfold both;rw[Ka rfl]
theorem zBo{l:List za}(h:szL l<=big):DC l=some l:=by
 unfold DC;have hlen:=Mh l;unfold big at h;have hap:Zp 0 l.length 80=true:=ZU (by omega);cases l with
 |nil=>simp only[hap,DW,Zy,List.isEmpty_nil,Ca]
 |cons v r=>simp only[hap,Zy,List.isEmpty_cons,Ba]
theorem kD{l:List za}(h:szL l<=big):Mj l=some l:=by
 refine ai (fun l=>szL l) (fun l=>szL l<=big) (fun l=>l) (fun S l hl hS=> ?_) h;unfold WA;have hlen:=Mh l;simp only[ze,zBo hl,Aa];refine(Uo l (fun i (a:List za)=>((i:Int),a)) (fun v a=>some (.again a)) (fun a=>some (.out a)) (fun i a=>a=l) (a:=l) rfl rfl (fun i a hi hI=> ?_) (fun a hI=> ?_) (r:= .out l) ?_)
 ·subst hI;have hsz:=Jm (Nb hi);have hv2:=Wi a[i];refine⟨?_,fun a' ha=>by cases ha;rfl⟩;have h1:S a[i].list=some a[i].list:=hS a[i].list (by omega) (by omega);have h2:decide ((0:Int)<=(i:Int))=true:=Fa (by omega);have h3:a[i]? =some a[i]:=Ra hi;have h4:a.set i ⟨a[i].token,a[i].list⟩=a:=by
   have:(⟨a[i].token,a[i].list⟩:za)=a[i]:=by cases a[i];rfl
   rw[this,List.set_getElem_self]
  simp only[ZY hi,h2,Bool.and_self,Ca,Zy,Ib,h3,Aa,h1,h4,Zw hi (by omega),ib]
 ·subst hI;simp only[ZM,Ba];rfl
 ·rw[uo (fun a v=>a) (fun v a=>rfl)];congr 2;clear hl hS hlen h;generalize l=b at*;have: ∀(m b:List za),m.foldl (fun a _=>a) b=b:=by
   intro m
   induction m with
   |nil=>intro b;rfl
   |cons v m ih=>intro b;exact ih b
  exact this _ _
theorem YC{l:List za}{i:Nat}(h:i<l.length):Kw ((i:Int),l)=some (isSp l[i]):=by unfold Kw;simp only[ze,Zu h,Aa];rfl
theorem pF{l:List za}(h:szL l<=big):Xr l=some (if errS l=0 then(trimS l,0)else([],errS l)):=by
 unfold Xr;have hlen:=Mh l;simp only[ze,wo h,Aa];by_cases h1:errS l=0
 ·rw[Ka h1];have hne:(errS l != 0)=false:=by simp[h1]
  simp only[hne,Ba];have hdl:=List.Sublist.length_le (Ac isSp (l:=l));have hdd:=Vy isSp l;refine(qU (r:= .out ((l.length - (l.dropWhile isSp).length:Nat):Int)) (Qm (fun s=> ∃k:Nat,s=(k:Int)/\k<=l.length/\(l.drop k).dropWhile isSp=l.dropWhile isSp) (fun s=>l.length - s.toNat) _ (fun s hs=> ?_) ⟨0,rfl,Va _,rfl⟩)).trans ?_
  ·obtain⟨k,rfl,hk,he⟩:=hs;by_cases hlt:k<l.length
   ·rw[Fb hlt,Nc]at he;have hw:=Zw hlt (by unfold big at h ⊢;omega);cases hv:isSp l[k]with
    |true=> rw[Ka hv]at he;refine .inl ⟨((k+1:Nat):Int),?_,⟨k+1,rfl,hlt,he⟩,by omega⟩;simp only[ZY hlt,Zk,YC hlt,Aa,hv,Ca,hw]
    |false=>
     rw[Ha (by rw[hv];simp)]at he;refine .inr (.inl ⟨(k:Int),?_,?_⟩)
     ·simp only[ZY hlt,Zk,YC hlt,Aa,hv,Ca,Ba]
     ·rw[<-he];congr 1;simp;omega
   ·have hkk:k=l.length:=by omega
    subst hkk;rw[List.drop_length]at he;refine .inr (.inl ⟨(l.length:Int),?_,?_⟩)
    ·simp only[ZM,qI,Aa,Ba]
    ·rw[<-he];simp
  ·rw[znh];generalize hf:l.length - (l.dropWhile isSp).length=f at hdd;have hfl:f<=l.length:=by omega
   generalize l.dropWhile isSp=d at hdd;subst hdd;refine(qU (r:= .out ((f+(trimB (l.drop f)).length:Nat):Int)) (Qm (fun s=> ∃m:Nat,s=(m:Int)/\f<=m/\m<=l.length/\trimB ((l.take m).drop f)=trimB (l.drop f)) (fun s=>s.toNat) _ (fun s hs=> ?_) ⟨l.length,rfl,hfl,Sa _,by rw[Cf]⟩)).trans ?_
   ·obtain⟨m,rfl,hm1,hm2,he⟩:=hs;by_cases hlt:f<m
    ·have hm:m - 1<l.length:=by omega
     have hsn:(l.take m).drop f=(l.take (m - 1)).drop f++[l[m - 1]]:=by
      have:l.take m=l.take (m - 1)++[l[m - 1]]:=by
       have:=Lc hm
       rwa [show m - 1+1=m by omega]at this
      rw[this,Eg (by rw[Tc];omega)]
     rw[hsn,AA]at he;have h2:decide ((f:Int)<(m:Int))=true:=Fa (by omega);have hw:w64 ((m:Int) - 1)=((m - 1:Nat):Int):=by rw[w64,Qb (by omega) (by unfold big at h;omega)];omega
     cases hv:isSp l[m - 1]with
     |true=> rw[Ka hv]at he;refine .inl ⟨((m - 1:Nat):Int),?_,⟨m - 1,rfl,by omega,by omega,he⟩,by omega⟩;simp only[h2,Zk,hw,YC hm,Aa,hv,Ca]
     |false=>
      rw[Ha (by rw[hv];simp)]at he;refine .inr (.inl ⟨(m:Int),?_,?_⟩)
      ·simp only[h2,Zk,hw,YC hm,Aa,hv,Ca,Ba]
      ·rw[<-he];congr 1;simp;omega
    ·have hmm:m=f:=by omega
     subst hmm;have h2:decide ((m:Int)<(m:Int))=false:=Ta (by omega);refine .inr (.inl ⟨(m:Int),?_,?_⟩)
     ·simp only[h2,qI,Aa,Ba]
     ·rw[List.drop_eq_nil_of_le (by rw[Tc];omega),zAX]at he;rw[<-he];simp
   ·rw[znh];have htl:=List.Sublist.length_le (uj (l.drop f));rw[Vb]at htl;have hcut:List.drop f (List.take (f+(trimB (l.drop f)).length) l)=trimB (l.drop f):=by
     rw[List.drop_take];have: ∀d:List za,d.take (trimB d).length=trimB d:=by intro d;unfold trimB;rw[List.length_reverse];have h3:=Vy isSp d.reverse;have h4:=List.Sublist.length_le (Ac isSp (l:=d.reverse));rw[List.length_reverse]at h3 h4;rw[<-h3,List.drop_reverse,List.reverse_reverse];congr 1;simp
     have e:=this (l.drop f);rw[show f+(trimB (l.drop f)).length - f=(trimB (l.drop f)).length by omega];exact e
    have hneed:(decide ((0:Int)<=(f:Int))&&(decide ((f:Int)<=((f+(trimB (l.drop f)).length:Nat):Int))&&(decide (((f+(trimB (l.drop f)).length:Nat):Int)<=((f+(trimB (l.drop f)).length:Nat):Int))&&decide (((f+(trimB (l.drop f)).length:Nat):Int)<=(l.length:Int))))&&decide True)=true:=by simp only[Ea,Ua];refine⟨?_,trivial⟩;omega
    have hts:trimS l=trimB (l.drop f):=by unfold trimS;rw[<-Vy isSp l,hf]
    simp only[hneed,Zy,Ib,hcut,kD (ma (Al ((uj _).trans (List.drop_sublist _ _))) h),Aa,hts]
 ·rw[Ha h1];have hne:(errS l != 0)=true:=by simp[h1]
  simp only[hne,Ca]
def Vf(k:Int)(a:List (List za)×List za)(v:za):List (List za)×List za:=
 if v.token.kind==k then(a.1++[a.2],[])else(a.1,a.2++[v])
def Pf(k:Int)(l:List za):List (List za)×List za:=l.foldl (Vf k) ([],[])
def Tf(k:Int)(l:List za):List (List za):=(Pf k l).1++[(Pf k l).2]
theorem oW{k:Int}{l:List za}{i:Nat}(h:i<l.length):Pf k (l.take (i+1))=Vf k (Pf k (l.take i)) l[i]:=by unfold Pf;rw[Lc h,List.foldl_append];rfl
theorem AO(a b:List (List za)):szP (a++b)=szP a+szP b:=by
 induction a with
 |nil=>simp[szP]
 |cons x a ih=>simp only[Bb,szP,ih];omega
theorem WG(a b:List za):szL (a++b)=szL a+szL b:=by
 induction a with
 |nil=>simp[szL]
 |cons x a ih=>simp only[Bb,szL,ih];omega
theorem Ev(k:Int): ∀(l:List za) (a:List (List za)×List za),szP (l.foldl (Vf k) a).1+szL (l.foldl (Vf k) a).2<=szP a.1+szL a.2+szL l/\(l.foldl (Vf k) a).1.length<=a.1.length+l.length/\(l.foldl (Vf k) a).2.length<=a.2.length+l.length
 |[],a=>by simp[szL]
 |v::l,a=>by
  rw[Xd];obtain⟨h1,h2,h3⟩:=Ev k l (Vf k a v);have hv:=Wi v;have:szP (Vf k a v).1+szL (Vf k a v).2<=szP a.1+szL a.2+szV v/\(Vf k a v).1.length<=a.1.length+1/\(Vf k a v).2.length<=a.2.length+1:=by
   unfold Vf;split
   ·simp only[AO,szP,szL,Ia,Da,Ya];omega
   ·simp only[WG,szL,Ia,Da,Ya];omega
  rw[szL,Da];omega
theorem zBx(k:Int)(l:List za):szP (Tf k l)<=szL l+1:=by obtain⟨h1,_,_⟩:=Ev k l ([],[]);unfold Tf Pf;rw[AO,szP,szP];have e1:szP ([]:List (List za))=0:=rfl;have e2:szL ([]:List za)=0:=rfl;simp only[e1,e2]at h1;omega
theorem pG{l:List za}{k:Int}(h:szL l<=big):Ls (l,k)=some (if errS l=0 then(if k<1\/24<k then([],2)else(Tf k l,0))else([],errS l)):=by
 unfold Ls;have hlen:=Mh l;simp only[ze,wo h,Aa];by_cases h1:errS l=0
 ·have hne:(errS l != 0)=false:=by simp[h1]
  rw[Ka h1];simp only[hne,Ba,GK];by_cases h2:k<1\/24<k
  ·have:(decide (k<1)||decide (k>24))=true:=by simpa using h2
   rw[Ka h2,this];rfl
  ·have:(decide (k<1)||decide (k>24))=false:=by rw[Ue];exact⟨Ta (by omega),Ta (by omega)⟩
   rw[Ha h2,this];simp only[Ba];refine(qU (r:= .out (((l.length - (Pf k l).2.length:Nat):Int),(Pf k l).1)) (Qm (fun s=> ∃i from_:Nat,s=(((from_:Int),(i:Int)),(Pf k (l.take i)).1)/\from_<=i/\i<=l.length/\(Pf k (l.take i)).2=(l.take i).drop from_) (fun s=>l.length - s.1.2.toNat) _ (fun s hs=> ?_) ⟨0,0,by simp[Pf],Sa _,Va _,by simp[Pf]⟩)).trans ?_
   ·obtain⟨i,fr,rfl,hfi,hil,he⟩:=hs;by_cases hi:i<l.length
    ·refine .inl ?_;have hw:=Zw hi (by unfold big at h ⊢;omega);have hpt:=oW (k:=k) hi;have htk:l.take (i+1)=l.take i++[l[i]]:=Lc hi;unfold Vf at hpt;simp only[ZY hi,Ca,Zu hi,Aa];cases hv:(l[i].token.kind==k)with
     |true=>
      rw[Ka hv]at hpt;have hn:(decide ((0:Int)<=(fr:Int))&&(decide ((fr:Int)<=(i:Int))&&(decide ((i:Int)<=(i:Int))&&decide ((i:Int)<=(l.length:Int))))&&decide True)=true:=by simp only[Ea,Ua];refine⟨?_,trivial⟩;omega
      have hsz:szL (List.drop fr (List.take i l))<=big:=ma (Al ((List.drop_sublist _ _).trans (List.take_sublist _ _))) h;have hpl:=(Ev k (l.take i) ([],[])).2.1;have hap:Zp (Pf k (l.take i)).1.length 1 24=true:=ZU (by
       unfold Pf;have:=List.length_take_le i l;unfold big at h;simp only[Ya]at hpl;omega)
      refine⟨((((i+1:Nat):Int),((i+1:Nat):Int)),(Pf k (l.take (i+1))).1),?_,⟨i+1,i+1,rfl,Sa _,hi,?_⟩,?_⟩
      ·simp only[Ca,hn,Zy,Ib,kD hsz,Aa,hap,hw,zG,hpt,he]
      ·rw[hpt];simp
      ·simp only[Ib];omega
     |false=>
      rw[Ha (by rw[hv];simp)]at hpt;refine⟨(((fr:Int),((i+1:Nat):Int)),(Pf k (l.take (i+1))).1),?_,⟨i+1,fr,rfl,by omega,hi,?_⟩,?_⟩
      ·simp only[Ba,zG,hw,hpt]
      ·rw[hpt,htk,he,Eg (by rw[Tc];omega)]
      ·simp only[Ib];omega
    ·have hil:i=l.length:=by omega
     subst hil;rw[Cf]at he ⊢;refine .inr (.inl ⟨((fr:Int),(Pf k l).1),by simp only[ZM,Ba],?_⟩);rw[he,Vb];congr 2;omega
   ·rw[znh]
    -- the last part is behind
    have key: ∀(m:List za) (a:List (List za)×List za) (p:List za),a.2<:+p->(m.foldl (Vf k) a).2<:+p++m:=by
     intro m
     induction m with
     |nil=>intro a p h;simpa using h
     |cons v m ih=>
      intro a p h;rw[Xd];have:(Vf k a v).2<:+p++[v]:=by
       unfold Vf;split
       ·exact List.nil_suffix
       ·obtain⟨q,hq⟩:=h;exact⟨q,by rw[<-hq,ja]⟩
      have:=ih _ _ this
      rwa [ja]at this
    have hsuf:=key l ([],[]) [] (jd _);rw[Gc]at hsuf;have hdr:List.drop (l.length - (Pf k l).2.length) l=(Pf k l).2:=by unfold Pf;exact(List.suffix_iff_eq_drop.1 hsuf).symm
    have hsz:szL (Pf k l).2<=big:=by have:=Al hsuf.sublist;unfold Pf;omega
    have hle:(Pf k l).2.length<=l.length:=by unfold Pf;exact hsuf.length_le
    have hn:(decide ((0:Int)<=((l.length - (Pf k l).2.length:Nat):Int))&&decide (((l.length - (Pf k l).2.length:Nat):Int)<=(l.length:Int)))=true:=by simp only[Ea,Ua];omega
    have hpl:=(Ev k l ([],[])).2.1;have hap:Zp (Pf k l).1.length 1 24=true:=ZU (by
     unfold Pf;unfold big at h;simp only[Ya]at hpl;omega)
    simp only[hn,Zy,Ib,hdr,kD hsz,Aa,hap];rfl
 ·have h2:(errS l != 0)=true:=Ve.2 h1;rw[Ha h1];simp only[h2,Ca]
set_option maxRecDepth 100000
inductive Cuts (k:Int):List za->List (List za)->Prop
 |one (p:List za) (h: ∀x∈p,(x.token.kind==k)=false):Cuts k p [p]
 |more (p:List za) (s:za) (v:List za) (ps:List (List za)) (h: ∀x∈p,(x.token.kind==k)=false) (hs:(s.token.kind==k)=true) (hc:Cuts k v ps):Cuts k (p++s::v) (p::ps)
theorem dO(d:List za): ∃r,d=trimB d++r/\(∀x∈r,isSp x=true)/\(trimB d=[]\/ ∃t v,trimB d=t++[v]/\isSp v=false):=by
 induction hn:d.length generalizing d with
 |zero=>
  obtain rfl:=Mf.1 hn;exact⟨[],rfl,fun x hx=>(by cases hx), .inl rfl⟩
 |succ n ih=>
  rcases Vs d with rfl|⟨t,v,rfl⟩
  ·cases hn
  ·rw[AA];cases hv:isSp v with
   |true=>
    rw[Ka rfl];obtain⟨r,h1,h2,h3⟩:=ih t (by rw[Ia]at hn;simpa using hn);refine⟨r++[v],by rw[<-ja,<-h1],fun x hx=> ?_,h3⟩;rcases Jc.1 hx with hx|hx
    ·exact h2 x hx
    ·rw[Oc.1 hx];exact hv
   |false=> rw[Ha (by decide)];exact⟨[],(Rb _).symm,fun x hx=>(by cases hx), .inr ⟨t,v,rfl,hv⟩⟩
theorem bG: ∀(v:List za),∃a,v=a++v.dropWhile isSp/\(∀x∈a,isSp x=true)/\ ∀x b,v.dropWhile isSp=x::b->isSp x=false
 |[]=>⟨[],rfl,fun x hx=>(by cases hx),fun x b h=>(by cases h)⟩
 |y::v=>by
  obtain⟨a,h1,h2,h3⟩:=bG v;cases hy:isSp y with
  |true=>
   rw[List.dropWhile_cons_of_pos hy];refine⟨y::a,by rw[Bb,<-h1],fun x hx=> ?_,h3⟩;rcases Db.1 hx with rfl|hx
   ·exact hy
   ·exact h2 x hx
  |false=> rw[List.dropWhile_cons_of_neg (by rw[hy];decide)];exact⟨[],rfl,fun x hx=>(by cases hx),fun x b h=>(by cases h;exact hy)⟩
theorem xN(v:List za):(trimS v).Sublist v:=(uj _).trans (Ac _)
def Yh(l:List za):Prop:= ∀t v,l=t++[v]->isSp v=false
def Gi(l:List za):Prop:= ∀a t,l=a::t->isSp a=false
theorem Yh.suf{a b:List za}(h:Yh (a++b)):Yh b:=fun t v e=>h (a++t) v (by rw[e,ja])
theorem Yh.id{l:List za}(h:Yh l):trimB l=l:=by
 rcases Vs l with rfl|⟨t,v,rfl⟩
 ·rfl
 ·rw[AA,h t v rfl];rfl
theorem nM(l:List za):Yh (trimB l):=by
 obtain⟨r,_,_,h|⟨t,v,h,hv⟩⟩:=dO l
 ·intro t v e;rw[h]at e;simp at e
 ·intro t' v' e;rw[h]at e;have:=je e rfl;injection this with e1;rw[<-e1];exact hv
theorem Gi.pre{a b:List za}(h:Gi (a++b)):Gi a:=fun x t e=>h x (t++b) (by rw[e];rfl)
theorem Gi.id{l:List za}(h:Gi l):l.dropWhile isSp=l:=by
 cases l with
 |nil=>rfl
 |cons a t=>rw[Nc,h a t rfl];rfl
theorem zEf(l:List za):Gi (l.dropWhile isSp):=by obtain⟨a,_,_,h⟩:=bG l;exact fun x b e=>h x b e
theorem kT(l:List za): ∃a,l=a++l.dropWhile isSp:=by obtain⟨a,h,_⟩:=bG l;exact⟨a,h⟩
theorem mM(l:List za): ∃r,l=trimB l++r:=by obtain⟨r,h,_⟩:=dO l;exact⟨r,h⟩
theorem zCN{l:List za}(h1:Gi l)(h2:Yh l):trimS l=l:=by unfold trimS;rw[h1.id,h2.id]
theorem left_eq{l:List za}:Es l=some (l.dropWhile isSp):=by
 unfold Es qX;refine(qU (r:= .out (l.dropWhile isSp)) (Qm (fun s=>s.dropWhile isSp=l.dropWhile isSp) (fun s=>s.length) _ (fun s hs=> ?_) rfl)).trans ?_
 ·cases s with
  |nil=>exact .inr (.inl ⟨[],by simp,by rw[<-hs];rfl⟩)
  |cons v t=>
   have h1:decide (((v::t).length:Int)>0)=true:=by rw[KE];simp
   have h2:geti (v::t) 0=some v:=rfl;have h3:decide ((1:Int)<=((v::t).length:Int))=true:=by simp;omega
   rw[Nc]at hs;cases hv:isSp v with
   |true=> rw[hv]at hs;unfold isSp at hv;refine .inl ⟨t,?_,by simpa using hs,by simp⟩;simp only[h1,h2,h3,Zk,ze,Aa,hv,Ca,Zy];rfl
   |false=> rw[hv]at hs;unfold isSp at hv;refine .inr (.inl ⟨v::t,?_,by rw[<-hs];rfl⟩);simp only[h1,h2,Zk,ze,Aa,hv,Ca,Ba]
 ·rw[znh]
theorem right_eq{d:List za}(hd:szL d<=big):lm d=some (trimB d):=by
 unfold lm qX;refine(qU (r:= .out (trimB d)) (Qm (fun s=>trimB s=trimB d/\szL s<=big) (fun s=>s.length) _ (fun s hs=> ?_) ⟨rfl,hd⟩)).trans ?_
 ·rcases Vs s with rfl|⟨t,v,rfl⟩
  ·exact .inr (.inl ⟨[],by simp,by rw[<-hs.1];rfl⟩)
  ·have hlen:=Mh (t++[v]);have hl2:(t++[v]).length=t.length+1:=by simp
   have hb:=hs.2;unfold big at hb;have h1:decide (((t++[v]).length:Int)>0)=true:=by rw[KE];simp
   have h4:w64 (((t++[v]).length:Int) - 1)=(t.length:Int):=by rw[w64,Qb (by omega) (by omega)];omega
   have h2:geti (t++[v]) (t.length:Int)=some v:=by rw[Zu (by omega)];simp
   have h3:(decide ((0:Int)<=(t.length:Int))&&decide ((t.length:Int)<=((t++[v]).length:Int)))=true:=by simp;omega
   have hs1:=hs.1;rw[AA]at hs1;cases hv:isSp v with
   |true=> rw[Ka hv]at hs1;unfold isSp at hv;refine .inl ⟨t,?_,⟨hs1,ma (Al (Wd t [v])) hs.2⟩,by simp⟩;simp only[h1,h4,h2,h3,Zk,ze,Aa,hv,Ca,Zy,Ib];simp
   |false=> rw[Ha (by rw[hv];simp)]at hs1;unfold isSp at hv;refine .inr (.inl ⟨t++[v],?_,by rw[<-hs1]⟩);simp only[h1,h4,h2,Zk,ze,Aa,hv,Ca,Ba]
 ·rw[znh]
def Cq(v:za):Bool:=v.token.kind==9&&v.token.text==[33]
theorem zDK(v:za):mo v=some (Cq v):=by unfold mo qX Cq;simp only[ze,Aa];cases v.token.kind==9<;>rfl
def impW:Str:=[105,109,112,111,114,116,97,110,116]
def endV(l:List za):Option (List za×za):=match l.reverse with
 |[]=>none
 |v::t=>some (t.reverse,v)
theorem RG(t:List za)(v:za):endV (t++[v])=some (t,v):=by unfold endV;rw[List.reverse_append];simp
def Fg(v:List za):List za×Bool:=match endV v with
 |none=>(v,false)
 |some (t,z)=>bif !t.isEmpty&&(z.token.kind==1&&lowS z.token.text==impW)then
   (match endV (trimB t)with
   |none=>(v,false)
   |some (u,b)=>bif Cq b then(trimB u,true)else(v,false))
  else(v,false)
theorem gJ{t:List za}{v:za}(h:szL (t++[v])<=big):w64 (((t++[v]).length:Int) - 1)=(t.length:Int):=by
 have hlen:=Mh (t++[v]);have hl2:(t++[v]).length=t.length+1:=by simp
 unfold big at h;rw[w64,Qb (by omega) (by omega)];omega
theorem LK(t:List za)(v:za):geti (t++[v]) (t.length:Int)=some v:=by rw[Zu (by simp)];simp
theorem tJ(t:List za)(v:za):(decide ((0:Int)<=(t.length:Int))&&decide ((t.length:Int)<=((t++[v]).length:Int)))=true:=by simp;omega
theorem EU(t:List za)(v:za):List.take t.length (t++[v])=t:=by simp
theorem zEu:lowS [105,109,112,111,114,116,97,110,116]=impW:=by decide+kernel
theorem FU{t:List za}{v:za}(h:szL (t++[v])<=big):szL t<=big/\v.token.text.length<=big:=by rw[WG,szL,Wi]at h;omega
theorem JM(t:List za):decide ((t.length:Int)>0)= !t.isEmpty:=by
 cases t with
 |nil=>rfl
 |cons a t=>exact Fa (by simp only[Da];omega)
abbrev MK:=LX (List za×(Str×Bool)×(Str×Bool)) (Zm×Bool)
theorem OU{v:List za}{nm:Str}(hv:szL v<=big):(
  ze (zI (decide (w64 ((v.length:Int) - 1)>0)) (geti v (w64 ((v.length:Int) - 1))) (default:za)) fun y13=>
  ze (zI (decide (w64 ((v.length:Int) - 1)>0)) (qX ((⟨y13.token,y13.list⟩:za),1)) (default:Bool)) fun y14=>
  ze (zI (bif decide (w64 ((v.length:Int) - 1)>0)then y14 else false) (geti v (w64 ((v.length:Int) - 1))) (default:za)) fun y15=>
  ze (zI (bif decide (w64 ((v.length:Int) - 1)>0)then y14 else false) (ZW (y15.token.text,[105,109,112,111,114,116,97,110,116])) (default:Bool)) fun y16=>
  bif bif bif decide (w64 ((v.length:Int) - 1)>0)then y14 else false then y16 else false then
   need (decide (0<=w64 ((v.length:Int) - 1))&&decide (w64 ((v.length:Int) - 1)<=(v.length:Int)))<|
   ze (lm (List.take (w64 ((v.length:Int) - 1)).toNat v)) fun y17=>
   ze (zI (decide ((y17.length:Int)>0)) (geti y17 (w64 ((y17.length:Int) - 1))) (default:za)) fun y18=>
   ze (zI (decide ((y17.length:Int)>0)) (mo (⟨y18.token,y18.list⟩:za)) (default:Bool)) fun y19=>
   bif bif decide ((y17.length:Int)>0)then y19 else false then
    need (decide (0<=w64 ((y17.length:Int) - 1))&&decide (w64 ((y17.length:Int) - 1)<=(y17.length:Int)))<|
    ze (lm (List.take (w64 ((y17.length:Int) - 1)).toNat y17)) fun y20=>
    some (LX.out (y20,(([]:Str),false),(nm,true)))
   else
    some (LX.out (v,(([]:Str),false),(nm,false)))
  else
   some (LX.out (v,(([]:Str),false),(nm,false))))=(some (LX.out ((Fg v).1,(([]:Str),false),(nm,(Fg v).2))):Option MK):=by
 rcases Vs v with rfl|⟨t,z,rfl⟩
 ·rfl
 ·obtain⟨ht,hz⟩:=FU hv;unfold Fg;rw[RG];simp only[gJ hv,JM];cases he:t.isEmpty with
  |true=>simp only[Eb,qI,ze,Aa,Ba,Gd]
  |false=>
   simp only[Xa,Zk,LK,qX,ze,Aa,Ca,Kb];cases hk:z.token.kind==1 with
   |false=>simp only[qI,Aa,Ba,Gd]
   |true=>
    simp only[Zk,Aa,dm hz (show([105,109,112,111,114,116,97,110,116]:Str).length<=big by decide),zEu,Ca,Kb];cases ha:lowS z.token.text==impW with
    |false=>simp only[Ba]
    |true=>
     simp only[Ca,tJ,Zy,Ib,EU,right_eq ht,Aa,JM];have hw:szL (trimB t)<=big:=ma (Al (uj t)) ht;obtain⟨w,hwd⟩: ∃w,trimB t=w:=⟨_,rfl⟩;rw[hwd]at hw;simp only[hwd];rcases Vs w with rfl|⟨u,b,rfl⟩
     ·rfl
     ·have hne:(u++[b]).isEmpty=false:=by cases u<;>rfl
      rw[RG];simp only[hne,Xa,Zk,gJ hw,LK,Aa,Cs,zDK,Ca];cases hb:Cq b with
      |false=>simp only[Ba]
      |true=>simp only[Ca,tJ,Zy,Ib,EU,right_eq (FU hw).1,Aa]
def nmD(s:Str):Str:=bif List.isPrefixOf [45,45] s then s else lowS s
def noD:Zm×Bool:=(⟨[],[],false⟩,false)
def oneS(x:List za):Zm×Bool:=match trimS x with
 |[]=>noD
 |n::r=>bif n.token.kind==1 then
   (match r.dropWhile isSp with
   |[]=>noD
   |c::q=>bif c.token.kind==16 then
     (bif Bh ⟨nmD n.token.text,(Fg (q.dropWhile isSp)).1,(Fg (q.dropWhile isSp)).2⟩then(⟨nmD n.token.text,(Fg (q.dropWhile isSp)).1,(Fg (q.dropWhile isSp)).2⟩,true)else noD)
    else noD)
  else noD
theorem oz{v:List za}{t:List za}{z:za}(h:endV v=some (t,z)):v=t++[z]:=by
 rcases Vs v with rfl|⟨t',z',rfl⟩
 ·cases h
 ·rw[RG]at h;cases h;rfl
theorem zEB{v:List za}(h1:Gi v)(h2:Yh v):Gi (Fg v).1/\Yh (Fg v).1/\(Fg v).1.Sublist v:=by
 unfold Fg;split
 ·exact⟨h1,h2,Be _⟩
 ·rename_i t z he;have hv:=oz he;cases !t.isEmpty&&(z.token.kind==1&&lowS z.token.text==impW)with
  |false=>exact⟨h1,h2,Be _⟩
  |true=>
   rw[Ca];split
   ·exact⟨h1,h2,Be _⟩
   ·rename_i u b hb;have hw:=oz hb;cases Cq b with
    |false=>exact⟨h1,h2,Be _⟩
    |true=>
     rw[Ca];have hht:Gi t:=by rw[hv]at h1;exact h1.pre
     have hhw:Gi (trimB t):=by obtain⟨r,hr⟩:=mM t;rw[hr]at hht;exact hht.pre
     have hhu:Gi u:=by rw[hw]at hhw;exact hhw.pre
     refine⟨?_,nM u,?_⟩
     ·obtain⟨r,hr⟩:=mM u;rw[hr]at hhu;exact hhu.pre
     ·refine(uj u).trans ((Wd u [b]).trans ?_);rw[<-hw];refine(uj t).trans ?_;rw[hv];exact Wd t [z]
theorem zEv(s:Str):(lowS s).length=s.length:=by unfold lowS;simp
theorem DT(s:Str):(nmD s).length=s.length:=by
 unfold nmD;cases List.isPrefixOf [45,45] s
 ·exact zEv s
 ·rfl
theorem dL(n:za)(r:List za):(((n::r).length:Int)==0)=false:=Ga.2 (by simp only[Da];omega)
theorem vS(n:za)(r:List za):decide ((1:Int)<=((n::r).length:Int))=true:=Fa (by simp only[Da];omega)
theorem lL(n:za)(r:List za):geti (n::r) 0=some n:=rfl
theorem WV{x:List za}(h:szL x<=big){n:za}{r:List za}(hy:trimS x=n::r):n.token.text.length<=big/\szL r<=big/\Yh r/\
  ∀{c:za} {q:List za},r.dropWhile isSp=c::q->szL (q.dropWhile isSp)<=big/\Gi (q.dropWhile isSp)/\Yh (q.dropWhile isSp):=by
 have hsz:=zCO x;have he:Yh (trimS x):=nM _;rw[hy]at hsz he;rw[szL,Wi]at hsz;have her:Yh r:=he.suf (a:=[n]);refine⟨by omega,by omega,her,fun {c q} hq=> ?_⟩;obtain⟨a,ha⟩:=kT r;rw[hq]at ha;obtain⟨b,hb⟩:=kT q;refine⟨?_,zEf q,?_⟩
 ·have h1:=Al (Ac isSp (l:=q));rw[ha,WG,szL]at hsz;omega
 ·rw[ha,hb]at her;exact Yh.suf (a:=a++c::b) (by rw[ja];exact her)
theorem JP{x:List za}(h:szL x<=big):Pv x=some (oneS x):=by
 have hdw:szL (x.dropWhile isSp)<=big:=ma (Al (Ac _)) h;unfold Pv oneS;simp only[left_eq,right_eq hdw,ze,Aa,show trimB (x.dropWhile isSp)=trimS x from rfl];cases hy:trimS x with
 |nil=>rfl
 |cons n r=>
  obtain⟨hn,hr,_,hp⟩:=WV h hy;simp only[dL,Xa,Zk,lL,Aa,qX,Ba];cases hk:n.token.kind==1 with
  |false=>simp only[Xa,Ca,Ba];rfl
  |true=>
   simp only[Eb,Ba,Ca];have hj:((strings_HasPrefix (n.token.text,[45,45])).bind fun y6=>bif !y6 then(ZJ n.token.text).bind fun y7=>some (LX.out (n::r,(([]:Str),false),(y7,false)))else some (LX.out (n::r,([],false),(n.token.text,false))))=(some (LX.out (n::r,([],false),(nmD n.token.text,false))):Option MK):=by rw[Q8,Aa,Ym hn];unfold nmD;cases List.isPrefixOf [45,45] n.token.text<;>rfl
   rw[hj,zG];simp only[vS,Zy,show List.drop 1 (n::r)=r from rfl];cases hq:r.dropWhile isSp with
   |nil=>rfl
   |cons c q=>
    obtain⟨hv,hh,he⟩:=hp hq;simp only[dL,Xa,Zk,lL,Aa,Ba];cases hc:c.token.kind==16 with
    |false=>simp only[Xa,Ca,Ba];rfl
    |true=>
     simp only[Eb,Ba,Ca,vS,Zy,show List.drop 1 (c::q)=q from rfl];obtain⟨v,hvd⟩: ∃v,q.dropWhile isSp=v:=⟨_,rfl⟩;rw[hvd]at hv hh he;simp only[hvd];have hm:=OU (nm:=nmD n.token.text) hv;simp only[ze,qX]at hm;rw[hm,zG];obtain⟨h1,h2,h3⟩:=zEB hh he;obtain⟨w,hw⟩: ∃w,Fg v=w:=⟨_,rfl⟩;rw[hw]at h1 h2 h3;simp only[hw];have hws:szL w.1<=big:=ma (Al h3) hv;rw[pF hws,Aa];by_cases he0:errS w.1=0
     ·rw[Ka he0,zCN h1 h2];simp only[show((0:Int) != 0)=false from rfl,Xa,Zk,Ba];rw[vP (d:=⟨nmD n.token.text,w.1,w.2⟩) hws (by rw[DT];exact hn),Aa];cases Bh ⟨nmD n.token.text,w.1,w.2⟩<;>rfl
     ·have he1:(errS w.1 != 0)=true:=Ve.2 he0;have he2:Bh ⟨nmD n.token.text,w.1,w.2⟩=false:=by unfold Bh;simp only[show(errS w.1==0)=false from Ga.2 he0,Gd,Jd]
      rw[Ha he0,he2];simp only[he1,Eb,qI,Aa,Ca,Ba];rfl
--< pulled
--p fF
theorem fF(x:za):1<=zy (zf x):=by have:=Q5 x;omega
--p sp
abbrev sp(l:List za):List za:=l.dropWhile isSp
--p WR
theorem WR:sp []=[]:=rfl
--p bu
theorem bu(v:za)(l:List za):sp (v::l)=if isSp v then sp l else v::l:=by unfold sp;rw[Nc]
--p Q0
theorem Q0(l:List za):(sp l).Sublist l:=Ac isSp
--p mg
theorem mg(l:List za):(sp l).length<=l.length:=(Q0 l).length_le
--p uk
theorem uk: ∀l:List za,sp (sp l)=sp l
 |[]=>rfl
 |v::l=>by
  rw[bu];cases h:isSp v with
  |true=>rw[Ka rfl];exact uk l
  |false=>rw[Ha (by simp),bu,h,Ha (by simp)]
--p EndS
--p trimB_idem
--p end_tail
--p end_sp
--p trimS_end
--p sp_pre
--p fJ
theorem fJ {α A S X R:Type} {step:S->Option (LO S X R)} {k:X->Option R} (l:List α) (f:A->α->A) (st:A->Nat->S) (out:A->X) {s0:S} {a0:A} (h0:s0=st a0 0)
  (hg: ∀(i:Nat) (a:A) (h:i<l.length),step (st a i)=some (.again (st (f a l[i]) (i+1))))
  (hf: ∀a:A,step (st a l.length)=some (.out (out a))):Zl step s0 k=k (out (l.foldl f a0)):=by
 have key: ∀(m:List α) (i:Nat) (a:A),l.drop i=m->i<=l.length-> ∃n,qa step n (st a i)=some (.out (out (m.foldl f a))):=by
  intro m
  induction m with
  |nil=>
   intro i a hd hi;have:i=l.length:=by have:=Xc.1 hd;omega
   subst this;exact⟨1,by simp only[qa,hf,List.foldl_nil]⟩
  |cons v m ih=>
   intro i a hd hi;have hlt:i<l.length:=by
    rcases Ud i l.length with h|h
    ·exact h
    ·rw[List.drop_eq_nil_of_le h]at hd;cases hd
   have hv:l[i]=v:=by have:=Fb hlt;rw[hd]at this;injection this with h1 _;exact h1.symm
   have hs:=hg i a hlt;rw[hv]at hs;obtain⟨n,hn⟩:=ih (i+1) (f a v) (by rw[Fb hlt]at hd;injection hd) (by omega);refine⟨n+1,?_⟩;simp only[qa,hs];rw[hn,Xd]
 obtain⟨n,hn⟩:=key l 0 a0 rfl (by omega);rw[h0,qU (oh hn)];rfl
--> pulled
theorem bM {S X R:Type} {step:S->Option (LO S X R)} {k:X->Option R} (μ:S->Nat) (ok:S->Prop) (Q:S->R->Prop)
  (h: ∀s,ok s->(∃s',step s=some (.again s')/\ok s'/\μ s'<μ s/\ ∀r,Q s' r->Q s r)\/(∃r,step s=some (.ret r)/\Q s r)\/(∃x,step s=some (.out x)/\ ∃r,k x=some r/\Q s r)) {s:S} (hs:ok s): ∃r,Zl step s k=some r/\Q s r:=by
 have key: ∀(m:Nat) (s:S),μ s<m->ok s-> ∃j x,qa step j s=some x/\ ∃r,LX.go x k=some r/\Q s r:=by
  intro m
  induction m with
  |zero=>intro s h;omega
  |succ m ih=>
   intro s hm hs;rcases h s hs with⟨s',h1,h2,h3,h4⟩|⟨r,h1,h2⟩|⟨x,h1,r,h2,h3⟩
   ·obtain⟨j,x,g1,r,g2,g3⟩:=ih s' (by omega) h2;exact⟨j+1,x,by simp only[qa,h1];exact g1,r,g2,h4 r g3⟩
   ·exact⟨1, .ret r,by simp only[qa,h1],r,rfl,h2⟩
   ·exact⟨1, .out x,by simp only[qa,h1],r,h2,h3⟩
 obtain⟨j,x,h1,r,h2,h3⟩:=key (μ s+1) s (by omega) hs;exact⟨r,by rw[qU (oh h1),h2],h3⟩
def Oi(l:List za):Int:=match l with
 |[]=>0
 |a::_=>a.token.kind
theorem Io(l:List za):Zn ⟨l⟩=some (Oi l):=by
 unfold Zn Oi;cases l with
 |nil=>rfl
 |cons a r=> have e0:(((a::r).length:Int)==0)=false:=Ga.2 (by simp only[Da];omega);have e1:geti (a::r) 0=some a:=rfl;simp only[e0,e1,Ba,ze,Aa]
theorem Km(a:za)(r:List za):Zr ⟨a::r⟩=some (a,⟨r⟩):=by unfold Zr;have e1:geti (a::r) 0=some a:=rfl;have e2:decide ((1:Int)<=((a::r).length:Int))=true:=Fa (by simp only[Da];omega);simp only[e1,e2,Zy,ze,Aa,Cs,List.drop_succ_cons,List.drop_zero]
theorem zEx(a b:Nat):decide ((a:Int)<(b:Int))=decide (a<b):=by
 by_cases h:a<b
 ·rw[Fa h];exact Fa (by omega)
 ·rw[Ta h];exact Ta (by omega)
theorem QY(l:List za):zM ⟨l⟩=some (decide ((sp l).length<l.length),⟨sp l⟩):=by
 unfold zM;refine(qU (r:= .out ⟨sp l⟩) (Qm (fun s=>sp s.v=sp l) (fun s=>s.v.length) _ (fun s hs=> ?_) rfl)).trans ?_
 ·obtain⟨s⟩:=s;have hs:sp s=sp l:=hs;simp only[Io,ze,Aa];cases s with
  |nil=>exact .inr (.inl ⟨⟨[]⟩,rfl,by rw[<-hs];rfl⟩)
  |cons a r=>
   rw[bu]at hs;cases ha:isSp a with
   |true=> rw[ha,Ka rfl]at hs;unfold isSp at ha;refine .inl ⟨⟨r⟩,?_,hs,by simp⟩;simp only[Oi,ha,Ca,Km,Aa]
   |false=> rw[ha,Ha (by simp)]at hs;unfold isSp at ha;exact .inr (.inl ⟨⟨a::r⟩,by simp only[Oi,ha,Ba],by rw[<-hs]⟩)
 ·rw[znh,zEx]
def isW(s:Str)(a:za):Bool:=a.token.kind==1&&lowS a.token.text==s
def headW(s:Str)(l:List za):Bool:=match l with
 |[]=>false
 |a::_=>isW s a
def Ni:List Str->List za->Option Str
 |[],_=>none
 |s::ws,l=>bif headW s l then some s else Ni ws l
theorem Jw(ws:List Str)(l:List za)(hl: ∀a∈l,a.token.text.length<=big)(hw: ∀s∈ws,s.length<=big/\lowS s=s)(hn:ws.length<=big):
  qc (ws,⟨l⟩)=some (match Ni ws l with|some s=>(s,⟨l.tail⟩)|none=>([],⟨l⟩)):=by
 unfold qc;have key: ∀(m:List Str) (i:Nat),ws.drop i=m->i<=ws.length-> ∃n x,qa (fun(s1:Int×zh)=>
   bif decide (s1.1<(ws.length:Int))then
    ze (geti ws s1.1) fun y2=>
    ze (Zn s1.2) fun y3=>
    ze (zI (y3==1) (geti s1.2.v 0) (default:za)) fun y4=>
    ze (zI (y3==1) (ZW (y4.token.text,y2)) (default:Bool)) fun y5=>
    bif bif y3==1 then y5 else false then
     ze (Zr s1.2) fun y6=>
     some (LO.ret (y2,y6.2))
    else
     some (LO.again (w64 (s1.1+1),s1.2))
   else
    some (LO.out s1.2):Int×zh->Option (LO (Int×zh) (zh) (Str×zh))) n ((i:Int),⟨l⟩)=some x/\
   x=(match Ni m l with|some s=>LX.ret (s,⟨l.tail⟩)|none=>LX.out ⟨l⟩):=by
  intro m
  induction m with
  |nil=>
   intro i hd hi;have:i=ws.length:=by have:=Xc.1 hd;omega
   subst this;exact⟨1,LX.out ⟨l⟩,by simp only[qa,ZM,Ba],rfl⟩
  |cons w m ih=>
   intro i hd hi;obtain⟨hlt,hg,hd'⟩:i<ws.length/\geti ws (i:Int)=some w/\ws.drop (i+1)=m:=by
    have hi:i<ws.length:=by
     rcases Ud i ws.length with h'|h'
     ·exact h'
     ·rw[List.drop_eq_nil_of_le h']at hd;cases hd
    rw[Fb hi]at hd;injection hd with h1 h2;exact⟨hi,by rw[Zu hi,h1],h2⟩
   have hmem:w∈ws:=by
    have:w∈ws.drop i:=by rw[hd];exact Jb
    exact Dg this
   obtain⟨hw1,hw2⟩:=hw w hmem;have hstep:(ze (geti ws (i:Int)) fun y2=>ze (Zn ⟨l⟩) fun y3=>
    ze (zI (y3==1) (geti l 0) (default:za)) fun y4=>
    ze (zI (y3==1) (ZW (y4.token.text,y2)) (default:Bool)) fun y5=>
    bif bif y3==1 then y5 else false then
     ze (Zr ⟨l⟩) fun y6=>
     some (LO.ret (y2,y6.2))
    else
     some (LO.again (w64 ((i:Int)+1),(⟨l⟩:zh))))=some (bif headW w l then(LO.ret (w,⟨l.tail⟩):LO (Int×zh) zh (Str×zh))else LO.again (((i+1:Nat):Int),⟨l⟩)):=by
    simp only[hg,Io,ze,Aa,Zw hlt hn];cases l with
    |nil=>rfl
    |cons a r=>
     have e1:geti (a::r) 0=some a:=rfl;simp only[Oi,headW,isW];cases a.token.kind==1 with
     |false=>rfl
     |true=> simp only[Zk,e1,Aa,dm (hl a Jb) hw1,hw2,Ca,Km,Kb];cases lowS a.token.text==w<;>rfl
   cases hh:headW w l with
   |true=> rw[hh]at hstep;refine⟨1,LX.ret (w,⟨l.tail⟩),by simp only[qa,ZY hlt,Ca];rw[hstep];rfl,?_⟩;simp only[Ni,hh,Ca]
   |false=>
    rw[hh]at hstep;obtain⟨n,x,g1,g2⟩:=ih (i+1) hd' (by omega);refine⟨n+1,x,?_,?_⟩
    ·simp only[qa,ZY hlt,Ca];rw[hstep];exact g1
    ·rw[g2];simp only[Ni,hh,Ba]
 obtain⟨n,x,h1,h2⟩:=key ws 0 rfl (Va _);simp only[Int.natCast_zero]at h1;rw[qU (oh h1),h2];cases Ni ws l<;>rfl
abbrev minW:Str:=[109,105,110,45,119,105,100,116,104]
abbrev maxW:Str:=[109,97,120,45,119,105,100,116,104]
def pxS(t:zk):Bool:=((t.kind==12&&lowS t.unit==[112,120])||(t.kind==10&&t.num==0))&&(decide (0<=t.num)&&isN t.num)
def noDC:Zm:=⟨[],[],false⟩
def Bq(k:Int)(r:List za):Option zt:=match sp r with
 |[]=>none
 |c::r2=>bif c.token.kind==16 then(match sp r2 with
  |[]=>none
  |t::r3=>bif (sp r3).isEmpty&&pxS t.token then some ⟨k,[],t.token.num,noDC,[]⟩else none)else none
def EJ:List za->Option zt
 |[]=>none
 |w::r=>bif isW minW w then Bq 5 r else bif isW maxW w then Bq 6 r else none
def Ai(a:za):Option zt:=bif a.token.kind==21 then EJ (sp a.list)else none
def Du(l:List za):Option zt:=match l with
 |[]=>none
 |a::_=>Ai a
def MayR(r:zt×Bool)(o:Option zt):Prop:=r.2=o.isSome/\ ∀x,o=some x->r.1=x
theorem ZK(c:zt):MayR (c,false) none:=⟨rfl,fun x h=>by cases h⟩
theorem Kj(c:zt):MayR (c,true) (some c):=⟨rfl,fun x h=>by cases h;rfl⟩
theorem Dn{l:List za}(h:zL zf l<=big){a:za}(ha:a∈l):a.token.text.length<=big/\a.token.unit.length<=big/\zL zf a.list<=big/\zL zf a.list<zL zf l:=by have h1:=Vg (f:=zf) ha;have h2:=Q5 a;omega
theorem zDL{α:Type}(b:Bool)(x y:α):(bif !b then x else y)=bif b then y else x:=by cases b<;>rfl
theorem zE8(t:zk)(e:Bool)(h:t.unit.length<=big)(R:Type)(k:Bool->Option R):((zI (t.kind==12) (ZW (t.unit,[112,120])) (default:Bool)).bind fun y14=>
   (zI (bif bif bif t.kind==12 then y14 else false then true else bif t.kind==10 then t.num==0 else false then decide (t.num>=0)else false) (Jp t.num) (default:Int)).bind fun y15=>
   k (bif bif bif bif bif t.kind==12 then y14 else false then true else bif t.kind==10 then t.num==0 else false then decide (t.num>=0)else false then y15==0 else false then e else false))=k (e&&pxS t):=by
 have e2:((bif isN t.num then(0:Int)else 8)==0)=isN t.num:=by cases isN t.num<;>rfl
 have e3:decide (t.num>=0)=decide (0<=t.num):=rfl;have hlw:lowS ([112,120]:Str)=[112,120]:=by decide
 have hal:zI (t.kind==12) (ZW (t.unit,[112,120])) (default:Bool)=some (bif t.kind==12 then lowS t.unit==[112,120]else default):=by rw[dm h (by decide),hlw,ZF]
 rw[hal];simp only[M5,ZF,Aa,pxS,e3];cases t.kind==12<;>cases lowS t.unit==[112,120]<;>cases t.kind==10<;>cases t.num==0<;>cases decide (0<=t.num)<;>simp only[Ca,Ba,e2]<;>cases isN t.num<;>cases e<;>rfl
theorem jV{l:List za}(hz:zL zf l<=big): ∃c b,qJ ⟨l⟩=some ((c,b),⟨match l with|[]=>[]|a::r=>bif a.token.kind==21 then r else a::r⟩)/\MayR (c,b) (Du l):=by
 unfold qJ;simp only[Io,ze,Aa];cases l with
 |nil=>exact⟨_,_,rfl,ZK _⟩
 |cons a r=>
  obtain⟨_,_,hal,_⟩:=Dn hz (Jb (a:=a) (l:=r));simp only[Oi,Du,Ai,bne];cases a.token.kind==21 with
  |false=>exact⟨_,_,rfl,ZK _⟩
  |true=>
   simp only[Eb,Ba,Ca,Km,Aa,QY];have hzm:zL zf (sp a.list)<=big:=ma (Gg (Q0 _)) hal;generalize sp a.list=m at*;rw[Jw [minW,maxW] m (fun x hx=>(Dn hzm hx).1) (by intro s hs;simp at hs;rcases hs with rfl|rfl<;>exact⟨by decide,by decide⟩) (by decide)];cases m with
   |nil=>exact⟨_,_,rfl,ZK _⟩
   |cons w r1=>
    rw[ZI]at hzm
    -- behind the word
    have tail: ∀k:Int,∃(c:zt) (b:Bool),((zM (⟨r1⟩:zh)).bind fun y6=>
      (Zn y6.2).bind fun y7=>
      bif !(y7==16)then
       some (((⟨k,[],0,(⟨[],[],false⟩:Zm),[]⟩:zt),false),(⟨r⟩:zh))
      else
       (Zr y6.2).bind fun y8=>
       (zM y8.2).bind fun y9=>
       (Zn y9.2).bind fun y10=>
       (zI (!(y10==12)) (Zn y9.2) (default:Int)).bind fun y11=>
       bif bif !(y10==12)then !(y11==10)else false then
        some (((⟨k,[],0,(⟨[],[],false⟩:Zm),[]⟩:zt),false),(⟨r⟩:zh))
       else
        (Zr y9.2).bind fun y12=>
        (zM y12.2).bind fun y13=>
        (zI (y12.1.token.kind==12) (ZW (y12.1.token.unit,[112,120])) (default:Bool)).bind fun y14=>
        (zI (bif bif bif y12.1.token.kind==12 then y14 else false then true else bif y12.1.token.kind==10 then y12.1.token.num==0 else false then decide (y12.1.token.num>=0)else false) (Jp y12.1.token.num) (default:Int)).bind fun y15=>
        some (((⟨k,[],y12.1.token.num,(⟨[],[],false⟩:Zm),[]⟩:zt),bif bif bif bif bif y12.1.token.kind==12 then y14 else false then true else bif y12.1.token.kind==10 then y12.1.token.num==0 else false then decide (y12.1.token.num>=0)else false then y15==0 else false then(y13.2.v.length:Int)==0 else false),(⟨r⟩:zh)))=some ((c,b),⟨r⟩)/\MayR (c,b) (Bq k r1):=by
     intro k;simp only[QY,Io,Aa,Bq];have hz1:zL zf (sp r1)<=big:=ma (Gg (Q0 _)) (by omega);cases hs1:sp r1 with
     |nil=>exact⟨_,_,rfl,ZK _⟩
     |cons c r2=>
      rw[hs1,ZI]at hz1;simp only[Oi,zDL];cases c.token.kind==16 with
      |false=>exact⟨_,_,rfl,ZK _⟩
      |true=>
       simp only[Ca,Km,Aa,QY,Io];have hz2:zL zf (sp r2)<=big:=ma (Gg (Q0 _)) (by omega);cases hs2:sp r2 with
       |nil=>exact⟨_,_,rfl,ZK _⟩
       |cons t r3=>
        rw[hs2]at hz2;obtain⟨_,hu,_⟩:=Dn hz2 (Jb (a:=t) (l:=r3));simp only[Oi,ZF,Aa,Km,QY,wm];have hpx:=zE8 t.token (sp r3).isEmpty hu ((zt×Bool)×zh) fun b=>some (((⟨k,[],t.token.num,(⟨[],[],false⟩:Zm),[]⟩:zt),b),(⟨r⟩:zh));rw[hpx];have hno:(t.token.kind==12)=false->(t.token.kind==10)=false->pxS t.token=false:=by intro h1 h2;unfold pxS;rw[h1,h2];rfl
        cases h12:t.token.kind==12 with
        |true=>
         simp only[Eb,Ba];refine⟨_,_,rfl,?_⟩;cases (sp r3).isEmpty&&pxS t.token
         ·exact ZK _
         ·exact Kj _
        |false=>
         cases h10:t.token.kind==10 with
         |true=>
          simp only[Xa,Eb,Ca,Ba,h10];refine⟨_,_,rfl,?_⟩;cases (sp r3).isEmpty&&pxS t.token
          ·exact ZK _
          ·exact Kj _
         |false=> simp only[Xa,Ca,h10];rw[hno h12 h10,Jd];exact⟨_,_,rfl,ZK _⟩
    have q1:(minW==([]:Str))=false:=rfl;have q2:(minW==maxW)=false:=rfl;have q3:(maxW==([]:Str))=false:=rfl;have q4:(maxW==maxW)=true:=rfl;have q5:(([]:Str)==([]:Str))=true:=rfl;simp only[Ni,headW,EJ];cases isW minW w with
    |true=> obtain⟨c,b,h1,h2⟩:=tail 5;simp only[Ca,Aa,q1,q2,Ba,zG,Ye];exact⟨c,b,h1,h2⟩
    |false=>
     cases isW maxW w with
     |true=> obtain⟨c,b,h1,h2⟩:=tail 6;simp only[Ca,Aa,q3,q4,Ba,zG,Ye];exact⟨c,b,h1,h2⟩
     |false=> simp only[Ca,Aa,q5,Ba,zj0];exact⟨_,_,rfl,ZK _⟩
abbrev andW:Str:=[97,110,100]
abbrev orW:Str:=[111,114]
abbrev notW:Str:=[110,111,116]
abbrev Tt:Str:=[111,110,108,121]
def Jk:Nat->List za->Option (List zt)
 |0,_=>none
 |n+1,l=>match sp l with
  |[]=>some []
  |a::r=>bif isW andW a then(match sp r with
   |[]=>none
   |b::r'=>match Ai b with
    |none=>none
    |some x=>(Jk n r').map (x:: ·))else none
def Si(l:List za):Option (List zt):=Jk (l.length+1) l
theorem VP: ∀{n m:Nat} {l:List za},l.length<n->l.length<m->Jk n l=Jk m l
 |0,_,_,h,_=>by omega
 |_,0,_,_,h=>by omega
 |n+1,m+1,l,h1,h2=>by
  unfold Jk;cases hs:sp l with
  |nil=>rfl
  |cons a r=>
   have hl:=mg l;rw[hs,Da]at hl;simp only;cases isW andW a with
   |false=>rfl
   |true=>
    simp only[Ca];cases hs2:sp r with
    |nil=>rfl
    |cons b r'=>
     have hl2:=mg r;rw[hs2,Da]at hl2;simp only;cases Ai b with
     |none=>rfl
     |some x=>rw[VP (n:=n) (m:=m) (by omega) (by omega)]
theorem Dr(l:List za):Si l=match sp l with
  |[]=>some []
  |a::r=>bif isW andW a then(match sp r with
   |[]=>none
   |b::r'=>match Ai b with
    |none=>none
    |some x=>(Si r').map (x:: ·))else none:=by
 show Jk (l.length+1) l=_;unfold Jk;cases hs:sp l with
 |nil=>rfl
 |cons a r=>
  have hl:=mg l;rw[hs,Da]at hl;simp only;cases isW andW a with
  |false=>rfl
  |true=>
   simp only[Ca];cases hs2:sp r with
   |nil=>rfl
   |cons b r'=>
    have hl2:=mg r;rw[hs2,Da]at hl2;simp only;cases Ai b with
    |none=>rfl
    |some x=>rw[VP (n:=l.length) (m:=r'.length+1) (by omega) (by omega)];rfl
def allC(l:List zt):zt:=⟨1,[],0,noDC,l⟩
def notC(c:zt):zt:=⟨3,[],0,noDC,[c]⟩
def medC(s:Str):zt:=⟨4,s,0,noDC,[]⟩
def Jq(only:Bool)(l:List za):Option zt:=match l with
 |[]=>none
 |a::_=>bif a.token.kind==1 then(bif medS (lowS a.token.text)then some (medC (lowS a.token.text))else none)else bif only then none else Ai a
def Yl(not only:Bool)(l:List za):Option zt:=match Jq only l with
 |none=>none
 |some x=>match Si l.tail with
  |none=>none
  |some r=>some (bif not then notC (allC (x::r))else allC (x::r))
def og(l:List za):Option zt:=
 bif headW notW (sp l)then Yl true true (sp (sp l).tail)else bif headW Tt (sp l)then Yl false true (sp (sp l).tail)else Yl false false (sp l)
theorem XU{X R:Type}{m:Option (LX X R)}{k:X->Option R}(G:R->Prop)(P:X->Prop)(h:(∃o,m=some (.out o)/\P o)\/(∃r,m=some (.ret r)/\G r))(hk: ∀o,P o-> ∃r,k o=some r/\G r): ∃r,Zt m k=some r/\G r:=by
 rcases h with⟨o,rfl,ho⟩|⟨r,rfl,hr⟩
 ·exact hk o ho
 ·exact⟨r,rfl,hr⟩
theorem zEw:lowS notW=notW:=by decide
def finQ(not:Bool)(l:List zt):zt:=bif not then notC (allC l)else allC l
theorem zBd(not only:Bool)(l:List za):Yl not only l=match Jq only l with
  |none=>none
  |some x=>(Si l.tail).map fun r=>finQ not (x::r):=by
 unfold Yl;cases Jq only l with
 |none=>rfl
 |some x=>cases Si l.tail with
  |none=>rfl
  |some r=>cases not<;>rfl
def bD(l:List za):List za:=match l with
 |[]=>[]
 |a::r=>bif a.token.kind==21 then r else a::r
theorem AP{l:List za}(hz:zL zf l<=big): ∃c b,qJ ⟨l⟩=some ((c,b),⟨bD l⟩)/\MayR (c,b) (Du l):=by have h:=jV hz;cases l<;>exact h
theorem zCz{l:List za}(hz:zL zf l<=big): ∃r,QU ⟨l⟩=some r/\MayR r.1 (og l):=by
 unfold QU;have hz0:zL zf (sp l)<=big:=ma (Gg (Q0 _)) hz;have hword: ∃(s:Str) (m:List za),qc ([[110,111,116],[111,110,108,121]],⟨sp l⟩)=some (s,⟨m⟩)/\zL zf m<=big/\og l=Yl (s==notW) (!(s==[])) (sp m):=by
  rw[Jw [notW,Tt] (sp l) (fun a ha=>(Dn hz0 ha).1) (by intro s hs;simp at hs;rcases hs with rfl|rfl<;>exact⟨by decide,by decide⟩) (by decide)];simp only[Ni,og];have ht:zL zf (sp l).tail<=big:=ma (Gg (Uh _)) hz0;cases headW notW (sp l)with
  |true=>exact⟨notW,(sp l).tail,rfl,ht,rfl⟩
  |false=>
   cases headW Tt (sp l)with
   |true=>exact⟨Tt,(sp l).tail,rfl,ht,rfl⟩
   |false=>exact⟨[],sp l,rfl,hz0,by rw[uk];rfl⟩
 obtain⟨s,m,hw,hzm,hq⟩:=hword;simp only[QY,ze,Aa,hw];rw[hq,zBd];have hz1:zL zf (sp m)<=big:=ma (Gg (Q0 _)) hzm;generalize sp m=l1 at*;have happ:Zp 0 1 104=true:=ZU (by decide);refine XU (fun r:(zt×Bool)×zh=>MayR r.1 _) (fun o:zh×(Int×Str×Int×Str×Bool)×(Int×Str×Int×Str×Bool)×List zt=>o.2.1=(0,[],0,[],false)/\o.2.2.1=(1,[],0,[],false)/\ ∃c,Jq (!(s==[])) l1=some c/\o.2.2.2=[c]/\o.1.v=l1.tail) ?_ ?_
 ·simp only[Io,Aa];cases l1 with
  |nil=> right;refine⟨_,rfl,?_⟩;exact ZK _
  |cons a r=>
   obtain⟨hat,_,_⟩:=Dn hz1 (Jb (a:=a) (l:=r));have hf:=AP hz1;simp only[Oi,Jq,Du,bD]at hf ⊢;cases h1:a.token.kind==1 with
   |true=>
    simp only[Ca,Km,Aa,Ym hat,U5 (show(lowS a.token.text).length<=big by unfold lowS;rw[Ab];exact hat),ZN happ];cases medS (lowS a.token.text)with
    |true=>exact .inl ⟨(⟨r⟩,(0,[],0,[],false),(1,[],0,[],false),[medC (lowS a.token.text)]),rfl,rfl,rfl,_,rfl,rfl,rfl⟩
    |false=> right;simp only[Xa,Ca,Ba];exact⟨_,rfl,ZK _⟩
   |false=>
    obtain⟨c,b,g1,g2,g3⟩:=hf;simp only[Ba,g1,Aa,Qd,ZN happ];cases hs:s==[]with
    |false=>
     right;simp only[Xa,Ca];cases b<;>exact⟨_,rfl,ZK _⟩
    |true=>
     cases hfs:Ai a with
     |none=> rw[hfs]at g2;obtain rfl:b=false:=g2;exact .inr ⟨_,rfl,ZK _⟩
     |some x=>
      rw[hfs]at g2;obtain rfl:b=true:=g2;obtain rfl:c=x:=g3 x hfs;have h21:(a.token.kind==21)=true:=by
       unfold Ai at hfs;cases hk:a.token.kind==21 with
       |true=>rfl
       |false=>rw[hk]at hfs;cases hfs
      simp only[h21,Ca];exact .inl ⟨_,rfl,rfl,rfl,_,rfl,rfl,rfl⟩
 ·rintro⟨⟨v⟩,_,_,acc⟩ ⟨rfl,rfl,c,hc,rfl,hv⟩;have hv:v=l1.tail:=hv;subst hv;have hzt:zL zf l1.tail<=big:=ma (Gg (Uh _)) hz1;have hlt:=Qw fF l1;have hrs:Si l1.tail=Si (sp l1.tail):=by rw[Dr,Dr (sp l1.tail),uk]
  simp only[hc,QY,Aa,hrs];refine bM (fun s:zh×(Int×Str×Int×Str×Bool)×(Int×Str×Int×Str×Bool)×List zt=>s.1.v.length) (fun s=>s.2.1=(0,[],0,[],false)/\s.2.2.1=(1,[],0,[],false)/\sp s.1.v=s.1.v/\zL zf s.1.v<=big/\s.2.2.2.length+s.1.v.length<=big)
   (fun t (r:(zt×Bool)×zh)=>MayR r.1 ((Si t.1.v).map fun q=>finQ (s==notW) (t.2.2.2++q))) ?_ ?_
  ·rintro⟨⟨v⟩,_,_,acc⟩ ⟨rfl,rfl,hv1,hv2,hv3⟩;simp only at hv1 hv2 hv3;cases v with
   |nil=>
    right;right;refine⟨(⟨[]⟩,(0,[],0,[],false),(1,[],0,[],false),acc),rfl,?_⟩;have hr:Si []=some []:=by rw[Dr,WR]
    simp only[hr,ib,Rb];cases hn:s==[110,111,116]with
    |true=>exact⟨_,rfl,Kj _⟩
    |false=>exact⟨_,rfl,Kj _⟩
   |cons a r=>
    have hpos:decide (((a::r).length:Int)>0)=true:=Fa (by simp only[Da];omega);simp only[hpos,Ca];rw[Jw [andW] (a::r) (fun x hx=>(Dn hv2 hx).1) (by intro s hs;simp at hs;subst hs;exact⟨by decide,by decide⟩) (by decide)];rw[Dr,hv1];simp only[Ni,headW];cases isW andW a with
    |false=> right;left;exact⟨_,rfl,ZK _⟩
    |true=>
     have e0:(andW==([]:Str))=false:=rfl;rw[ZI]at hv2;have hz2:zL zf (sp r)<=big:=ma (Gg (Q0 _)) (by omega);obtain⟨c,b,g1,g2,g3⟩:=AP hz2;have hlr:=mg r;simp only[Da]at hv3;simp only[Ca,Aa,e0,Ba,Ye,QY,g1];cases hsr:sp r with
     |nil=> rw[hsr]at g2;obtain rfl:b=false:=g2;right;left;exact⟨_,rfl,ZK _⟩
     |cons d r'=>
      rw[hsr]at g2 g3 hlr hz2;rw[ZI]at hz2;simp only[Du,bD]at g2 g3 ⊢;cases hfs:Ai d with
      |none=> rw[hfs]at g2;obtain rfl:b=false:=g2;right;left;exact⟨_,rfl,ZK _⟩
      |some x=>
       rw[hfs]at g2;obtain rfl:b=true:=g2;obtain rfl:c=x:=g3 x hfs;have h21:(d.token.kind==21)=true:=by
        unfold Ai at hfs;cases hk:d.token.kind==21 with
        |true=>rfl
        |false=>rw[hk]at hfs;cases hfs
       have hap:Zp acc.length 1 104=true:=ZU (by unfold big at hv3;omega);have hlr':=mg r';rw[Da]at hlr;left;refine⟨(⟨sp r'⟩,(0,[],0,[],false),(1,[],0,[],false),acc++[c]),?_,⟨rfl,rfl,uk _,ma (Gg (Q0 _)) (by omega),?_⟩,?_,?_⟩
       ·simp only[Eb,Ba,hap,Zy,h21,Ca,Qd]
       ·simp only[Ia,Da,Ya];omega
       ·simp only[Da];omega
       ·intro q hq;have hsp:Si (sp r')=Si r':=by rw[Dr,Dr r',uk]
        simp only[hsp]at hq;simp only;cases hr:Si r' with
        |none=>rw[hr]at hq;exact hq
        |some z=> rw[hr]at hq;simp only[ib,ja,Fe]at hq ⊢;exact hq
  ·refine⟨rfl,rfl,uk _,ma (Gg (Q0 _)) hzt,?_⟩;have:=mg l1.tail;have h1b:1<=big:=by unfold big;omega
   simp only[Da,Ya,List.length_tail]at*;omega
def Rx:zt:=notC (allC [medC [97,108,108]])
def orN(o:Option zt):zt:=match o with
 |some c=>c
 |none=>Rx
theorem NN(k:Int): ∀(l:List za) (a:List (List za)×List za) (pre:List za),(∀p∈a.1,p.Sublist pre)->a.2.Sublist pre->
  (∀p∈(l.foldl (Vf k) a).1,p.Sublist (pre++l))/\(l.foldl (Vf k) a).2.Sublist (pre++l)
 |[],a,pre,h1,h2=>by rw[Rb];exact⟨h1,h2⟩
 |v::l,a,pre,h1,h2=>by
  have e:pre++v::l=(pre++[v])++l:=by simp
  rw[Xd,e];refine NN k l _ _ ?_ ?_
  ·intro p hp;unfold Vf at hp;split at hp
   ·rw[Jc]at hp;rcases hp with hp|hp
    ·exact(h1 p hp).trans (Wd _ _)
    ·rw[Oc]at hp;subst hp;exact h2.trans (Wd _ _)
   ·exact(h1 p hp).trans (Wd _ _)
  ·unfold Vf;split
   ·exact List.nil_sublist _
   ·exact List.Sublist.append h2 (Be _)
theorem rU{k:Int}{l p:List za}(h:p∈Tf k l):p.Sublist l:=by
 obtain⟨h1,h2⟩:=NN k l ([],[]) [] (by intro p hp;cases hp) (Be _);rw[Gc]at h1 h2;unfold Tf at h;rw[Jc]at h;rcases h with h|h
 ·exact h1 p h
 ·rw[Oc]at h;subst h;exact h2
theorem sU(k:Int)(l:List za):(Tf k l).length<=l.length+1:=by obtain⟨_,h,_⟩:=Ev k l ([],[]);unfold Tf Pf;simp only[Ia,Da,Ya]at*;omega
theorem XT: ∀l:List za,2*l.length<=zL zf l
 |[]=>by simp
 |v::l=>by have:=XT l;have:=Q5 v;rw[ZI,Da];omega
theorem WS: ∀{l:List za},sp l=[]-> ∀v∈l,isSp v=true
 |[],_,v,h=>by cases h
 |a::l,hs,v,h=>by
  rw[bu]at hs;cases ha:isSp a with
  |false=>rw[ha,Ha (by simp)]at hs;cases hs
  |true=>
   rw[ha,Ka rfl]at hs;rcases Db.1 h with rfl|h
   ·exact ha
   ·exact WS hs v h
theorem EM: ∀(l:List za) (b:List za),(∀v∈l,isSp v=true)->(l.foldl (Vf 18) ([],b)).1=[]
 |[],b,_=>rfl
 |v::l,b,h=>by
  have hv:=h v Jb;unfold isSp at hv;have e:(v.token.kind==18)=false:=by rw[Ob]at hv;rw[hv];rfl
  rw[Xd,Vf,e,Ha (by simp)];exact EM l _ fun w hw=>h w (Cb _ hw)
theorem zBw{l:List za}(h:sp l=[]):(Tf 18 l).length=1:=by unfold Tf Pf;rw[EM l [] (WS h)];rfl
def Su(x:List za):zt:=⟨2,[],0,noDC,(Tf 18 x).map fun p=>orN (og p)⟩
def nilC:zt:=⟨0,[],0,noDC,[]⟩
def ll(x:List za):zt×Int:=
 if errS x=0 then(if sp x=[]then(allC [],0)else if 64<(Tf 18 x).length then(nilC,4)else(Su x,0))else(nilC,errS x)
theorem zA5{x:List za}(hz:zL zf x<=big):Ap x=some (ll x):=by
 unfold Ap ll;have hsz:=Dj x;simp only[pG (show szL x<=big by omega),ze,Aa];by_cases he:errS x=0
 ·have hn: ¬((18:Int)<1\/(24:Int)<18):=by decide
  have e0:((0:Int) != 0)=false:=rfl;simp only[Ka he,Ha hn,e0,Ba,QY,Aa];have hP:=sU 18 x;have hx2:=XT x;have hb2:2<=big:=by unfold big;omega
  have hmem: ∀p∈Tf 18 x,zL zf p<=big:=fun p hp=>ma (Gg (rU hp)) hz;have hone:sp x=[]->(Tf 18 x).length=1:=zBw;generalize hPe:Tf 18 x=P at*;have key:(bif decide ((P.length:Int)>64)then some ((⟨0,[],0,(⟨[],[],false⟩:Zm),[]⟩:zt),(4:Int))else
    Zl (fun(s4:Int×(Int×Str×Int×Str×Bool)×List zt)=>
     bif decide (s4.1<(P.length:Int))then
      (geti P s4.1).bind fun y5=>
      (QU (⟨y5⟩:zh)).bind fun y6=>
      Zt (X:=(Int×Str×Int×Str×Bool)×List zt×zt) (
        bif !y6.1.2 then
         some (LX.out ((s4.2.1.1,s4.2.1.2.1,s4.2.1.2.2.1,s4.2.1.2.2.2.1,s4.2.1.2.2.2.2),s4.2.2,(⟨3,[],0,(⟨[],[],false⟩:Zm),[(⟨1,[],0,(⟨[],[],false⟩:Zm),[(⟨4,[97,108,108],0,(⟨[],[],false⟩:Zm),[]⟩:zt)]⟩:zt)]⟩:zt)))
        else
         some (LX.out ((s4.2.1.1,s4.2.1.2.1,s4.2.1.2.2.1,s4.2.1.2.2.2.1,s4.2.1.2.2.2.2),s4.2.2,(⟨y6.1.1.kind,y6.1.1.name,y6.1.1.num,y6.1.1.decl,y6.1.1.list⟩:zt)))) fun j7=>
      need (Zp j7.2.1.length 1 104)<|
      some (LO.again (w64 (s4.1+1),(j7.1.1,j7.1.2.1,j7.1.2.2.1,j7.1.2.2.2.1,j7.1.2.2.2.2),j7.2.1++[(⟨j7.2.2.kind,j7.2.2.name,j7.2.2.num,j7.2.2.decl,j7.2.2.list⟩:zt)]))
     else
      some (LO.out ((s4.2.1.1,s4.2.1.2.1,s4.2.1.2.2.1,s4.2.1.2.2.2.1,s4.2.1.2.2.2.2),s4.2.2)):Int×(Int×Str×Int×Str×Bool)×List zt->Option (LO (Int×(Int×Str×Int×Str×Bool)×List zt) ((Int×Str×Int×Str×Bool)×List zt) (zt×Int))) (0,(2,[],0,[],false),[]) fun o8=>
    some ((⟨o8.1.1,o8.1.2.1,o8.1.2.2.1,(⟨o8.1.2.2.2.1,[],o8.1.2.2.2.2⟩:Zm),o8.2⟩:zt),(0:Int)))=some (if 64<P.length then(nilC,4)else(⟨2,[],0,noDC,P.map fun p=>orN (og p)⟩,0)):=by
   by_cases h64:64<P.length
   ·have e:decide ((P.length:Int)>64)=true:=Fa (by omega);rw[e,Ka h64];rfl
   ·have e:decide ((P.length:Int)>64)=false:=Ta (by omega);rw[e,Ha h64,Ba];refine(fJ P (fun(_:Unit) _=>()) (fun _ i=>((i:Int),(2,[],0,[],false),(P.take i).map fun p=>orN (og p))) (fun _=>((2,[],0,[],false),P.map fun p=>orN (og p))) (a0:=()) rfl ?_ ?_).trans rfl
    ·intro i _ h;have hap:Zp ((P.take i).map fun p=>orN (og p)).length 1 104=true:=by refine ZU ?_;rw[Ab,Tc];omega
     obtain⟨⟨⟨c,b⟩,rd⟩,g1,g2,g3⟩:=zCz (hmem _ (Nb h));have hc:(bif b then c else Rx)=orN (og P[i]):=by
      cases hq:og P[i]with
      |none=> rw[hq]at g2;obtain rfl:b=false:=g2;rfl
      |some z=> rw[hq]at g2;obtain rfl:b=true:=g2;exact g3 z hq
     have ht:(P.take (i+1)).map (fun p=>orN (og p))=(P.take i).map (fun p=>orN (og p))++[bif b then c else Rx]:=by rw[Lc h,Oe,hc];rfl
     simp only[ZY h,Ca,Zu h,Aa,g1,ht];cases b with
     |false=>simp only[Xa,Ca,zG,hap,Zy,Zw h (show P.length<=big by omega)];rfl
     |true=>simp only[Eb,Ba,Ca,zG,hap,Zy,Zw h (show P.length<=big by omega),Qd]
    ·intro _;simp only[ZM,Ba,Cf]
  have hl0:(((sp x).length:Int)==0)=decide (sp x=[]):=by
   cases sp x with
   |nil=>rfl
   |cons a r=> have:(((a::r).length:Int)==0)=false:=Ga.2 (by simp only[Da];omega);rw[this];rfl
  have h1:((P.length:Int)==1)=decide (P.length=1):=by
   by_cases h:P.length=1
   ·rw[Fa h,h];rfl
   ·rw[Ta h];exact Ga.2 (by omega)
  simp only[hl0,h1];have haske:Su x=⟨2,[],0,noDC,P.map fun p=>orN (og p)⟩:=by unfold Su;rw[hPe]
  rw[haske];by_cases hs:sp x=[]
  ·have e1:=Fa (hone hs);have e2:=Fa hs;simp only[e1,e2,Ca,zj0,Ka hs];rfl
  ·have e2:=Ta hs;simp only[e2,Ba,Ha hs];cases decide (P.length=1)with
   |true=>exact key
   |false=>exact key
 ·have e0:(errS x != 0)=true:=Ve.2 he;simp only[Ha he,e0,Ca];rfl
def MC(o:Option Zm):Zm×Bool:=match o with
 |some d=>(d,true)
 |none=>(⟨[],[],false⟩,false)
def oneO(x:List za):Option Zm:=bif (oneS x).2 then some (oneS x).1 else none
theorem zEV{x:List za}(h:(oneS x).2=false):oneS x=noD:=by
 unfold oneS at h ⊢;split
 ·rfl
 ·rename_i n r e;simp only[e]at h;cases hk:n.token.kind==1 with
  |false=>rfl
  |true=>
   simp only[hk,Ca]at h ⊢;split
   ·rfl
   ·rename_i c q e2;simp only[e2]at h;cases hc:c.token.kind==16 with
    |false=>rfl
    |true=>
     simp only[hc,Ca]at h ⊢;cases hd:Bh ⟨nmD n.token.text,(Fg (q.dropWhile isSp)).1,(Fg (q.dropWhile isSp)).2⟩with
     |false=>rfl
     |true=>rw[hd]at h;cases h
theorem zCq(x:List za):MC (oneO x)=oneS x:=by
 unfold oneO;cases h:(oneS x).2 with
 |true=>show((oneS x).1,true)=_;rw[<-h]
 |false=>rw[zEV h];rfl
theorem JX{x:List za}(hz:zL zf x<=big)(he:errS x=0):Hz x=some ((MC (oneO x)).1,(MC (oneO x)).2,0):=by have hsz:=Dj x;unfold Hz;have:((0:Int) != 0)=false:=rfl;rw[zCq];simp only[wo (show szL x<=big by omega),he,this,JP (show szL x<=big by omega),ze,Aa,Ba]
theorem zCF{v:za}{c:Int}(h:shV v c=true):shV v 0=true:=by
 rw[GJ]at h ⊢;have e:((0:Int) != 0)=false:=rfl;rw[e];cases h1:(Zb v.token.kind==0&&decide (0<v.list.length))with
 |true=>rw[h1]at h;cases h
 |false=>
  rw[h1]at h;cases h2:(Zb v.token.kind != 0&& !(shL v.list (Zb v.token.kind)))with
  |true=>rw[h2]at h;simp at h
  |false=>rfl
theorem wK{c:Int}: ∀{l:List za},shL l c=true->shL l 0=true
 |[],_=>by rw[shL]
 |v::r,h=>by rw[shL,Ea]at h ⊢;exact⟨zCF h.1,wK h.2⟩
theorem wT{c:Int}{v:za}: ∀{l:List za},shL l c=true->v∈l->shV v c=true
 |[],_,h=>by cases h
 |w::r,h,hv=>by
  rw[shL,Ea]at h;rcases Db.1 hv with rfl|hv
  ·exact h.1
  ·exact wT h.2 hv
theorem iN{v:za}: ∀{l:List za},v∈l->Nk v<=jf l
 |[],h=>by cases h
 |w::r,h=>by
  rw[jf];rcases Db.1 h with rfl|h
  ·omega
  ·have:=iN h;omega
theorem pM{v:za}: ∀{l:List za},v∈l->(tokV v).length<=(tokL l).length
 |[],h=>by cases h
 |w::r,h=>by
  rw[tokL,Ia];rcases Db.1 h with rfl|h
  ·omega
  ·have:=pM h;omega
theorem NV{l:List za}:errS l=0↔jf l<=16/\(tokL l).length<=1500/\shL l 0=true:=by
 unfold errS;by_cases h1:16<jf l
 ·rw[Ka h1];constructor
  ·intro h;cases h
  ·rintro⟨h,_⟩;omega
 rw[Ha h1];by_cases h2:1500<(tokL l).length
 ·rw[Ka h2];constructor
  ·intro h;cases h
  ·rintro⟨_,h,_⟩;omega
 rw[Ha h2];cases shL l 0 with
 |true=>simp;omega
 |false=>simp
theorem SK{l:List za}(h:errS l=0){a:za}(ha:a∈l)(hk:(a.token.kind==21)=true):errS a.list=0:=by
 rw[Ob]at hk;rw[NV]at h ⊢;obtain⟨h1,h2,h3⟩:=h;have c:Zb a.token.kind=22:=by rw[hk];rfl
 have d:=iN ha;have t:=pM ha;have s:=wT h3 ha;rw[yL,c,Ha (by decide)]at d;rw[Hm,c,Ha (by decide)]at t;simp only[Da,Ia,Ya]at t;rw[GJ,c]at s;refine⟨by omega,by omega,wK (c:=22) ?_⟩;cases hs:shL a.list 22 with
 |true=>rfl
 |false=>rw[hs]at s;simp at s
def uR(d:Zm):zt:=⟨7,[],0,d,[]⟩
def Rq:zt:=⟨8,[],0,noDC,[]⟩
def Mg(f:List za->Option zt)(a:za):Option zt:=
 bif a.token.kind==2 then some Rq else bif a.token.kind==21 then(match oneO a.list with
  |some d=>some (uR d)
  |none=>match f a.list with
   |some c=>some c
   |none=>some Rq)else none
def ui(f:List za->Option zt)(l:List za):Option zt:=match l with
 |[]=>none
 |a::_=>Mg f a
def si(f:List za->Option zt)(op:Str):Nat->Bool->List za->Option (List zt)
 |0,_,_=>none
 |n+1,flag,l=>match l with
  |[]=>some []
  |a::r=>bif flag&&(isW op a&&decide ((sp r).length<r.length))then(match sp r with
   |[]=>none
   |b::r'=>match Mg f b with
    |none=>none
    |some x=>(si f op n (decide ((sp r').length<r'.length)) (sp r')).map (x:: ·))else none
def Ug(f:List za->Option zt)(op:Str)(flag:Bool)(l:List za):Option (List zt):=si f op (l.length+1) flag l
theorem KP(f:List za->Option zt)(op:Str): ∀{n m:Nat} {flag:Bool} {l:List za},l.length<n->l.length<m->si f op n flag l=si f op m flag l
 |0,_,_,_,h,_=>by omega
 |_,0,_,_,_,h=>by omega
 |n+1,m+1,flag,l,h1,h2=>by
  cases l with
  |nil=>rfl
  |cons a r=>
   unfold si;simp only;cases flag&&(isW op a&&decide ((sp r).length<r.length))with
   |false=>rfl
   |true=>
    simp only[Ca];cases hs:sp r with
    |nil=>rfl
    |cons b r'=>
     have hl:=mg r;have hl2:=mg r';rw[hs,Da]at hl;rw[Da]at h1 h2;simp only;cases Mg f b with
     |none=>rfl
     |some x=>rw[KP f op (n:=n) (m:=m) (by omega) (by omega)]
theorem RO(f:List za->Option zt)(op:Str)(n:Nat)(flag:Bool)(a:za)(r:List za):si f op (n+1) flag (a::r)=
  bif flag&&(isW op a&&decide ((sp r).length<r.length))then(match sp r with
   |[]=>none
   |b::r'=>match Mg f b with
    |none=>none
    |some x=>(si f op n (decide ((sp r').length<r'.length)) (sp r')).map (x:: ·))else none:=rfl
theorem YM(f:List za->Option zt)(op:Str)(flag:Bool):Ug f op flag []=some []:=rfl
theorem rG(f:List za->Option zt)(op:Str)(flag:Bool)(a:za)(r:List za):Ug f op flag (a::r)=
  bif flag&&(isW op a&&decide ((sp r).length<r.length))then(match sp r with
   |[]=>none
   |b::r'=>match Mg f b with
    |none=>none
    |some x=>(Ug f op (decide ((sp r').length<r'.length)) (sp r')).map (x:: ·))else none:=by
 unfold Ug;rw[RO];cases flag&&(isW op a&&decide ((sp r).length<r.length))with
 |false=>rfl
 |true=>
  simp only[Ca];cases hs:sp r with
  |nil=>rfl
  |cons b r'=>
   have hl:=mg r;have hl2:=mg r';rw[hs,Da]at hl;simp only;cases Mg f b with
   |none=>rfl
   |some x=>rw[KP f op (n:=(a::r).length) (m:=(sp r').length+1) (by rw[Da];omega) (by omega)]
def orC(l:List zt):zt:=⟨2,[],0,noDC,l⟩
def Ih(f:List za->Option zt)(l:List za):Option zt:=match sp l with
 |[]=>none
 |a::r=>bif isW notW a then(bif decide ((sp r).length<r.length)&&(sp (sp r).tail).isEmpty then(ui f (sp r)).map notC else none)else
  match Mg f a with
  |none=>none
  |some x=>match sp r with
   |[]=>some x
   |w::t=>bif isW orW w then(Ug f orW (decide ((sp r).length<r.length)) (w::t)).map fun q=>orC (x::q)
    else(Ug f andW (decide ((sp r).length<r.length)) (w::t)).map fun q=>allC (x::q)
theorem EH{f g:List za->Option zt}{a:za}(h:f a.list=g a.list):Mg f a=Mg g a:=by unfold Mg;rw[h]
theorem pO{f g:List za->Option zt}(op:Str): ∀{n:Nat} {flag:Bool} {l:List za},(∀a∈l,f a.list=g a.list)->si f op n flag l=si g op n flag l
 |0,_,_,_=>rfl
 |n+1,flag,[],_=>rfl
 |n+1,flag,a::r,h=>by
  have hr: ∀b∈sp r,f b.list=g b.list:=fun b hb=>h b (Cb _ ((Q0 r).subset hb));unfold si;simp only;cases flag&&(isW op a&&decide ((sp r).length<r.length))with
  |false=>rfl
  |true=>
   simp only[Ca];cases hs:sp r with
   |nil=>rfl
   |cons b r'=> rw[hs]at hr;have hr': ∀b∈sp r',f b.list=g b.list:=fun b hb=>hr b (Cb _ ((Q0 r').subset hb));simp only;rw[EH (hr b Jb),pO op hr']
theorem eO{f g:List za->Option zt}{l:List za}(h: ∀a∈l,f a.list=g a.list):Ih f l=Ih g l:=by
 have h0: ∀a∈sp l,f a.list=g a.list:=fun a ha=>h a ((Q0 l).subset ha);unfold Ih;cases hs:sp l with
 |nil=>rfl
 |cons a r=>
  rw[hs]at h0;have hr: ∀b∈sp r,f b.list=g b.list:=fun b hb=>h0 b (Cb _ ((Q0 r).subset hb));have hh:ui f (sp r)=ui g (sp r):=by
   cases hs2:sp r with
   |nil=>rfl
   |cons b t=>exact EH (hr b (by rw[hs2];exact Jb))
  simp only;rw[hh,EH (h0 a Jb)];cases hs2:sp r with
  |nil=>rfl
  |cons w t=> rw[hs2]at hr;simp only[Ug,pO _ hr]
def Wl:Nat->List za->Option zt
 |0,_=>none
 |n+1,l=>Ih (Wl n) l
def Gn(l:List za):Option zt:=Wl (zL zf l+1) l
theorem MI{l:List za}{a:za}(ha:a∈l):zL zf a.list<zL zf l:=by have h1:=Vg (f:=zf) ha;have h2:=Q5 a;omega
theorem OP: ∀{n m:Nat} {l:List za},zL zf l<n->zL zf l<m->Wl n l=Wl m l
 |0,_,_,h,_=>by omega
 |_,0,_,_,h=>by omega
 |n+1,m+1,l,h1,h2=>by show Ih (Wl n) l=Ih (Wl m) l;refine eO fun a ha=> ?_;have:=MI ha;exact OP (by omega) (by omega)
theorem lK(l:List za):Gn l=Ih Gn l:=by show Ih (Wl (zL zf l)) l=_;refine eO fun a ha=> ?_;have:=MI ha;exact OP (by omega) (by omega)
end Go.Lv.VT
