/- What is read of tokens has its shape. -/
import Derived.Test.YtkecjfeffabgiaaGreatDoorXf
import Derived.Test.YtkecjfeffabgiaaGreatDoorXa
import Derived.KernelRfl
import Derived.Test.YtkecjfeffabgiaaGreatDoorMo
import Derived.Test.YtkecjfeffabgiaaGreatDoorXd
set_option linter.unusedSimpArgs false
set_option linter.unusedVariables false
namespace Go.Lv.VT
set_option maxRecDepth 100000
def szP:List (List zb)->Nat
 |[]=>0
 |l::r=>1+szL l+szP r
theorem zzG{R:Type}(x:Option R):both x x=x:=by unfold both;rw[Ka rfl]
theorem zDC{l:List zb}(h:szL l<=big):QR l=some l:=by
 unfold QR;have b:=Wi l;unfold big at h;have a:zW 0 l.length 80=true:=QH (by omega);cases l with
 |nil=>simp only[a,zzG,zK,List.isEmpty_nil,Da]
 |cons v r=>simp_all
theorem xH{l:List zb}(h:szL l<=big):uj l=some l:=by
 refine Ul (fun l=>szL l) (fun l=>szL l<=big) (fun l=>l) (fun S l hl hS=> ?_) h;unfold XG;have hlen:=Wi l;simp only[ze,zDC hl,Aa];refine(Kw l (fun i (a:List zb)=>((i:Int),a)) (fun v a=>some (.again a)) (fun a=>some (.out a)) (fun i a=>a=l) (a:=l) rfl rfl (fun i a hi hI=> ?_) (fun a hI=> ?_) (r:= .out l) ?_)
 ·subst hI;have hsz:=Am (jb hi);have hv2:=Aj a[i];refine⟨?_,fun a' ha=>by cases ha;rfl⟩;have h1:S a[i].list=some a[i].list:=hS a[i].list (by omega) (by omega);have h2:decide ((0:Int)<=(i:Int))=true:=Ga (by omega);have h3:a[i]? =some a[i]:=Ya hi;have h4:a.set i ⟨a[i].token,a[i].list⟩=a:=by
   have:(⟨a[i].token,a[i].list⟩:zb)=a[i]:=by cases a[i];rfl
   rw[this,List.set_getElem_self]
  simp only[ZF hi,h2,vg,Da,zK,Nb,h3,Aa,h1,h4,Zp hi (by omega),jc]
 ·grind
 ·rw[iq (fun a v=>a) (fun v a=>rfl)];congr 2;clear hl hS hlen h;generalize l=b at*;have: ∀(m b:List zb),m.foldl (fun a _=>a) b=b:=by
   intro m
   induction m with
   |nil=>intro b;rfl
   |cons v m ih=>grind
  exact this _ _
theorem KH{l:List zb}{i:Nat}(h:i<l.length):Ux ((i:Int),l)=some (isSp l[i]):=by unfold Ux;simp only[ze,Zo h,Aa];rfl
theorem wT{l:List zb}(h:szL l<=big):Vl l=some (if errS l=0 then(trimS l,0)else([],errS l)):=by
 unfold Vl;have hlen:=Wi l;simp only[ze,ut h,Aa];by_cases h1:errS l=0
 ·rw[Ka h1];have hne:(errS l != 0)=false:=by simp[h1]
  simp only[hne,Ba];have hdl:=List.Sublist.length_le (Sd isSp (l:=l));have hdd:=uE isSp l;refine(Qd (r:= .out ((l.length - (l.dropWhile isSp).length:Nat):Int)) (qa (fun s=> ∃k:Nat,s=(k:Int)/\k<=l.length/\(l.drop k).dropWhile isSp=l.dropWhile isSp) (fun s=>l.length - s.toNat) _ (fun s hs=> ?_) ⟨0,rfl,Kc _,rfl⟩)).trans ?_
  ·obtain⟨k,rfl,hk,he⟩:=hs;by_cases hlt:k<l.length
   ·rw[Lb hlt,Bc]at he;have hw:=Zp hlt (by grind);cases hv:isSp l[k]with
    |true=> rw[Ka hv]at he;refine .inl ⟨((k+1:Nat):Int),?_,⟨k+1,rfl,hlt,he⟩,by omega⟩;simp only[ZF hlt,zB,KH hlt,Aa,hv,Da,hw]
    |false=>
     rw[Ia (by rw[hv];simp)]at he;refine .inr (.inl ⟨(k:Int),?_,?_⟩)
     ·simp only[ZF hlt,zB,KH hlt,Aa,hv,Da,Ba]
     grind
   ·have hkk:k=l.length:=by omega
    simp_all
  ·rw[znv];generalize hf:l.length - (l.dropWhile isSp).length=f at hdd;have hfl:f<=l.length:=by omega
   generalize l.dropWhile isSp=d at hdd;subst hdd;refine(Qd (r:= .out ((f+(trimB (l.drop f)).length:Nat):Int)) (qa (fun s=> ∃m:Nat,s=(m:Int)/\f<=m/\m<=l.length/\trimB ((l.take m).drop f)=trimB (l.drop f)) (fun s=>s.toNat) _ (fun s hs=> ?_) ⟨l.length,rfl,hfl,Ua _,by grind⟩)).trans ?_
   ·obtain⟨m,rfl,hm1,hm2,he⟩:=hs;by_cases hlt:f<m
    ·have hm:m - 1<l.length:=by omega
     have hsn:(l.take m).drop f=(l.take (m - 1)).drop f++[l[m - 1]]:=by
      have:l.take m=l.take (m - 1)++[l[m - 1]]:=by
       have:=Xb hm
       rwa [show m - 1+1=m by omega]at this
      rw[this,Bh (by rw[yc];omega)]
     rw[hsn,Jo]at he;have h2:decide ((f:Int)<(m:Int))=true:=Ga (by omega);have hw:w64 ((m:Int) - 1)=((m - 1:Nat):Int):=by rw[w64,Zz (by omega) (by unfold big at h;omega)];omega
     cases hv:isSp l[m - 1]with
     |true=> rw[Ka hv]at he;refine .inl ⟨((m - 1:Nat):Int),?_,⟨m - 1,rfl,by omega,by omega,he⟩,by omega⟩;simp only[h2,zB,hw,KH hm,Aa,hv,Da]
     |false=>
      rw[Ia (by rw[hv];simp)]at he;refine .inr (.inl ⟨(m:Int),?_,?_⟩)
      ·simp only[h2,zB,hw,KH hm,Aa,hv,Da,Ba]
      ·rw[<-he];congr 1;simp;omega
    ·have hmm:m=f:=by omega
     subst hmm;have h2:decide ((m:Int)<(m:Int))=false:=Db (by omega);refine .inr (.inl ⟨(m:Int),?_,?_⟩)
     ·simp only[h2,Zw,Aa,Ba]
     ·rw[je (by rw[yc];omega),zC1]at he;rw[<-he];simp
   ·rw[znv];have htl:=List.Sublist.length_le (ek (l.drop f));rw[Dc]at htl;have hcut:List.drop f (List.take (f+(trimB (l.drop f)).length) l)=trimB (l.drop f):=by
     rw[Li];have: ∀d:List zb,d.take (trimB d).length=trimB d:=by intro d;unfold trimB;rw[List.length_reverse];have h3:=uE isSp d.reverse;have h4:=List.Sublist.length_le (Sd isSp (l:=d.reverse));rw[List.length_reverse]at h3 h4;rw[<-h3,List.drop_reverse,List.reverse_reverse];congr 1;simp
     have e:=this (l.drop f);rw[show f+(trimB (l.drop f)).length - f=(trimB (l.drop f)).length by omega];exact e
    have hneed:(decide ((0:Int)<=(f:Int))&&(decide ((f:Int)<=((f+(trimB (l.drop f)).length:Nat):Int))&&(decide (((f+(trimB (l.drop f)).length:Nat):Int)<=((f+(trimB (l.drop f)).length:Nat):Int))&&decide (((f+(trimB (l.drop f)).length:Nat):Int)<=(l.length:Int))))&&decide True)=true:=by simp only[Ca,Ab];refine⟨?_,trivial⟩;omega
    have hts:trimS l=trimB (l.drop f):=by unfold trimS;rw[<-uE isSp l,hf]
    simp only[hneed,zK,Nb,hcut,xH (Ob (Gn ((ek _).trans (List.drop_sublist _ _))) h),Aa,hts]
 grind
def bg(k:Int)(a:List (List zb)×List zb)(v:zb):List (List zb)×List zb:=
 if v.token.kind==k then(a.1++[a.2],[])else(a.1,a.2++[v])
def Og(k:Int)(l:List zb):List (List zb)×List zb:=l.foldl (bg k) ([],[])
def ji(k:Int)(l:List zb):List (List zb):=(Og k l).1++[(Og k l).2]
theorem zyq{k:Int}{l:List zb}{i:Nat}(h:i<l.length):Og k (l.take (i+1))=bg k (Og k (l.take i)) l[i]:=by unfold Og;rw[Xb h,List.foldl_append];rfl
theorem zy9(a b:List (List zb)):szP (a++b)=szP a+szP b:=by
 induction a with
 |nil=>simp[szP]
 |cons x a c=>simp only[Sa,szP,c];omega
theorem PL(a b:List zb):szL (a++b)=szL a+szL b:=by
 induction a with
 |nil=>simp[szL]
 |cons x a c=>simp only[Sa,szL,c];omega
theorem mF(k:Int): ∀(l:List zb) (a:List (List zb)×List zb),szP (l.foldl (bg k) a).1+szL (l.foldl (bg k) a).2<=szP a.1+szL a.2+szL l/\(l.foldl (bg k) a).1.length<=a.1.length+l.length/\(l.foldl (bg k) a).2.length<=a.2.length+l.length
 |[],a=>by simp[szL]
 |v::l,a=>by
  rw[Ee];obtain⟨e,c,b⟩:=mF k l (bg k a v);have d:=Aj v;have:szP (bg k a v).1+szL (bg k a v).2<=szP a.1+szL a.2+szV v/\(bg k a v).1.length<=a.1.length+1/\(bg k a v).2.length<=a.2.length+1:=by
   unfold bg;split
   ·simp only[zy9,szP,szL,Ja,Fa,Eb];omega
   ·simp only[PL,szL,Ja,Fa,Eb];omega
  rw[szL,Fa];omega
theorem zyR{l:List zb}{k:Int}(h:szL l<=big):LB (l,k)=some (if errS l=0 then(if k<1\/24<k then([],2)else(ji k l,0))else([],errS l)):=by
 unfold LB;have hlen:=Wi l;simp only[ze,ut h,Aa];by_cases h1:errS l=0
 ·have hne:(errS l != 0)=false:=by simp[h1]
  rw[Ka h1];simp only[hne,Ba,kP];by_cases h2:k<1\/24<k
  ·have:(decide (k<1)||decide (k>24))=true:=by simpa using h2
   rw[Ka h2,this];rfl
  ·have:(decide (k<1)||decide (k>24))=false:=by rw[ic];exact⟨Db (by omega),Db (by omega)⟩
   rw[Ia h2,this];simp only[Ba];refine(Qd (r:= .out (((l.length - (Og k l).2.length:Nat):Int),(Og k l).1)) (qa (fun s=> ∃i from_:Nat,s=(((from_:Int),(i:Int)),(Og k (l.take i)).1)/\from_<=i/\i<=l.length/\(Og k (l.take i)).2=(l.take i).drop from_) (fun s=>l.length - s.1.2.toNat) _ (fun s hs=> ?_) ⟨0,0,by simp[Og],Ua _,Kc _,by simp[Og]⟩)).trans ?_
   ·obtain⟨i,fr,rfl,hfi,hil,he⟩:=hs;by_cases hi:i<l.length
    ·refine .inl ?_;have hw:=Zp hi (by unfold big at h ⊢;omega);have hpt:=zyq (k:=k) hi;have htk:l.take (i+1)=l.take i++[l[i]]:=Xb hi;unfold bg at hpt;simp only[ZF hi,Da,Zo hi,Aa];cases hv:(l[i].token.kind==k)with
     |true=>
      rw[Ka hv]at hpt;have hn:(decide ((0:Int)<=(fr:Int))&&(decide ((fr:Int)<=(i:Int))&&(decide ((i:Int)<=(i:Int))&&decide ((i:Int)<=(l.length:Int))))&&decide True)=true:=by simp only[Ca,Ab];refine⟨?_,trivial⟩;omega
      have hsz:szL (List.drop fr (List.take i l))<=big:=Ob (Gn ((List.drop_sublist _ _).trans (List.take_sublist _ _))) h;have hpl:=(mF k (l.take i) ([],[])).2.1;have hap:zW (Og k (l.take i)).1.length 1 24=true:=QH (by
       unfold Og;have:=List.length_take_le i l;unfold big at h;simp only[Eb]at hpl;omega)
      refine⟨((((i+1:Nat):Int),((i+1:Nat):Int)),(Og k (l.take (i+1))).1),?_,⟨i+1,i+1,rfl,Ua _,hi,?_⟩,?_⟩
      ·simp only[Da,hn,zK,Nb,xH hsz,Aa,hap,hw,zq,hpt,he]
      ·rw[hpt];simp
      ·simp only[Nb];omega
     |false=>
      rw[Ia (by rw[hv];simp)]at hpt;refine⟨(((fr:Int),((i+1:Nat):Int)),(Og k (l.take (i+1))).1),?_,⟨i+1,fr,rfl,by omega,hi,?_⟩,?_⟩
      ·simp only[Ba,zq,hw,hpt]
      ·rw[hpt,htk,he,Bh (by rw[yc];omega)]
      ·simp only[Nb];omega
    ·have hil:i=l.length:=by omega
     subst hil;rw[Yc]at he ⊢;refine .inr (.inl ⟨((fr:Int),(Og k l).1),by simp only[qA,Ba],?_⟩);rw[he,Dc];congr 2;omega
   ·rw[znv]
    -- the last part is behind
    have key: ∀(m:List zb) (a:List (List zb)×List zb) (p:List zb),a.2<:+p->(m.foldl (bg k) a).2<:+p++m:=by
     intro m
     induction m with
     |nil=>intro a p h;simpa using h
     |cons v m ih=>
      intro a p h;rw[Ee];have:(bg k a v).2<:+p++[v]:=by
       unfold bg;split
       ·exact List.nil_suffix
       ·obtain⟨q,hq⟩:=h;exact⟨q,by rw[<-hq,La]⟩
      have:=ih _ _ this
      rwa [La]at this
    have hsuf:=key l ([],[]) [] (Jf _);rw[Pb]at hsuf;have hdr:List.drop (l.length - (Og k l).2.length) l=(Og k l).2:=by unfold Og;exact(List.suffix_iff_eq_drop.1 hsuf).symm
    have hsz:szL (Og k l).2<=big:=by have:=Gn hsuf.sublist;unfold Og;omega
    have hle:(Og k l).2.length<=l.length:=by unfold Og;exact hsuf.length_le
    have hn:(decide ((0:Int)<=((l.length - (Og k l).2.length:Nat):Int))&&decide (((l.length - (Og k l).2.length:Nat):Int)<=(l.length:Int)))=true:=by simp only[Ca,Ab];omega
    have hpl:=(mF k l ([],[])).2.1;have hap:zW (Og k l).1.length 1 24=true:=QH (by
     unfold Og;unfold big at h;simp only[Eb]at hpl;omega)
    simp only[hn,zK,Nb,hdr,xH hsz,Aa,hap];rfl
 ·have h2:(errS l != 0)=true:=Lf.2 h1;rw[Ia h1];simp only[h2,Da]
def topc:List (zg×List zb)->Int
 |[]=>0
 |(o,_)::_=>zC o.kind
theorem zEQ{st:List (zg×List zb)}{t:zg}(ho: ∀x∈st,zC x.1.kind≠0)(h:(topc st != 0&&t.kind==topc st)=false): ¬Pp st t=true:=by
 cases st with
 |nil=>exact Bool.false_ne_true
 |cons x st=> obtain⟨o,out⟩:=x;have h0:(zC o.kind != 0)=true:=Lf.2 (ho (o,out) (Fb ..));show¬(t.kind==zC o.kind)=true;have h':(zC o.kind != 0&&t.kind==zC o.kind)=false:=h;rw[h0,Cb]at h';rw[h'];exact Bool.false_ne_true
mutual
/-- The tokens of values of their shape are read as these values. -/
theorem zKM: ∀(v:zb) (cur:List zb) (st:List (zg×List zb)) (rest:List zg),(∀x∈st,zC x.1.kind≠0)->shV v (topc st)=true->Oi v+st.length<=16->Fh (tokV v++rest) (cur,st)=Fh rest (cur++[v],st)
 |⟨t,l⟩,cur,st,rest,ho,hs,hd=>by
  rw[shV,Lc,ic,ic]at hs;obtain⟨⟨h1,h2⟩,h3⟩:=hs;have hn:=zEQ ho h2;rw[tokV];rw[Oi]at hd;by_cases h0:zC t.kind=0
  ·have hl:l=[]:=by rw[h0,show((0:Int)==0)=true from rfl,Cb,decide_eq_false_iff_not]at h1;exact Xf.1 (by omega)
   subst hl;rw[Ka h0,xc,Fh];unfold Xi;rw[Ia hn,Ia (fun h=>h h0),Aa]
  ·rw[Ia h0]at hd ⊢;have hz:(zC t.kind != 0)=true:=Lf.2 h0;rw[hz,Cb,Bool.not_eq_false']at h3;have ho': ∀x∈(t,cur)::st,zC x.1.kind≠0:=fun x hx=>by
    rcases Jb.1 hx with rfl|hx
    ·exact h0
    ·exact ho x hx
   rw[Sa,La,Fh];unfold Xi;rw[Ia hn,Ka h0,Ia (show¬st.length=16 by omega),Aa,CO l [] ((t,cur)::st) _ ho' h3 (by rw[Fa];omega),Pb,xc,Fh];unfold Xi;rw[Ka (show Pp ((t,cur)::st) ⟨zC t.kind,[],0,[],false⟩=true from Jd _),Aa];rfl
theorem CO: ∀(v:List zb) (cur:List zb) (st:List (zg×List zb)) (rest:List zg),(∀x∈st,zC x.1.kind≠0)->shL v (topc st)=true->ZP v+st.length<=16->Fh (tokL v++rest) (cur,st)=Fh rest (cur++v,st)
 |[],cur,st,rest,_,_,_=>by rw[tokL,Pb,Xa]
 |v::r,cur,st,rest,ho,hs,hd=>by rw[shL,Ca]at hs;rw[ZP]at hd;rw[tokL,La,zKM v cur st _ ho hs.1 (by omega),CO r _ st _ ho hs.2 (by omega),La];rfl
end
theorem GK{v:List zb}(h:errS v=0):ZP v<=16/\(tokL v).length<=1500/\shL v 0=true:=by
 unfold errS at h;split at h
 ·cases h
 split at h
 ·cases h
 split at h
 ·exact⟨by omega,by omega,by assumption⟩
 ·cases h
theorem zBW{v:List zb}(h:errS v=0):parS (tokL v)=(v,0):=by obtain⟨h1,h2,h3⟩:=GK h;have hb:=CO v [] [] [] (fun x hx=>by cases hx) h3 (by simpa using h1);rw[Xa,Pb,Fh]at hb;unfold parS;rw[Ia (by omega),hb];simp only[Eb,Ld];rw[Ia (by omega),shutAll]
inductive Cuts (k:Int):List zb->List (List zb)->Prop
 |one (p:List zb) (h: ∀x∈p,(x.token.kind==k)=false):Cuts k p [p]
 |more (p:List zb) (s:zb) (v:List zb) (ps:List (List zb)) (h: ∀x∈p,(x.token.kind==k)=false) (hs:(s.token.kind==k)=true) (hc:Cuts k v ps):Cuts k (p++s::v) (p::ps)
theorem tL(d:List zb): ∃r,d=trimB d++r/\(∀x∈r,isSp x=true)/\(trimB d=[]\/ ∃t v,trimB d=t++[v]/\isSp v=false):=by
 induction hn:d.length generalizing d with
 |zero=>
  obtain rfl:=Xf.1 hn;exact⟨[],rfl,fun x hx=>(by cases hx), .inl rfl⟩
 |succ n ih=>
  rcases Po d with rfl|⟨t,v,rfl⟩
  ·cases hn
  ·rw[Jo];cases hv:isSp v with
   |true=>
    rw[Ka rfl];obtain⟨r,h1,h2,h3⟩:=ih t (by rw[Ja]at hn;simpa using hn);refine⟨r++[v],by rw[<-La,<-h1],fun x hx=> ?_,h3⟩;rcases Ed.1 hx with hx|hx
    ·exact h2 x hx
    ·rw[Gc.1 hx];exact hv
   |false=> rw[Ia (by decide)];exact⟨[],(Xa _).symm,fun x hx=>(by cases hx), .inr ⟨t,v,rfl,hv⟩⟩
theorem UL: ∀(v:List zb),∃a,v=a++v.dropWhile isSp/\(∀x∈a,isSp x=true)/\ ∀x b,v.dropWhile isSp=x::b->isSp x=false
 |[]=>⟨[],rfl,fun x hx=>(by cases hx),fun x b h=>(by cases h)⟩
 |y::v=>by
  obtain⟨a,h1,h2,h3⟩:=UL v;cases hy:isSp y with
  |true=>
   rw[List.dropWhile_cons_of_pos hy];refine⟨y::a,by rw[Sa,<-h1],fun x hx=> ?_,h3⟩;rcases Jb.1 hx with rfl|hx
   ·exact hy
   ·exact h2 x hx
  |false=> rw[List.dropWhile_cons_of_neg (by rw[hy];decide)];exact⟨[],rfl,fun x hx=>(by cases hx),fun x b h=>(by cases h;exact hy)⟩
theorem zze(v:List zb):(trimS v).Sublist v:=(ek _).trans (Sd _)
def Kh(l:List zb):Prop:= ∀t v,l=t++[v]->isSp v=false
def Ei(l:List zb):Prop:= ∀a t,l=a::t->isSp a=false
theorem Kh.suf{a b:List zb}(h:Kh (a++b)):Kh b:=fun t v e=>h (a++t) v (by rw[e,La])
theorem Kh.id{l:List zb}(h:Kh l):trimB l=l:=by
 rcases Po l with rfl|⟨t,v,rfl⟩
 ·rfl
 ·rw[Jo,h t v rfl];rfl
theorem VS(l:List zb):Kh (trimB l):=by
 obtain⟨r,_,_,h|⟨t,v,h,hv⟩⟩:=tL l
 ·intro t v e;rw[h]at e;simp at e
 ·intro t' v' e;rw[h]at e;have:=List.append_inj_right' e rfl;injection this with e1;rw[<-e1];exact hv
theorem Ei.pre{a b:List zb}(h:Ei (a++b)):Ei a:=fun x t e=>h x (t++b) (by rw[e];rfl)
theorem Ei.id{l:List zb}(h:Ei l):l.dropWhile isSp=l:=by
 cases l with
 |nil=>rfl
 |cons a t=>rw[Bc,h a t rfl];rfl
theorem zHw(l:List zb):Ei (l.dropWhile isSp):=by obtain⟨a,_,_,h⟩:=UL l;exact fun x b e=>h x b e
theorem V7(l:List zb): ∃a,l=a++l.dropWhile isSp:=by obtain⟨a,h,_⟩:=UL l;exact⟨a,h⟩
theorem YK(l:List zb): ∃r,l=trimB l++r:=by obtain⟨r,h,_⟩:=tL l;exact⟨r,h⟩
theorem vQ{l:List zb}(h1:Ei l)(h2:Kh l):trimS l=l:=by unfold trimS;rw[h1.id,h2.id]
theorem left_eq{l:List zb}:Vt l=some (l.dropWhile isSp):=by
 unfold Vt ZZ;refine(Qd (r:= .out (l.dropWhile isSp)) (qa (fun s=>s.dropWhile isSp=l.dropWhile isSp) (fun s=>s.length) _ (fun s hs=> ?_) rfl)).trans ?_
 ·cases s with
  |nil=>exact .inr (.inl ⟨[],by simp,by rw[<-hs];rfl⟩)
  |cons v t=>
   have h1:decide (((v::t).length:Int)>0)=true:=by rw[fI];simp
   have h2:geti (v::t) 0=some v:=rfl;have h3:decide ((1:Int)<=((v::t).length:Int))=true:=by simp;omega
   rw[Bc]at hs;cases hv:isSp v with
   |true=> rw[hv]at hs;unfold isSp at hv;refine .inl ⟨t,?_,by simpa using hs,by simp⟩;simp only[h1,h2,h3,zB,ze,Aa,hv,Da,zK];rfl
   |false=> rw[hv]at hs;unfold isSp at hv;refine .inr (.inl ⟨v::t,?_,by rw[<-hs];rfl⟩);simp only[h1,h2,zB,ze,Aa,hv,Da,Ba]
 ·rw[znv]
theorem right_eq{d:List zb}(hd:szL d<=big):Mo d=some (trimB d):=by
 unfold Mo ZZ;refine(Qd (r:= .out (trimB d)) (qa (fun s=>trimB s=trimB d/\szL s<=big) (fun s=>s.length) _ (fun s hs=> ?_) ⟨rfl,hd⟩)).trans ?_
 ·rcases Po s with rfl|⟨t,v,rfl⟩
  ·exact .inr (.inl ⟨[],by simp,by rw[<-hs.1];rfl⟩)
  ·have hlen:=Wi (t++[v]);have hl2:(t++[v]).length=t.length+1:=by simp
   have hb:=hs.2;unfold big at hb;have h1:decide (((t++[v]).length:Int)>0)=true:=by rw[fI];simp
   have h4:w64 (((t++[v]).length:Int) - 1)=(t.length:Int):=by rw[w64,Zz (by omega) (by omega)];omega
   have h2:geti (t++[v]) (t.length:Int)=some v:=by rw[Zo (by omega)];simp
   have h3:(decide ((0:Int)<=(t.length:Int))&&decide ((t.length:Int)<=((t++[v]).length:Int)))=true:=by simp;omega
   have hs1:=hs.1;rw[Jo]at hs1;cases hv:isSp v with
   |true=> rw[Ka hv]at hs1;unfold isSp at hv;refine .inl ⟨t,?_,⟨hs1,Ob (Gn (Ue t [v])) hs.2⟩,by simp⟩;simp only[h1,h4,h2,h3,zB,ze,Aa,hv,Da,zK,Nb];simp
   |false=> rw[Ia (by rw[hv];simp)]at hs1;unfold isSp at hv;refine .inr (.inl ⟨t++[v],?_,by rw[<-hs1]⟩);simp only[h1,h4,h2,zB,ze,Aa,hv,Da,Ba]
 ·rw[znv]
def wo(v:zb):Bool:=v.token.kind==9&&v.token.text==[33]
theorem zGQ(v:zb):Ho v=some (wo v):=by unfold Ho ZZ wo;simp only[ze,Aa];cases v.token.kind==9<;>rfl
def impW:Str:=[105,109,112,111,114,116,97,110,116]
def endV(l:List zb):Option (List zb×zb):=match l.reverse with
 |[]=>none
 |v::t=>some (t.reverse,v)
theorem rA(t:List zb)(v:zb):endV (t++[v])=some (t,v):=by unfold endV;rw[List.reverse_append];simp
def Ug(v:List zb):List zb×Bool:=match endV v with
 |none=>(v,false)
 |some (t,z)=>bif !t.isEmpty&&(z.token.kind==1&&lowS z.token.text==impW)then
   (match endV (trimB t)with
   |none=>(v,false)
   |some (u,b)=>bif wo b then(trimB u,true)else(v,false))
  else(v,false)
theorem I9{t:List zb}{v:zb}(h:szL (t++[v])<=big):w64 (((t++[v]).length:Int) - 1)=(t.length:Int):=by
 have hlen:=Wi (t++[v]);have hl2:(t++[v]).length=t.length+1:=by simp
 unfold big at h;rw[w64,Zz (by omega) (by omega)];omega
theorem zAD(t:List zb)(v:zb):geti (t++[v]) (t.length:Int)=some v:=by rw[Zo (by simp)];simp
theorem p8(t:List zb)(v:zb):(decide ((0:Int)<=(t.length:Int))&&decide ((t.length:Int)<=((t++[v]).length:Int)))=true:=by simp;omega
theorem J8(t:List zb)(v:zb):List.take t.length (t++[v])=t:=by simp
theorem F9:lowS [105,109,112,111,114,116,97,110,116]=impW:=by decide+kernel
theorem L8{t:List zb}{v:zb}(h:szL (t++[v])<=big):szL t<=big/\v.token.text.length<=big:=by rw[PL,szL,Aj]at h;omega
theorem oQ(t:List zb):decide ((t.length:Int)>0)= !t.isEmpty:=by
 cases t with
 |nil=>rfl
 |cons a t=>exact Ga (by simp only[Fa];omega)
abbrev MK:=LX (List zb×(Str×Bool)×(Str×Bool)) (zD×Bool)
theorem zBm{v:List zb}{nm:Str}(hv:szL v<=big):(
  ze (zA (decide (w64 ((v.length:Int) - 1)>0)) (geti v (w64 ((v.length:Int) - 1))) (default:zb)) fun y13=>
  ze (zA (decide (w64 ((v.length:Int) - 1)>0)) (ZZ ((⟨y13.token,y13.list⟩:zb),1)) (default:Bool)) fun y14=>
  ze (zA (bif decide (w64 ((v.length:Int) - 1)>0)then y14 else false) (geti v (w64 ((v.length:Int) - 1))) (default:zb)) fun y15=>
  ze (zA (bif decide (w64 ((v.length:Int) - 1)>0)then y14 else false) (Zt (y15.token.text,[105,109,112,111,114,116,97,110,116])) (default:Bool)) fun y16=>
  bif bif bif decide (w64 ((v.length:Int) - 1)>0)then y14 else false then y16 else false then
   need (decide (0<=w64 ((v.length:Int) - 1))&&decide (w64 ((v.length:Int) - 1)<=(v.length:Int)))<|
   ze (Mo (List.take (w64 ((v.length:Int) - 1)).toNat v)) fun y17=>
   ze (zA (decide ((y17.length:Int)>0)) (geti y17 (w64 ((y17.length:Int) - 1))) (default:zb)) fun y18=>
   ze (zA (decide ((y17.length:Int)>0)) (Ho (⟨y18.token,y18.list⟩:zb)) (default:Bool)) fun y19=>
   bif bif decide ((y17.length:Int)>0)then y19 else false then
    need (decide (0<=w64 ((y17.length:Int) - 1))&&decide (w64 ((y17.length:Int) - 1)<=(y17.length:Int)))<|
    ze (Mo (List.take (w64 ((y17.length:Int) - 1)).toNat y17)) fun y20=>
    some (LX.out (y20,(([]:Str),false),(nm,true)))
   else
    some (LX.out (v,(([]:Str),false),(nm,false)))
  else
   some (LX.out (v,(([]:Str),false),(nm,false))))=(some (LX.out ((Ug v).1,(([]:Str),false),(nm,(Ug v).2))):Option MK):=by
 rcases Po v with rfl|⟨t,z,rfl⟩
 ·rfl
 ·obtain⟨ht,hz⟩:=L8 hv;unfold Ug;rw[rA];simp only[I9 hv,oQ];cases he:t.isEmpty with
  |true=>simp only[Va,Zw,ze,Aa,Ba,Ub]
  |false=>
   simp only[Ta,zB,zAD,ZZ,ze,Aa,Da,Cb];cases hk:z.token.kind==1 with
   |false=>simp only[Zw,Aa,Ba,Ub]
   |true=>
    simp only[zB,Aa,Mx hz (show([105,109,112,111,114,116,97,110,116]:Str).length<=big by decide),F9,Da,Cb];cases ha:lowS z.token.text==impW with
    |false=>simp only[Ba]
    |true=>
     simp only[Da,p8,zK,Nb,J8,right_eq ht,Aa,oQ];have hw:szL (trimB t)<=big:=Ob (Gn (ek t)) ht;obtain⟨w,hwd⟩: ∃w,trimB t=w:=⟨_,rfl⟩;rw[hwd]at hw;simp only[hwd];rcases Po w with rfl|⟨u,b,rfl⟩
     ·rfl
     ·have hne:(u++[b]).isEmpty=false:=by cases u<;>rfl
      rw[rA];simp only[hne,Ta,zB,I9 hw,zAD,Aa,fw,zGQ,Da];cases hb:wo b with
      |false=>simp only[Ba]
      |true=>simp only[Da,p8,zK,Nb,J8,right_eq (L8 hw).1,Aa]
def nmD(s:Str):Str:=bif List.isPrefixOf [45,45] s then s else lowS s
def noD:zD×Bool:=(⟨[],[],false⟩,false)
def oneS(x:List zb):zD×Bool:=match trimS x with
 |[]=>noD
 |n::r=>bif n.token.kind==1 then
   (match r.dropWhile isSp with
   |[]=>noD
   |c::q=>bif c.token.kind==16 then
     (bif Dg ⟨nmD n.token.text,(Ug (q.dropWhile isSp)).1,(Ug (q.dropWhile isSp)).2⟩then(⟨nmD n.token.text,(Ug (q.dropWhile isSp)).1,(Ug (q.dropWhile isSp)).2⟩,true)else noD)
    else noD)
  else noD
theorem iw{v:List zb}{t:List zb}{z:zb}(h:endV v=some (t,z)):v=t++[z]:=by
 rcases Po v with rfl|⟨t',z',rfl⟩
 ·cases h
 ·rw[rA]at h;cases h;rfl
theorem zHQ{v:List zb}(h1:Ei v)(h2:Kh v):Ei (Ug v).1/\Kh (Ug v).1/\(Ug v).1.Sublist v:=by
 unfold Ug;split
 ·exact⟨h1,h2,ve _⟩
 ·rename_i t z he;have hv:=iw he;cases !t.isEmpty&&(z.token.kind==1&&lowS z.token.text==impW)with
  |false=>exact⟨h1,h2,ve _⟩
  |true=>
   rw[Da];split
   ·exact⟨h1,h2,ve _⟩
   ·rename_i u b hb;have hw:=iw hb;cases wo b with
    |false=>exact⟨h1,h2,ve _⟩
    |true=>
     rw[Da];have hht:Ei t:=by rw[hv]at h1;exact h1.pre
     have hhw:Ei (trimB t):=by obtain⟨r,hr⟩:=YK t;rw[hr]at hht;exact hht.pre
     have hhu:Ei u:=by rw[hw]at hhw;exact hhw.pre
     refine⟨?_,VS u,?_⟩
     ·obtain⟨r,hr⟩:=YK u;rw[hr]at hhu;exact hhu.pre
     ·refine(ek u).trans ((Ue u [b]).trans ?_);rw[<-hw];refine(ek t).trans ?_;rw[hv];exact Ue t [z]
theorem zHL(s:Str):(lowS s).length=s.length:=by unfold lowS;simp
theorem U5(s:Str):(nmD s).length=s.length:=by
 unfold nmD;cases List.isPrefixOf [45,45] s
 ·exact zHL s
 ·rfl
theorem BS(n:zb)(r:List zb):(((n::r).length:Int)==0)=false:=Ha.2 (by simp only[Fa];omega)
theorem K5(n:zb)(r:List zb):decide ((1:Int)<=((n::r).length:Int))=true:=Ga (by simp only[Fa];omega)
theorem RS(n:zb)(r:List zb):geti (n::r) 0=some n:=rfl
theorem zzf{x:List zb}(h:szL x<=big){n:zb}{r:List zb}(hy:trimS x=n::r):n.token.text.length<=big/\szL r<=big/\Kh r/\
  ∀{c:zb} {q:List zb},r.dropWhile isSp=c::q->szL (q.dropWhile isSp)<=big/\Ei (q.dropWhile isSp)/\Kh (q.dropWhile isSp):=by
 have hsz:=zFx x;have he:Kh (trimS x):=VS _;rw[hy]at hsz he;rw[szL,Aj]at hsz;have her:Kh r:=he.suf (a:=[n]);refine⟨by omega,by omega,her,fun {c q} hq=> ?_⟩;obtain⟨a,ha⟩:=V7 r;rw[hq]at ha;obtain⟨b,hb⟩:=V7 q;refine⟨?_,zHw q,?_⟩
 ·have h1:=Gn (Sd isSp (l:=q));rw[ha,PL,szL]at hsz;omega
 ·rw[ha,hb]at her;exact Kh.suf (a:=a++c::b) (by rw[La];exact her)
theorem zu9{x:List zb}(h:szL x<=big):KA x=some (oneS x):=by
 have hdw:szL (x.dropWhile isSp)<=big:=Ob (Gn (Sd _)) h;unfold KA oneS;simp only[left_eq,right_eq hdw,ze,Aa,show trimB (x.dropWhile isSp)=trimS x from rfl];cases hy:trimS x with
 |nil=>rfl
 |cons n r=>
  obtain⟨hn,hr,_,hp⟩:=zzf h hy;simp only[BS,Ta,zB,RS,Aa,ZZ,Ba];cases hk:n.token.kind==1 with
  |false=>simp only[Ta,Da,Ba];rfl
  |true=>
   simp only[Va,Ba,Da];have hj:((strings_HasPrefix (n.token.text,[45,45])).bind fun y6=>bif !y6 then(ZL n.token.text).bind fun y7=>some (LX.out (n::r,(([]:Str),false),(y7,false)))else some (LX.out (n::r,([],false),(n.token.text,false))))=(some (LX.out (n::r,([],false),(nmD n.token.text,false))):Option MK):=by rw[QL,Aa,Lx hn];unfold nmD;cases List.isPrefixOf [45,45] n.token.text<;>rfl
   rw[hj,zq];simp only[K5,zK,show List.drop 1 (n::r)=r from rfl];cases hq:r.dropWhile isSp with
   |nil=>rfl
   |cons c q=>
    obtain⟨hv,hh,he⟩:=hp hq;simp only[BS,Ta,zB,RS,Aa,Ba];cases hc:c.token.kind==16 with
    |false=>simp only[Ta,Da,Ba];rfl
    |true=>
     simp only[Va,Ba,Da,K5,zK,show List.drop 1 (c::q)=q from rfl];obtain⟨v,hvd⟩: ∃v,q.dropWhile isSp=v:=⟨_,rfl⟩;rw[hvd]at hv hh he;simp only[hvd];have hm:=zBm (nm:=nmD n.token.text) hv;simp only[ze,ZZ]at hm;rw[hm,zq];obtain⟨h1,h2,h3⟩:=zHQ hh he;obtain⟨w,hw⟩: ∃w,Ug v=w:=⟨_,rfl⟩;rw[hw]at h1 h2 h3;simp only[hw];have hws:szL w.1<=big:=Ob (Gn h3) hv;rw[wT hws,Aa];by_cases he0:errS w.1=0
     ·rw[Ka he0,vQ h1 h2];simp only[show((0:Int) != 0)=false from rfl,Ta,zB,Ba];rw[lM (d:=⟨nmD n.token.text,w.1,w.2⟩) hws (by rw[U5];exact hn),Aa];cases Dg ⟨nmD n.token.text,w.1,w.2⟩<;>rfl
     ·have he1:(errS w.1 != 0)=true:=Lf.2 he0;have he2:Dg ⟨nmD n.token.text,w.1,w.2⟩=false:=by unfold Dg;simp only[show(errS w.1==0)=false from Ha.2 he0,Ub,Ic]
      rw[Ia he0,he2];simp only[he1,Va,Zw,Aa,Da,Ba];rfl
theorem mK(r:Str):(zy r).1.length+3*(zy r).2.length<=3*r.length+3:=by
 have h4:=nA r;cases r with
 |nil=>exact Ua _
 |cons c t=>
  have h:(zy (c::t)).2.length<=t.length:=by
   show(if QW c then(Yh (hexes 6 0 (c::t)).1,unsp (hexes 6 0 (c::t)).2)else([c],t)).2.length<=t.length;cases hc:QW c with
   |true=>
    have e:hexes 6 0 (c::t)=hexes 5 (16*0+hexN c) t:=by rw[hexes,hc,Ka rfl]
    rw[Ka rfl,e];exact((uQ _).trans (WA 5 _ t)).length_le
   |false=>exact Ua _
  rw[Fa];omega
theorem Iw(l:Str):(zu l).1.length+3*(zu l).2.length<=3*l.length:=by
 match l with
 |[]=>rw[Ql];exact Ua _
 |c::r=>
  rw[zZ];split
  ·have:=Iw r;show(c::(zu r).1).length+3*(zu r).2.length<=_;rw[Fa,Fa];omega
  ·split
   ·have h1:=Zl r;have h2:=mK r;have:=Iw (zy r).2;show((zy r).1++(zu (zy r).2).1).length+3*(zu (zy r).2).2.length<=_;rw[Ja,Fa];omega
   ·show 0+3*(c::r).length<=_;omega
termination_by l.length
decreasing_by
 all_goals first|(have:=Zl r;simp only[Fa];omega)|(simp only[Fa];omega)
theorem PH{u:Str}{o:Option Str}{t:Str}{k:Nat}(h:o.map (u++ ·)=some t)(hk: ∀t',o=some t'->t'.length<=k):t.length<=u.length+k:=by
 cases o with
 |none=>cases h
 |some t'=> injection h with h;rw[<-h,Ja];have:=hk t' rfl;omega
theorem iF{m:UInt8}{q t:Str}(h:(Zg m q).1=some t):t.length+3*(Zg m q).2.length<=3*q.length:=by
 match q with
 |[]=>rw[Fu]at h ⊢;cases h;exact Ua _
 |c::r=>
  rw[QO]at h ⊢;rw[Fa];split
  ·rename_i h1;rw[Ka h1]at h;cases h;show 0+3*r.length<=_;omega
  ·rename_i h1;rw[Ia h1]at h;split
   ·rename_i h2;rw[Ka h2]at h;cases h
   ·rename_i h2;rw[Ia h2]at h;split
    ·rename_i h3;rw[Ka h3]at h;split
     ·rename_i h4;rw[Ka h4]at h;cases h;show 0+3*0<=_;omega
     ·rename_i h4;rw[Ia h4]at h;split
      ·rename_i h5;rw[Ka h5]at h;have:=iF (q:=r.drop 1) h;rw[Dc]at this;omega
      ·rename_i h5;rw[Ia h5]at h;have h6:=Zl r;have h7:=mK r;have:=PH (k:=3*(zy r).2.length - 3*(Zg m (zy r).2).2.length) h (fun t' ht'=>by have:=iF ht';omega);have h8:=(Gx m (zy r).2).length_le;show t.length+3*(Zg m (zy r).2).2.length<=_;omega
    ·rename_i h3;rw[Ia h3]at h;have:=PH (u:=[c]) (k:=3*r.length - 3*(Zg m r).2.length) h (fun t' ht'=>by have:=iF ht';omega);have h8:=(Gx m r).length_le;rw[Md]at this;show t.length+3*(Zg m r).2.length<=_;omega
termination_by q.length
decreasing_by
 all_goals first|(have:=Zl r;simp only[Fa];omega)|(simp only[Fa,Dc];omega)
theorem gN{q t:Str}(h:(urlS q).1=some t):t.length+3*(urlS q).2.length<=3*q.length:=by
 match q with
 |[]=>rw[Ht]at h ⊢;cases h;exact Ua _
 |c::r=>
  rw[Bo]at h ⊢;rw[Fa];split
  ·rename_i h1;rw[Ka h1]at h;cases h;show 0+3*r.length<=_;omega
  ·rename_i h1;rw[Ia h1]at h;split
   ·rename_i h2;rw[Ka h2]at h;have hp:=(Oq spB r).length_le;split
    ·rename_i h3;rw[h3]at h;cases h;show 0+3*0<=_;omega
    ·rename_i d r' h3;rw[h3]at h hp;rw[Fa]at hp;simp only at h;split
     ·rename_i h4;rw[Ka h4]at h;cases h;show 0+3*r'.length<=_;omega
     ·rename_i h4;rw[Ia h4]at h;cases h
   ·rename_i h2;rw[Ia h2]at h;split
    ·rename_i h3;rw[Ka h3]at h;cases h
    ·rename_i h3;rw[Ia h3]at h;split
     ·rename_i h5;rw[Ka h5]at h;have h6:=Zl r;have h7:=mK r;have:=PH (k:=3*(zy r).2.length - 3*(urlS (zy r).2).2.length) h (fun t' ht'=>by have:=gN ht';omega);have h8:=(Uv (zy r).2).length_le;show t.length+3*(urlS (zy r).2).2.length<=_;omega
     ·rename_i h5;rw[Ia h5]at h;have:=PH (u:=[c]) (k:=3*r.length - 3*(urlS r).2.length) h (fun t' ht'=>by have:=gN ht';omega);have h8:=(Uv r).length_le;rw[Md]at this;show t.length+3*(urlS r).2.length<=_;omega
termination_by q.length
decreasing_by
 all_goals first|(have:=Zl r;simp only[Fa];omega)|(simp only[Fa];omega)
theorem zJU(c:UInt8)(r:Str):(ZC (c::r)).1.text.length+(ZC (c::r)).1.unit.length+3*(ZC (c::r)).2.length<=3*(r.length+1):=by
 have hs:=(Gm c r).length_le;rw[Yt]at hs ⊢;split
 ·rename_i h1;rw[Ka h1]at hs;simp only[Rh,Eb]at hs ⊢;omega
 rename_i h1;rw[Ia h1]at hs;split
 ·rename_i h2;rw[Ka h2]at hs;simp only at hs ⊢;cases ho:(Zg c r).1 with
  |none=>show 0+0+_<=_;omega
  |some t=>have:=iF ho;show t.length+0+_<=_;omega
 rename_i h2;rw[Ia h2]at hs;split
 ·have:=Iw r;simp only[Eb];omega
 rename_i h3;rw[Ia h3]at hs;split
 ·rename_i h4;have h5:=(jV h4).length_le;rw[Ka h4]at hs;unfold zS at hs ⊢;split
  ·have:=Iw (zX (c::r)).1;simp only[Eb];omega
  ·rename_i h6;rw[Ia h6]at hs;split
   ·rename_i h7;rw[Ka h7]at hs;simp only[Eb]at hs ⊢;omega
   ·rename_i h7;rw[Ia h7]at hs;simp only[Eb]at hs ⊢;omega
 rename_i h4;rw[Ia h4]at hs;split
 ·rename_i h5;rw[Ka h5]at hs;simp only[Rh,Eb]at hs ⊢;omega
 rename_i h5;rw[Ia h5]at hs;split
 ·rename_i h6;rw[Ka h6]at hs;simp only[Rh,Eb]at hs ⊢;omega
 rename_i h6;rw[Ia h6]at hs;split
 ·have:=Iw r;simp only[Eb];omega
 rename_i h7;rw[Ia h7]at hs;split
 ·have hn:=Iw (c::r);rw[Fa]at hn;unfold Qi;split
  ·split
   ·have h8:=(Oq spB ((zu (c::r)).2.drop 1)).length_le;have h9:=(Uv (past spB ((zu (c::r)).2.drop 1))).length_le;rw[Dc]at h8;simp only;cases ho:(urlS (past spB ((zu (c::r)).2.drop 1))).1 with
    |none=>show 0+0+_<=_;omega
    |some t=>have:=gN ho;show t.length+0+_<=_;omega
   ·simp only[Eb,Dc];omega
  ·simp only[Eb];omega
 split
 ·simp only[Eb,Md];omega
 ·simp only[Rh,Eb];omega
theorem L6(q:Str):wtT (Zb q)<=5*q.length:=by
 cases hc:cmtS q with
 |nil=>rw[Q6 hc,wtT];exact Kc _
 |cons c r=>
  have h2:=(Tn q).length_le;have h3:=(Gm c r).length_le;rw[hc,Fa]at h2;rw[Qy hc,wtT];have h4:(ZC (c::r)).2.length<q.length:=by omega
  have:=L6 (ZC (c::r)).2;have:=zJU c r;omega
termination_by q.length
decreasing_by all_goals omega
end Go.Lv.VT
