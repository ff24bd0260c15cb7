/- Parsing of tokens: what the machine of nest.Parse computes is what the reference's recursion computes. -/
import Derived.Test.YtcdeccnjlkkejaaGreatDoorNa
import Derived.Test.YtcdeccnjlkkejaaGreatDoorTy
import Derived.Test.YtcdeccnjlkkejaaGreatDoorNb
import Derived.Test.YtcdeccnjlkkejaaGreatDoorNe
set_option linter.unusedSimpArgs false
set_option linter.unusedVariables false
namespace Go.Lv.VT
set_option maxRecDepth 100000
def QK:Nat->List zb->Int->Nat->Option (List zg×List zb)
 |0,_,_,_=>none
 |_+1,[],_,_=>some ([],[])
 |n+1,t::r,c,left=>
  if c≠0/\t.kind=c then some ([],r)
  else if zt t.kind=0 then(QK n r c left).map fun v=>(⟨t,[]⟩::v.1,v.2)
  else match left with
   |0=>none
   |m+1=>(QK n r (zt t.kind) m).bind fun w=>(QK n w.2 c (m+1)).map fun v=>(⟨t,w.1⟩::v.1,v.2)
theorem Bp(n:Nat)(t:zb)(r:List zb)(c:Int)(left:Nat):QK (n+1) (t::r) c left=if c≠0/\t.kind=c then some ([],r)
  else if zt t.kind=0 then(QK n r c left).map fun v=>(⟨t,[]⟩::v.1,v.2)
  else match left with
   |0=>none
   |m+1=>(QK n r (zt t.kind) m).bind fun w=>(QK n w.2 c (m+1)).map fun v=>(⟨t,w.1⟩::v.1,v.2):=rfl
theorem MF: ∀(n:Nat) (l:List zb) (c:Int) (left:Nat) (v:List zg×List zb),QK n l c left=some v->v.2<:+l
 |0,_,_,_,_,h=>by cases h
 |n+1,[],c,left,v,h=>by
  rw[QK]at h;cases h;exact Ed _
 |n+1,t::r,c,left,v,h=>by
  rw[Bp]at h;refine List.IsSuffix.trans ?_ (He t r);split at h
  ·cases h;exact Ed _
  split at h
  ·cases hv:QK n r c left with
   |none=>rw[hv]at h;cases h
   |some w=>rw[hv]at h;cases h;exact MF n r c left w hv
  ·cases left with
   |zero=>cases h
   |succ m=>
    simp only at h;cases hw:QK n r (zt t.kind) m with
    |none=>rw[hw]at h;cases h
    |some w=>
     rw[hw,Aa]at h;cases hv:QK n w.2 c (m+1)with
     |none=>rw[hv]at h;cases h
     |some v'=> rw[hv]at h;cases h;exact(MF n w.2 c _ v' hv).trans (MF n r _ m w hw)
theorem Vr: ∀(n:Nat) (l:List zb) (c:Int) (left:Nat) (v:List zg×List zb),QK n l c left=some v->v.2.length<=l.length/\(l≠[]->v.2.length<l.length)
 |0,_,_,_,_,h=>by cases h
 |n+1,[],c,left,v,h=>by
  rw[QK]at h;cases h;exact⟨Ya _,fun h=>absurd rfl h⟩
 |n+1,t::r,c,left,v,h=>by
  rw[Bp]at h;have key:v.2.length<=r.length:=by
   split at h
   ·cases h;exact Ya _
   split at h
   ·cases hv:QK n r c left with
    |none=>rw[hv]at h;cases h
    |some w=>rw[hv]at h;cases h;exact(Vr n r c left w hv).1
   ·cases left with
    |zero=>cases h
    |succ m=>
     simp only at h;cases hw:QK n r (zt t.kind) m with
     |none=>rw[hw]at h;cases h
     |some w=>
      rw[hw,Aa]at h;cases hv:QK n w.2 c (m+1)with
      |none=>rw[hv]at h;cases h
      |some v'=> rw[hv]at h;cases h;have h1:=(Vr n r _ m w hw).1;have h2:=(Vr n w.2 c _ v' hv).1;exact Bc h2 h1
  exact⟨by rw[Fa];omega,fun _=>by rw[Fa];omega⟩
theorem eF: ∀(n m:Nat) (l:List zb) (c:Int) (left:Nat),l.length<n->l.length<m->QK n l c left=QK m l c left
 |0,_,_,_,_,h,_=>by omega
 |_+1,0,_,_,_,_,h=>by omega
 |n+1,m+1,[],c,left,_,_=>by rw[QK,QK]
 |n+1,m+1,t::r,c,left,hn,hm=>by
  rw[Fa]at hn hm;rw[Bp,Bp];rw[eF n m r c left (by omega) (by omega)];cases left with
  |zero=>rfl
  |succ k=>
   simp only;rw[eF n m r (zt t.kind) k (by omega) (by omega)];cases hw:QK m r (zt t.kind) k with
   |none=>rfl
   |some w=> have:=(Vr m r _ k w hw).1;simp only[Aa];rw[eF n m w.2 c (k+1) (by omega) (by omega)]
def Ko(l:List zb)(s:PSt):Option (List zg):=(Qa l s).map fun s=>shutAll s.1 s.2
theorem fU(t:zb)(l:List zb)(s:PSt):Ko (t::l) s=(Qu s t).bind (Ko l):=by unfold Ko;rw[Qa];cases Qu s t<;>rfl
theorem IE: ∀(n:Nat) (l:List zb) (cur:List zg) (o:zb) (out:List zg) (st:List (zb×List zg)) (left:Nat),l.length<n->zt o.kind≠0->left+(st.length+1)=16->
  Ko l (cur,(o,out)::st)=(QK n l (zt o.kind) left).bind fun v=>Ko v.2 (out++[⟨o,cur++v.1⟩],st)
 |0,_,_,_,_,_,_,h,_,_=>by omega
 |n+1,[],cur,o,out,st,left,_,_,_=>by rw[QK,Aa];simp only[Ko,Qa,Fb,shutAll,ja]
 |n+1,t::r,cur,o,out,st,left,hn,ho,hl=>by
  rw[Fa]at hn;rw[Bp,fU];unfold Qu;simp only[Ou];by_cases h1:t.kind=zt o.kind
  ·rw[La (by rw[h1,af]),La ⟨ho,h1⟩,Aa,Aa];simp only[KN,ja]
  ·rw[Ja (by rw[Jb];exact h1),Ja (show¬(zt o.kind≠0/\t.kind=zt o.kind)from fun h=>h1 h.2)];by_cases h2:zt t.kind=0
   ·rw[Ja (show¬zt t.kind≠0 from fun h=>h h2),La h2,Aa,IE n r _ o out st left (by omega) ho hl];cases QK n r (zt o.kind) left with
    |none=>rfl
    |some v=>simp only[Aa,Fb,Na,Ad]
   ·rw[La h2,Ja h2];cases left with
    |zero=>rw[La (by rw[Fa];omega)];rfl
    |succ m=>
     rw[Ja (by rw[Fa];omega),Aa];simp only;rw[IE n r [] t cur ((o,out)::st) m (by omega) h2 (by rw[Fa];omega)];cases hw:QK n r (zt t.kind) m with
     |none=>rfl
     |some w=>
      have hlen:=(Vr n r _ m w hw).1;simp only[Aa];rw[IE n w.2 _ o out st (m+1) (by omega) ho hl];cases QK n w.2 (zt o.kind) (m+1)with
      |none=>rfl
      |some v=>simp only[Aa,Fb,Nc,Na,Ad]
theorem VK: ∀(n:Nat) (l:List zb) (cur:List zg),l.length<n->Ko l (cur,[])=(QK n l 0 16).map fun v=>cur++v.1
 |0,_,_,h=>by omega
 |n+1,[],cur,_=>by rw[QK];simp only[Ko,Qa,Fb,shutAll,ja]
 |n+1,t::r,cur,hn=>by
  rw[Fa]at hn;rw[Bp,fU];unfold Qu;simp only[Ou];rw[Ja (by decide),Ja (show¬((0:Int)≠0/\t.kind=0)from fun h=>h.1 rfl)];by_cases h2:zt t.kind=0
  ·rw[Ja (show¬zt t.kind≠0 from fun h=>h h2),La h2,Aa,VK n r _ (by omega)];cases QK n r 0 16 with
   |none=>rfl
   |some v=>simp only[Fb,Na,Ad]
  ·rw[La h2,Ja h2,Ja (by decide),Aa];rw[IE n r [] t cur [] 15 (by omega) h2 rfl];cases hw:QK n r (zt t.kind) 15 with
   |none=>rfl
   |some w=>
    have hlen:=(Vr n r _ 15 w hw).1;simp only[Aa];rw[VK n w.2 _ (by omega)];cases QK n w.2 0 16 with
    |none=>rfl
    |some v=>simp only[Fb,Nc,Na,Ad]
theorem sD: ∀(a b:List zg),tokL (a++b)=tokL a++tokL b
 |[],b=>by rw[tokL];rfl
 |v::a,b=>by rw[Db,tokL,tokL,sD a b,Na]
theorem MJ(v:zg):tokL [v]=tokV v:=by rw[tokL,tokL,ja]
def Mk(s:PSt):Nat:=(tokL s.1).length+(s.2.map fun x=>1+(tokL x.2).length).sum
def sG(s:PSt):Prop:= ∀x∈s.2,zt x.1.kind≠0
theorem M9{s s':PSt}{t:zb}(h:Qu s t=some s')(ho:sG s):sG s'/\Mk s'=Mk s+1:=by
 unfold Qu at h;obtain⟨cur,st⟩:=s;split at h
 ·rename_i h1;cases st with
  |nil=>cases h1
  |cons x st=> obtain⟨o,out⟩:=x;cases h;have h2:zt o.kind≠0:=ho (o,out) (Pb ..);refine⟨fun x hx=>ho x (Ub _ hx),?_⟩;simp only[Mk,KN,sD,MJ,Ba,Bb,Sg,uq,Fa,Ja h2,Ba,Va,Ib];omega
 split at h
 ·rename_i h1 h2;split at h
  ·cases h
  ·rename_i h3;cases h;refine⟨fun x hx=> ?_,?_⟩
   ·rcases Cb.1 hx with rfl|hx
    ·exact h2
    ·exact ho x hx
   ·simp only[Mk,Bb,Sg,tokL,Ib];omega
 ·rename_i h1 h2;cases h;refine⟨ho,?_⟩;have h2:zt t.kind=0:=Classical.byContradiction h2;simp only[Mk,sD,MJ,Ba,uq,Fa,La h2,Ib];omega
theorem yQ: ∀(l:List zb) {s s':PSt},Qa l s=some s'->sG s->sG s'/\Mk s'=Mk s+l.length
 |[],s,s',h,ho=>by cases h;exact⟨ho,rfl⟩
 |t::l,s,s',h,ho=>by
  rw[Qa]at h;cases hs:Qu s t with
  |none=>rw[hs]at h;cases h
  |some s1=> rw[hs,Aa]at h;obtain⟨h1,h2⟩:=M9 hs ho;obtain⟨h3,h4⟩:=yQ l h h1;exact⟨h3,by rw[h4,h2,Fa];omega⟩
theorem iU: ∀(st:List (zb×List zg)) (cur:List zg),(∀x∈st,zt x.1.kind≠0)->(tokL (shutAll cur st)).length=Mk (cur,st)+st.length
 |[],cur,_=>by simp[shutAll,Mk]
 |(o,out)::st,cur,h=>by have h2:zt o.kind≠0:=h (o,out) (Pb ..);rw[shutAll,iU st _ (fun x hx=>h x (Ub _ hx))];simp only[Mk,sD,MJ,Ba,uq,Fa,Ja h2,Ba,Va,Bb,Sg,Fa,Ib];omega
def uh(l:List zb)(c:Int)(left:Nat):Option (List zg×List zb):=QK (l.length+1) l c left
theorem zAm(c:Int)(left:Nat):uh [] c left=some ([],[]):=by unfold uh;rw[QK]
theorem DJ{n:Nat}{l:List zb}{c:Int}{left:Nat}(h:l.length<n):QK n l c left=uh l c left:=eF n _ l c left h (Ac _)
theorem R6(t:zb)(r:List zb)(c:Int)(left:Nat):uh (t::r) c left=if c≠0/\t.kind=c then some ([],r)
  else if zt t.kind=0 then(uh r c left).map fun v=>(⟨t,[]⟩::v.1,v.2)
  else match left with
   |0=>none
   |m+1=>(uh r (zt t.kind) m).bind fun w=>(uh w.2 c (m+1)).map fun v=>(⟨t,w.1⟩::v.1,v.2):=by
 conv=>lhs;unfold uh;rw[Fa,Bp]
 rw[DJ (show r.length<r.length+1 from Ac _)];cases left with
 |zero=>rfl
 |succ m=>
  simp only;rw[DJ (show r.length<r.length+1 from Ac _)];cases hw:uh r (zt t.kind) m with
  |none=>rfl
  |some w=> have:=(Vr _ _ _ _ w hw).1;simp only[Aa];rw[DJ (show w.2.length<r.length+1 by omega)]
def valI(n:Nat):Option (List zg×List zb)->List zg×Int
 |none=>([], -1)
 |some v=>(v.1,((n - v.2.length:Nat):Int))
theorem ap80{n:Nat}(h:n<=big):Zc n 1 80=true:=nz (by unfold big at h;omega)
theorem D9{l:List zb}{i:Nat}{c:Int}{left:Nat}(hl:l.length<=big)(hi:i<=l.length)(hf:left<=100):ZZ (l,(i:Int),c,(left:Int))=some (valI l.length (uh (l.drop i) c left)):=by
 have key: ∀x:List zb×Int×Int×Int,(∃(i left:Nat) (c:Int),x=(l,(i:Int),c,(left:Int))/\i<=l.length/\left<=100)->ZZ x=some (valI l.length (uh (l.drop x.2.1.toNat) x.2.2.1 x.2.2.2.toNat)):=by
  intro x hx;refine Pn (fun x=>l.length - x.2.1.toNat) (fun x=> ∃(i left:Nat) (c:Int),x=(l,(i:Int),c,(left:Int))/\i<=l.length/\left<=100) (fun x=>valI l.length (uh (l.drop x.2.1.toNat) x.2.2.1 x.2.2.2.toNat)) (fun S x hx hS=> ?_) hx;obtain⟨i,left,c,rfl,hi,hf⟩:=hx;simp only[Ua]at hS ⊢;unfold EG;refine Rl (fun z=> ∃(j:Nat) (a:List zg),z=((j:Int),a)/\i<=j/\j<=l.length/\a.length<=j/\uh (l.drop i) c left=(uh (l.drop j) c left).map fun v=>(a++v.1,v.2)) (fun z=>l.length - z.1.toNat) _ ?_ ⟨i,[],rfl,Ya _,hi,Sb _,?_⟩
  ·rintro _ ⟨j,a,rfl,hij,hj,ha,he⟩;rcases Nat.lt_or_eq_of_le hj with hlt|rfl
   ·rw[Rb hlt,R6]at he;have hw:w64 ((j:Int)+1)=((j+1:Nat):Int):=qj hlt hl;simp only[Xi hlt,Da,Oc,qA hlt,Q5,ze,Aa];by_cases hc:c≠0/\l[j].kind=c
    ·rw[La hc]at he;have e1:(c==0)=false:=Ia.2 hc.1;have e2:(l[j].kind != c)=false:=by rw[hc.2,bne_self_eq_false]
     simp only[e1,Ca,Lb,Da,e2];refine .inr (.inl ⟨_,rfl,?_⟩);rw[he];simp only[Fb,ja,valI,hw,Gc];congr 2;rw[show l.length - (l.length - (j+1))=j+1 by omega];split<;>omega
    ·rw[Ja hc]at he;have e2:(bif c==0 then true else(bif !(c==0)then l[j]else default).kind != c)=true:=by
      cases e1:c==0 with
      |true=>rfl
      |false=>exact bf.2 fun q=>hc ⟨Ia.1 e1,q⟩
     simp only[e2,Da,jF,Aa];by_cases h0:zt l[j].kind=0
     ·rw[La h0]at he;simp only[h0,show((0:Int) != 0)=false from rfl,Ca,zh,hw];rw[zl (ap80 (by omega))];refine .inl ⟨_,rfl,⟨j+1,_,rfl,by omega,hlt,by rw[Ba,Va];omega,?_⟩,by simp only[Ua];omega⟩;rw[he,Option.map_map];congr 1;funext v;simp only[Function.comp,Na,Ad]
     ·rw[Ja h0]at he;simp only[show(zt l[j].kind != 0)=true from bf.2 h0,Da,hw];cases left with
      |zero=> refine .inr (.inr ?_);simp only at he;rw[he];rfl
      |succ m=>
       have el:(((m+1:Nat):Int)==0)=false:=Ia.2 (by omega);have ew:w64 (((m+1:Nat):Int) - 1)=(m:Int):=by rw[w64,qw (by omega) (by omega)];omega
       have hs:=hS (l,((j+1:Nat):Int),zt l[j].kind,(m:Int)) ⟨j+1,m,_,rfl,hlt,by omega⟩ (by simp only[Ua];omega);simp only[Ua]at hs;simp only[el,Ca,ew,hs,Aa];simp only at he;cases hv:uh (l.drop (j+1)) (zt l[j].kind) m with
       |none=> rw[hv]at he;refine .inr (.inr ?_);rw[he];rfl
       |some w=> rw[hv,Aa]at he;have hsuf:w.2<:+l.drop (j+1):=MF _ _ _ _ w hv;have hle:=hsuf.length_le;rw[Gc]at hle;have hd:l.drop (l.length - w.2.length)=w.2:=(List.suffix_iff_eq_drop.1 (hsuf.trans (Hf _ _))).symm;have hneg:decide (((l.length - w.2.length:Nat):Int)<0)=false:=Xa (by omega);rw[show valI l.length (some w)=(w.1,((l.length - w.2.length:Nat):Int))from rfl];simp only[hneg,Ca,zh];rw[zl (ap80 (by omega))];refine .inl ⟨_,rfl,⟨l.length - w.2.length,_,rfl,by omega,by omega,by rw[Ba,Va];omega,?_⟩,by simp only[Ua];omega⟩;rw[he,hd,Option.map_map];congr 1;funext v;simp only[Function.comp,Na,Ad]
   ·rw[List.drop_length,zAm]at he;refine .inr (.inl ⟨((l.length:Int),a),?_,?_⟩)
    ·simp only[Nj,Ca,Pe,zO,ze,Aa]
    ·rw[he];simp only[Fb,ja,valI,Ib,Nat.sub_zero];rw[show w64 ((l.length:Int)+1)=(l.length:Int)+1 by rw[w64,qw (by omega) (by unfold big at hl;omega)]];rw[Ja (by omega)]
  ·cases uh (l.drop i) c left with
   |none=>rfl
   |some v=>rfl
 have:=key (l,(i:Int),c,(left:Int)) ⟨i,left,c,rfl,hi,hf⟩;simp only[Ua]at this;exact this
def wtT:List zb->Nat
 |[]=>0
 |t::r=>1+t.text.length+t.unit.length+wtT r
theorem EI: ∀l:List zb,l.length<=wtT l
 |[]=>Ya _
 |t::r=>by rw[wtT,Fa];have:=EI r;omega
theorem jE: ∀(n:Nat) (l:List zb) (c:Int) (left:Nat) (v:List zg×List zb),QK n l c left=some v->szL v.1+wtT v.2<=wtT l
 |0,_,_,_,_,h=>by cases h
 |n+1,[],c,left,v,h=>by
  rw[QK]at h;cases h;rw[szL];exact Ya _
 |n+1,t::r,c,left,v,h=>by
  rw[Bp]at h;rw[wtT];split at h
  ·cases h;rw[szL];simp only;omega
  split at h
  ·cases hv:QK n r c left with
   |none=>rw[hv]at h;cases h
   |some w=> rw[hv]at h;cases h;have:=jE n r c left w hv;simp only[szL,szV];omega
  ·cases left with
   |zero=>cases h
   |succ m=>
    simp only at h;cases hw:QK n r (zt t.kind) m with
    |none=>rw[hw]at h;cases h
    |some w=>
     rw[hw,Aa]at h;cases hv:QK n w.2 c (m+1)with
     |none=>rw[hv]at h;cases h
     |some v'=> rw[hv]at h;cases h;have h1:=jE n w.2 c _ v' hv;have h2:=jE n r _ m w hw;simp only[szL,szV];omega
theorem sN(l:List zb):(Qa l ([],[])).map (fun s=>shutAll s.1 s.2)=(uh l 0 16).map Prod.fst:=VK _ l [] (Ac _)
theorem yY{l:List zb}{s:PSt}(h:Qa l ([],[])=some s):szL (shutAll s.1 s.2)<=wtT l:=by
 have hp:=sN l;rw[h,Fb]at hp;cases hv:uh l 0 16 with
 |none=>rw[hv]at hp;cases hp
 |some v=> rw[hv,Fb]at hp;injection hp with hp;have:=jE _ _ _ _ v hv;rw[hp];omega
theorem zEi(l:List zb):szL (parS l).1<=wtT l:=by
 unfold parS;split
 ·rw[szL];exact Sb _
 ·split
  ·rw[szL];exact Sb _
  ·rename_i s hs;split
   ·rw[szL];exact Sb _
   ·exact yY hs
theorem F9{l:List zb}(hl:l.length<=big):VB l=some (match Qa l ([],[])with|none=>([],false)|some s=>(shutAll s.1 s.2,true)):=by
 unfold VB;have h:=D9 (l:=l) (i:=0) (c:=0) (left:=16) hl (Sb _) (by omega);rw[ve]at h;replace h:ZZ (l,0,0,16)=_:=h;rw[h,ze,Aa];have hp:=sN l;cases hv:uh l 0 16 with
 |none=>
  rw[hv]at hp;cases hr:Qa l ([],[])with
  |none=>rfl
  |some s=>rw[hr]at hp;cases hp
 |some v=>
  rw[hv]at hp;cases hr:Qa l ([],[])with
  |none=>rw[hr]at hp;cases hp
  |some s=> rw[hr,Fb,Fb]at hp;injection hp with hp;exact congrArg some (Prod.ext hp.symm (Ha (show((l.length - v.2.length:Nat):Int)>=0 by omega)))
theorem Y2{l:List zb}(h:wtT l<=big):EB l=some (parS l):=by
 have hl:=EI l;unfold EB parS;by_cases hm:1500<l.length
 ·rw[La hm,Ha (show(l.length:Int)>1500 by omega)];rfl
 ·rw[Ja hm,Xa (show¬(l.length:Int)>1500 by omega),Ca,F9 (by omega)];simp only[ze,Aa];cases hr:Qa l ([],[])with
  |none=>rfl
  |some s=>
   have hsz:=yY hr;obtain⟨h1,h2⟩:=yQ l hr (fun x hx=>by cases hx);have h3:=iU s.2 s.1 h1;have h4:Mk (s.1,s.2)=l.length:=by rw[show(s.1,s.2)=s from rfl,h2];simp[Mk,tokL]
   simp only[Yb,Ca,iF (show szL (shutAll s.1 s.2)<=big by omega),Aa];rw[h4]at h3;by_cases hk:1500<l.length+s.2.length
   ·rw[La hk,Ha (show((tokL (shutAll s.1 s.2)).length:Int)>1500 by omega)];rfl
   ·rw[Ja hk,Xa (show¬((tokL (shutAll s.1 s.2)).length:Int)>1500 by omega)];rfl
theorem size_le{l:List zg}{m:Nat}(h:szL l<=big)(hm:m<=1000): ∃r:Int,qX (l,(m:Int))=some r/\0<=r/\r<=szL l/\(r<=m->r=szL l):=by
 have: ∃r,qX (l,(m:Int))=some r/\(0<=r/\r<=(szL l:Int)/\(r<=(m:Int)->r=(szL l:Int))):=by
  refine zBZ zmn (fun x=>szL x.1) (fun x=>szL x.1<=big/\0<=x.2/\x.2<=1000) (fun x r=>0<=r/\r<=(szL x.1:Int)/\(r<=x.2->r=(szL x.1:Int))) (fun S x hx hS=> ?_) (x:=(l,(m:Int))) ⟨h,by omega,by omega⟩;obtain⟨l,m⟩:=x;obtain⟨hx,hm0,hm1⟩:=hx;simp only at hx hm0 hm1;have hlen:=om l;unfold big at hx;unfold lv;refine zBp (A:=Int) l.length (fun i a=>(a,(i:Int))) (fun i a=>0<=a/\a<=(szL (l.take i):Int)/\(a<=m->a=(szL (l.take i):Int))) _ (a0:=0) rfl ⟨by omega,by simp[szL],fun _=>by simp[szL]⟩ (fun i a hi ha=> ?_) (fun a ha=> ?_)
  ·obtain⟨ha0,ha1,ha2⟩:=ha;have hsz:=Vz hi;have hsz2:=CB l (i+1);have hv:=ll l[i];have hm2:=lm (De hi);cases hc:decide (a<=m)with
   |false=> simp only[Xi hi,Da,Ca,hc];have hc:=Gi hc;exact .inr (.inr ⟨_,rfl,_,rfl,ha0,by omega,fun q=>absurd q hc⟩)
   |true=>
    have hc':=Dc hc;have e0:w64 (m - a)=m - a:=by rw[w64,qw (by omega) (by omega)]
    obtain⟨r,hr,hr0,hr1,hr2⟩:=hS (l[i].list,w64 (m - a)) ⟨by show szL l[i].list<=4194304;omega,by show 0<=w64 (m - a);omega,by show w64 (m - a)<=1000;omega⟩ (by show szL l[i].list<szL l;omega);simp only[e0]at hr2 hr1;have e1:w64 (a+w64 (w64 (w64 (1+(l[i].token.text.length:Int))+(l[i].token.unit.length:Int))+r))=a+(1+l[i].token.text.length+l[i].token.unit.length+r):=by rw[w64,w64,w64,w64,qw (n:=1+(l[i].token.text.length:Int)) (by omega) (by omega),qw (n:=1+(l[i].token.text.length:Int)+(l[i].token.unit.length:Int)) (by omega) (by omega),qw (n:=1+(l[i].token.text.length:Int)+(l[i].token.unit.length:Int)+r) (by omega) (by omega),qw (by omega) (by omega)]
    simp only[Xi hi,Da,hc,qA hi,ze,Aa,hr,e1,qj hi (show l.length<=big by unfold big;omega)];exact .inl ⟨_,rfl,by omega,by omega,fun q=>by have:=ha2 hc';have:=hr2 (by omega);omega⟩
  ·obtain⟨ha0,ha1,ha2⟩:=ha;rw[Ef]at ha1 ha2;simp only[Nj,Ca];exact .inl ⟨_,rfl,_,rfl,ha0,ha1,ha2⟩
 obtain⟨r,hr,h0,h1,h2⟩:=this;exact⟨r,hr,h0,h1,h2⟩
theorem V4{l:List zg}(h:szL l<=big): ∃g,FB l=some g/\(g=false->szL l<=300):=by
 obtain⟨r,hr,h0,h1,h2⟩:=size_le (m:=300) h (by omega);unfold FB;replace hr:qX (l,300)=some r:=hr;simp only[ze,hr,Aa];cases hd:decide (r>300)with
 |true=>exact⟨_,rfl,fun e=>by cases e⟩
 |false=> have hd:=Gi hd;simp only[Lb,zH,KQ h,Aa];exact⟨_,rfl,fun _=>by have:=h2 (by omega);omega⟩
mutual
theorem zEY: ∀v:zg,wtS (tokV v)<=30*szV v
 |⟨t,l⟩=>by
  rw[tokV,szV];have h1:=DI l;have h2:=jG t.kind;split
  ·rw[wtS,wtS];omega
  ·rename_i h0;rw[wtS,jC,wtS,wtS];have h3:kw t.kind=10:=by unfold kw;rw[Ja];rintro(q|q|q)<;>exact h0 (by rw[q];rfl)
   have h4:kw (zt t.kind)=10:=by
    unfold zt;split
    ·rfl
    split
    ·rfl
    split<;>rfl
   simp only[h3,h4,Ib];omega
theorem DI: ∀l:List zg,wtS (tokL l)<=30*szL l
 |[]=>by rw[tokL,wtS];exact Sb _
 |v::r=>by rw[tokL,szL,jC];have:=zEY v;have:=DI r;omega
end
mutual
theorem tk_V: ∀(v:zg),Ow (tokV v) (szV v)
 |⟨t,l⟩,u,h=>by
  rw[tokV]at h;rw[szV];rcases Cb.1 h with rfl|h
  ·omega
  ·split at h
   ·cases h
   ·rcases Jc.1 h with h|h
    ·have:=tk_L l u h;omega
    ·obtain rfl:=Sa.1 h;exact Sb _
theorem tk_L: ∀(l:List zg),Ow (tokL l) (szL l)
 |[],_,h=>by rw[tokL]at h;cases h
 |v::r,u,h=>by
  rw[tokL]at h;rw[szL];rcases Jc.1 h with h|h
  ·have:=tk_V v u h;omega
  ·have:=tk_L r u h;omega
end
theorem zB0{l:List zg}(h:szL l<=big):dA l=some (if errS l=0 then(tokL l,0)else([],errS l)):=by
 unfold dA;simp only[NR h,ze,Aa];by_cases he:errS l=0
 ·rw[La he,he];simp only[show((0:Int) != 0)=false from rfl,Ca,iF h,Aa]
 ·rw[bf.2 he,Da,Ja he]
def eG(l:List zg):Str×Int:=if errS l=0 then(if gluS (tokL l)=0 then(if 4000<(wrS (tokL l)).length then([],28)else(wrS (tokL l),0))else([],gluS (tokL l)))else([],errS l)
theorem zr5{l:List zg}(h:szL l<=300):wz l=some (eG l):=by
 have hb:szL l<=big:=by unfold big;omega
 unfold wz eG;simp only[LU hb,ze,Aa];by_cases he:errS l=0
 ·rw[La he,he];simp only[show((0:Int) != 0)=false from rfl,Ca,rQ hb,Aa];rw[zAy (fun t ht=>by have:=tk_L l t ht;omega),Aa]
 ·rw[bf.2 he,Da,Ja he]
theorem zup{l:List zg}(h:szL l<=300):bA l=some (eG l):=by
 have hb:szL l<=big:=by unfold big;omega
 unfold bA eG;simp only[NR hb,ze,Aa];by_cases he:errS l=0
 ·rw[La he,he];simp only[show((0:Int) != 0)=false from rfl,Ca,iF hb,Aa];rw[zBY (fun t ht=>by have:=tk_L l t ht;omega) (fun _=>by have:=DI l;omega),Aa]
 ·rw[bf.2 he,Da,Ja he]
theorem vY: ∀l:List zb,wtT l<=zL ZW l
 |[]=>by rw[wtT];exact Sb _
 |t::r=>by rw[wtT,kZ,zAv];have:=vY r;omega
theorem zo2{l:List zb}{v:List zg}(h:szL v<=big)(hl:wtT l<=big):bG (l,v)=some true:=by
 have hll:=EI l;obtain⟨g,hg,hg2⟩:=V4 h;unfold bG;simp only[hg,ze];obtain⟨c,hc⟩: ∃c,(bif bif decide ((l.length:Int)>200)then decide ((l.length:Int)<1480)else false then true else decide ((l.length:Int)>1510))=c:=⟨_,rfl⟩;rw[hc];cases c with
 |true=>simp only[Yb,zO,Aa,Da]
 |false=>
  simp only[Lb,zH,Aa,Ca];cases g with
  |true=>rfl
  |false=>
   have hs:=hg2 rfl;have hap:Zc 0 l.length 56=true:=nz (by unfold big at hl;omega);have hps:=zEi l;have htl:=xq v;have hf:((if errS v=0 then(tokL v,(0:Int))else([],errS v)).1).length<=big:=by
    split
    ·show(tokL v).length<=4194304;omega
    ·exact Sb _
   simp only[Ca,hap,Zr,parseF,Y2 hl,zr4 h,zB0 h,zr5 hs,zup hs,Aa,zB1 (show szL (parS l).1<=big by omega),same_eq hf,Yr.2 rfl,af,Da,zH,
    zB7 (show l.length<=big by omega)]
end Go.Lv.VT
