/- Sheets: texts put together, the first ones closed: their rules, as far as there is room. -/
import Derived.Test.YtbgmaekmfjhfoaaGreatDoorXi
set_option linter.unusedSimpArgs false
set_option linter.unusedVariables false
namespace Go.Lv.VT
set_option maxRecDepth 100000
def wzT:List zk->Nat
 |[]=>0
 |t::r=>6+t.text.length+t.unit.length+wzT r
theorem RS: ∀l:List zk,wzT l=wtT l+5*l.length
 |[]=>rfl
 |t::r=>by rw[wzT,wtT,RS r,Da];omega
theorem Iy: ∀(n:Nat) (l:List zk) (c:Int) (left:Nat) (v:List za×List zk),Lf n l c left=some v->zV v.1+wzT v.2<=wzT l
 |0,_,_,_,_,h=>by cases h
 |n+1,[],c,left,v,h=>by
  rw[Lf]at h;cases h;exact Sa _
 |n+1,t::r,c,left,v,h=>by
  have z0:zV []=0:=rfl;rw[kv]at h;rw[wzT];split at h
  ·cases h;simp only[z0];omega
  split at h
  ·cases hv:Lf n r c left with
   |none=>rw[hv]at h;cases h
   |some w=> rw[hv]at h;cases h;have:=Iy n r c left w hv;simp only[Q4,z0];omega
  ·cases left with
   |zero=>cases h
   |succ m=>
    simp only at h;cases hw:Lf n r (Zb t.kind) m with
    |none=>rw[hw]at h;cases h
    |some w=>
     rw[hw,Aa]at h;cases hv:Lf n w.2 c (m+1)with
     |none=>rw[hv]at h;cases h
     |some v'=> rw[hv]at h;cases h;have h1:=Iy n w.2 c _ v' hv;have h2:=Iy n r _ m w hw;simp only[Q4];omega
theorem zGA(l:List zk):zV (parS l).1<=wtT l+5*l.length:=by
 rw[<-RS];have z0:zV []=0:=rfl;unfold parS;split
 ·exact Va _
 ·split
  ·exact Va _
  ·rename_i s hs;split
   ·exact Va _
   ·have hp:=nJ l;rw[hs,ib]at hp;cases hv:DI l 0 16 with
    |none=>rw[hv]at hp;cases hp
    |some v=> rw[hv,ib]at hp;injection hp with hp;have:=Iy _ _ _ _ v hv;rw[hp];dsimp only;omega
theorem MU{w:Str}(hw:w.length<=1800):zV (parS (Zf w).1).1<=34500:=by
 have h1:=zGA (Zf w).1;have h4:=vz w;have h3:wtT (Zf w).1<=5*(Proofs.Cl.cleanS w).length/\(Zf w).1.length<=1500:=by
  have:=MJ (Proofs.Cl.cleanS w);unfold Zf;split
  ·exact⟨Va _,Va _⟩
  ·split
   ·exact⟨Va _,Va _⟩
   ·exact⟨this,by dsimp only;omega⟩
 omega
noncomputable def qj(w:Str):List zJ:=(ZE 64 (fV true (parS (Zf w).1).1)).1
def okW(w:Str):Prop:=(Zf w).2=0/\(parS (Zf w).1).2=0
theorem Wz{w:Str}(hw:w.length<=1800):zL zD (qj w)<=207000:=by have hz:=MU hw;obtain⟨y,_,g1,_,_,g4⟩:=KO (v:=(parS (Zf w).1).1) (q:=⟨64,0⟩) true (c:=0) (by unfold big;omega) ⟨64,by omega,rfl⟩ rfl (by unfold big;omega);have g4:ZE 64 (fV true (parS (Zf w).1).1)=(y.1,rmQ y.2):=g4;unfold qj;rw[g4];dsimp only;omega
theorem lS{w:Str}(hw:w.length<=1800):(okW w/\Z9 w=some (⟨qj w⟩,0))\/ ∃e,(e != 0)=true/\Z9 w=some (⟨[]⟩,e)/\((Zf w).2=e\/(Zf w).2=0/\(parS (Zf w).1).2=e):=by
 have hp:parseF (Zf w).1=some (parS (Zf w).1):=rfl;unfold Z9 Fs Rw XG KH;simp only[GN,hp,ze,Aa];cases h1:(Zf w).2==0 with
 |false=>
  have h1':((Zf w).2 != 0)=true:=by rw[bne,h1];rfl
  simp only[h1',Xa,Ca,Aa];exact .inr ⟨_,h1',rfl, .inl rfl⟩
 |true=>
  have h1':((Zf w).2 != 0)=false:=by rw[bne,h1];rfl
  simp only[h1',Eb,Ba];cases h2:(parS (Zf w).1).2==0 with
  |false=>
   have h2':((parS (Zf w).1).2 != 0)=true:=by rw[bne,h2];rfl
   simp only[h2',Xa,Ca,Aa];exact .inr ⟨_,h2',rfl, .inr ⟨Ob.1 h1,rfl⟩⟩
  |true=>
   have h2':((parS (Zf w).1).2 != 0)=false:=by rw[bne,h2];rfl
   have hz:=MU hw;obtain⟨y,hy,_,_,_,g4⟩:=KO (v:=(parS (Zf w).1).1) (q:=⟨64,0⟩) true (c:=0) (by unfold big;omega) ⟨64,by omega,rfl⟩ rfl (by unfold big;omega);have g4:ZE 64 (fV true (parS (Zf w).1).1)=(y.1,rmQ y.2):=g4;simp only[h2',Eb,Ba,hy,Aa,show((0:Int) != 0)=false from rfl];refine .inl ⟨⟨Ob.1 h1,Ob.1 h2⟩,?_⟩;unfold qj;rw[g4]
theorem uK(p:List za): ∀(st:List (zk×List za)) (cur:List za),st≠[]->shutAll cur (preS p st)=p++shutAll cur st
 |[],_,h=>absurd rfl h
 |[x],cur,_=>by simp only[preS,shutAll,ja]
 |x::y::st,cur,_=>by obtain⟨o,out⟩:=x;rw[preS,shutAll,shutAll];exact uK p (y::st) _ (by simp)
theorem zAv(p:List za)(s:PSt):shutAll (preQ p s).1 (preQ p s).2=p++shutAll s.1 s.2:=by
 obtain⟨cur,st⟩:=s;unfold preQ;cases st with
 |nil=>rfl
 |cons x st=>exact uK p (x::st) cur (by simp)
theorem YX{l m:List zk}{v:List za}(h:qz l ([],[])=some (v,[]))(hm:(parS m).2=0):parS (l++m)=([],4)\/parS (l++m)=(v++(parS m).1,0):=by
 unfold parS at hm ⊢;rw[OO h];split
 ·exact .inl rfl
 ·split at hm
  ·cases hm
  ·rename_i h1 h2;rw[Ha h2];cases hr:qz m ([],[])with
   |none=>rw[hr]at hm;cases hm
   |some s=>
    rw[hr]at hm;dsimp only at hm;split at hm
    ·cases hm
    ·rename_i h3;simp only[ib];rw[Ha h3];split
     ·exact .inl rfl
     ·exact .inr (by rw[zAv])
theorem tok4{w:Str}(hw:w.length<=4000):(Zf w).2=0\/(Zf w).2=4:=by
 unfold Zf;rw[Ha (by omega)];split
 ·exact .inr rfl
 ·exact .inl rfl
theorem Bz{w:Str}(h:okW w):(Zf w).1=QP (Proofs.Cl.cleanS w):=(tok0 h.1).2.2
theorem EP{s:Str}(hs:Closed s)(t:Str):QP (Proofs.Cl.cleanS (s++t))=QP (Proofs.Cl.cleanS s)++QP (Proofs.Cl.cleanS t):=by
 obtain⟨_,_,_,_,l0,R0,hr,hR⟩:=hs;have hend:endC (Proofs.Cl.cleanS s):=by obtain⟨q,e⟩:=hR▸(Oh R0).trans (Ho hr);exact⟨q,e.symm⟩
 rw[LW t (wU hend),zG2 _ hr hR]
theorem yN{s t u:Str}(hs:Closed s)(ht:Closed t)(hu:okW u):parS (QP (Proofs.Cl.cleanS (s++t++u)))=([],4)\/parS (QP (Proofs.Cl.cleanS (s++t++u)))=((parS (Zf s).1).1++((parS (Zf t).1).1++(parS (Zf u).1).1),0):=by rw[ja,EP hs,EP ht,<-ja,<-ja,Bz hu];refine YX ?_ (by rw[<-Bz hu];exact hu.2);rw[OO hs.par,ht.par];show some (preQ _ _)=_;unfold preQ;rw[Ka rfl];rfl
theorem Closed.lastB{s:Str}(h:Closed s):lastB (parS (Zf s).1).1:=by obtain⟨t,b,h1,h2⟩:=h.last;exact .inr ⟨t,b,h1,h2⟩
theorem YV{s t u:Str}(hs:Closed s)(ht:Closed t)(hu:okW u)(hl:(s++t++u).length<=1800):Z9 (s++t++u)=some (⟨[]⟩,4)\/ ∃w:List zJ,zL zD w<=207000/\Z9 (s++t++u)=some (⟨w⟩,0)/\QV w<=64/\
  w.length<=(qj s++qj t++qj u).length/\(QV (qj s++qj t++qj u)<=64->w=qj s++qj t++qj u):=by
 rcases lS hl with⟨h1,h2⟩|⟨e,h1,h2,h3⟩
 ·refine .inr ⟨_,Wz hl,h2,?_⟩;have hv:(parS (Zf (s++t++u)).1).1=(parS (Zf s).1).1++((parS (Zf t).1).1++(parS (Zf u).1).1):=by
   rw[Bz h1];rcases yN hs ht hu with e3|e3
   ·have:=h1.2;rw[Bz h1,e3]at this;cases this
   ·rw[e3]
  have hw:qj (s++t++u)=(ZE 64 (fV true (parS (Zf s).1).1++fV true (parS (Zf t).1).1++fV true (parS (Zf u).1).1)).1:=by unfold qj;rw[hv,iT _ hs.lastB,iT _ ht.lastB,ja]
  rw[hw];unfold qj;generalize fV true (parS (Zf s).1).1=A;generalize fV true (parS (Zf t).1).1=B;generalize fV true (parS (Zf u).1).1=C;obtain⟨a1,a2⟩:=FL A B 64;obtain⟨b1,b2⟩:=FL (A++B) C 64;have h5:=(Vm (A++B++C) 64).1;simp only[Ia,GG];refine⟨by omega,by omega,fun h=> ?_⟩;have e1:=a2 (by omega);rw[b2 (by rw[e1,GG];exact h),e1]
 ·left;have:e=4:=by
   rcases h3 with h3|⟨h3,h4⟩
   ·rcases tok4 (w:=s++t++u) (by omega)with h|h
    ·rw[<-h3,h]at h1;cases h1
    ·exact h3.symm.trans h
   ·rw[(tok0 h3).2.2]at h4;rcases yN hs ht hu with e3|e3
    ·rw[e3]at h4;exact h4.symm
    ·rw[e3]at h4;have h4:(0:Int)=e:=h4;rw[<-h4]at h1;cases h1
  rw[h2,this]
theorem Vj{X R:Type}{step:Int->Option (LO Int X R)}{k:X->Option R}(n:Nat)(x:X)(h: ∀i,i<n->step (i:Int)=some (.again ((i+1:Nat):Int)))(hf:step (n:Int)=some (.out x)):Zl step 0 k=k x:=by
 refine(zB3 (List.replicate n ()) (fun i (_:Unit)=>(i:Int)) (fun v (_:Unit)=>some (.again ())) (fun _=>some (.out x)) (a:=()) rfl (fun i a hi=> ?_) (fun a=> ?_) (r:= .out x) ?_)
 ·rw[h i (by simpa using hi)];rfl
 ·rw[List.length_replicate,hf];rfl
 ·rw[uo (fun a v=>a) (fun v a=>rfl)]
theorem tL(r:zJ):(⟨r.kind,r.selectors,r.decls,r.cond,r.names,r.rules⟩:zJ)=r:=by cases r;rfl
theorem zG8(l:List (List Str)):l.length<=zL (fun l:List Str=>[.sl (l.map fun y=>[.str y])]) l/\ ∀n∈l,n.length<=zL (fun l:List Str=>[.sl (l.map fun y=>[.str y])]) l/\ ∀s∈n,s.length<=zL (fun l:List Str=>[.sl (l.map fun y=>[.str y])]) l:=by
 have h1: ∀n:List Str,n.length<=zL (fun y:Str=>[.str y]) n:=Qw (fun y=>by simp[zy,bPV]);have h2: ∀n:List Str,zy [.sl (n.map fun y=>[.str y])]=1+zL (fun y:Str=>[.str y]) n:=dD;refine⟨Qw (fun v=>by rw[h2];omega) l,fun n hn=> ?_⟩;have hm:=Vg (f:=fun l:List Str=>[.sl (l.map fun y=>[.str y])]) hn;have h3:=h2 n;have h4:=h1 n;refine⟨by omega,fun s hs=> ?_⟩;have h5:=Vg (f:=fun y:Str=>[.str y]) hs;have h6:zy [PV.str s]=1+s.length\/zy [PV.str s]=s.length:=by simp only[zy,bPV];omega
 omega
theorem iM{r y:zJ}(h:y∈r.rules):zy (zD y)<zy (zD r):=by have hz:=Mm r;have:=Vg (f:=zD) h;omega
theorem zHr{a:List za}(h:szL a<=big):Rl (a,a)=some true:=by
 refine ai (fun x:List za×List za=>szL x.1) (fun x=>szL x.1<=big/\x.1=x.2) (fun x=>true) (fun S x hl hS=> ?_) (show szL (a,a).1<=big/\(a,a).1=(a,a).2 from⟨h,rfl⟩);obtain⟨l,l'⟩:=x;obtain⟨hl,he⟩:=hl;simp only at hl hS he;subst he;unfold EB;have hlen:=Mh l;have hne:((l.length:Int) != (l.length:Int))=false:=by simp
 simp only[hne,Ba];refine Vj l.length () (fun i hi=> ?_) ?_
 ·have hsz:=Jm (Nb hi);have hv2:=Wi l[i];have hs1:szL l[i].list<=big:=by omega
  have hs2:szL l[i].list<szL l:=by omega
  have hSq:S (l[i].list,l[i].list)=some true:=hS (l[i].list,l[i].list) ⟨hs1,rfl⟩ hs2;simp[hi,Zu hi,hSq,Zw hi (by omega)]
 ·simp only[ZM,Ba]
theorem bS{d:Zm}(h:zL zf d.value<=big):Us (d,d)=some true:=by unfold Us;have:=Dj d.value;have e1:(d.name==d.name)=true:=He _;have e2:(d.important==d.important)=true:=He _;simp only[e1,e2,Ca,Zk,zHr (show szL d.value<=big by omega),ze,Aa]
theorem zHs{l:List Zm}(h:zL ZH l<=big):Bw (l,l)=some true:=by
 unfold Bw;have hlen:=Qw az l;have hne:((l.length:Int) != (l.length:Int))=false:=by simp
 simp only[hne,Ba];refine Vj l.length () (fun i hi=> ?_) ?_
 ·have hsz:=Vg (f:=ZH) (Nb hi);have hv2:=Q3 l[i];have h1:Us (l[i],l[i])=some true:=bS (by omega);simp[hi,Zu hi,h1,Zw hi (by omega)]
 ·simp only[ZM,Ba]
theorem zGR{c:zt}(h:zy (zw c)<=big):Yj (c,c)=some true:=by
 refine ai (fun x:zt×zt=>zy (zw x.1)) (fun x=>zy (zw x.1)<=big/\x.1=x.2) (fun x=>true) (fun S x hl hS=> ?_) (show zy (zw (c,c).1)<=big/\(c,c).1=(c,c).2 from⟨h,rfl⟩);obtain⟨c,c'⟩:=x;obtain⟨hl,he⟩:=hl;simp only at hl hS he;subst he;unfold AB;have hlen:=bO c;have hd:=cO c;rw[Q3]at hd;have e1:(c.kind != c.kind)=false:=by simp
 have e2:(c.name==c.name)=true:=He _;have e3:(c.num != c.num)=false:=by simp
 have e4:((c.list.length:Int) != (c.list.length:Int))=false:=by simp
 simp only[e1,e2,e3,e4,Ba,Eb,Xa,Zk,bS (show zL zf c.decl.value<=big by omega),ze,Aa];refine Vj c.list.length () (fun i hi=> ?_) ?_
 ·have hsz:=iF (Nb hi);have hSq:S (c.list[i],c.list[i])=some true:=hS (c.list[i],c.list[i]) ⟨by show zy (zw c.list[i])<=big;omega,rfl⟩ hsz;simp[hi,Zu hi,hSq,Zw hi (by omega),Qd]
 ·simp only[ZM,Ba]
theorem zHt{l:List zu}(h:zL zA l<=big):ZO (l,l)=some true:=by
 refine ai (fun x:List zu×List zu=>zL zA x.1) (fun x=>zL zA x.1<=big/\x.1=x.2) (fun x=>true) (fun S x hl hS=> ?_) (show zL zA (l,l).1<=big/\(l,l).1=(l,l).2 from⟨h,rfl⟩);obtain⟨l,l'⟩:=x;obtain⟨hl,he⟩:=hl;simp only at hl hS he;subst he;unfold CB;have hlen:=Qw Dw l;have hne:((l.length:Int) != (l.length:Int))=false:=by simp
 simp only[hne,Ba];have hsimp: ∀q:List zH,zL Za q<zL zA l->IC S (q,q)=some true:=by
  intro q hq;unfold IC;have hq1:=Qw gz q;have hne:((q.length:Int) != (q.length:Int))=false:=by simp
  simp only[hne,Ba];refine Vj q.length () (fun i hi=> ?_) ?_
  ·have hsz:=Vg (f:=Za) (Nb hi);have hv2:=Sm q[i];have h1:S (q[i].list,q[i].list)=some true:=hS (q[i].list,q[i].list) ⟨by show zL zA q[i].list<=big;omega,rfl⟩ (by show zL zA q[i].list<_;omega);simp only[Fa (show(i:Int)<(q.length:Int) by omega),Ca,Zu hi,ze,Aa,BB,He,Bool.and_self,Eb,Xa,Zk,h1,Ba,Zw hi (by omega)]
  ·simp only[ZM,Ba]
 refine Vj l.length () (fun i hi=> ?_) ?_
 ·have hsz:=Vg (f:=zA) (Nb hi);have hv2:=oo l[i];have hlp:=Qw Iw l[i].parts;have h1:iA S (l[i],l[i])=some true:=by
   unfold iA;have e1:(l[i].lead != l[i].lead)=false:=by simp
   have e2:((l[i].parts.length:Int) != (l[i].parts.length:Int))=false:=by simp
   have e3:(l[i].combs==l[i].combs)=true:=He _;simp only[e1,e2,e3,Ba,Eb];refine Vj l[i].parts.length () (fun j hj=> ?_) ?_
   ·have hsz2:=Vg (f:=Zd) (Nb hj);have hv3:=Lp l[i].parts[j];have h1:=hsimp l[i].parts[j].simples (by omega);simp[hj,Zu hj,h1,Zw hj (by omega),ze]
   ·simp only[ZM,Ba]
  have eta:(⟨l[i].lead,l[i].parts,l[i].combs⟩:zu)=l[i]:=by cases l[i];rfl
  simp[hi,Zu hi,eta,h1,Zw hi (by omega),ze]
 ·simp only[ZM,Ba]
theorem zHu{l:List (List Str)}(hl:l.length<=big)(h: ∀n∈l,n.length<=big):kw (l,l)=some true:=by
 unfold kw;have hne:((l.length:Int) != (l.length:Int))=false:=by simp
 simp only[hne,Ba];refine Vj l.length () (fun i hi=> ?_) ?_
 ·have h2:=h l[i] (Nb hi);have hne:((l[i].length:Int) != (l[i].length:Int))=false:=by simp
  simp only[Fa (show(i:Int)<(l.length:Int) by omega),Ca,Zu hi,ze,Aa,hne,Ba];refine(Vj l[i].length () (fun j hj=> ?_) ?_).trans ?_
  ·simp[hj,Zu hj,Zw hj h2]
  ·simp only[ZM,Ba]
  ·rw[Zw hi hl]
 ·simp only[ZM,Ba]
theorem zFh{S:zJ×zJ->Option Bool}{l:List zJ}(hl:l.length<=big)(hS: ∀y∈l,S (y,y)=some true):Aw S (l,l)=some true:=by
 unfold Aw;have hne:((l.length:Int) != (l.length:Int))=false:=by simp
 simp only[hne,Ba];refine Vj l.length () (fun i hi=> ?_) ?_
 ·simp only[Fa (show(i:Int)<(l.length:Int) by omega),Ca,Zu hi,ze,Aa,Qd,tL,hS _ (Nb hi),Eb,Ba,Zw hi hl]
 ·simp only[ZM,Ba]
theorem zAp{r:zJ}(h:zy (zD r)<=big):qg (r,r)=some true:=by refine ai (fun x:zJ×zJ=>zy (zD x.1)) (fun x=>zy (zD x.1)<=big/\x.1=x.2) (fun x=>true) (fun S x hl hS=> ?_) (show zy (zD (r,r).1)<=big/\(r,r).1=(r,r).2 from⟨h,rfl⟩);obtain⟨l,l'⟩:=x;obtain⟨hl,he⟩:=hl;simp only at hl hS he;subst he;unfold VB;have hv2:=Mm l;have hn:=zG8 l.names;have hlr:=Qw Xj l.rules;have e1:(l.kind==l.kind)=true:=He _;have g1:ZO (l.selectors,l.selectors)=some true:=zHt (by omega);have g2:Bw (l.decls,l.decls)=some true:=zHs (by omega);have g3:Yj (l.cond,l.cond)=some true:=zGR (by omega);have g4:kw (l.names,l.names)=some true:=zHu (by omega) (fun n hm=>by have:=(hn.2 n hm).1;omega);have g5:Aw S (l.rules,l.rules)=some true:=zFh (by omega) fun y hy=>hS (y,y) ⟨by have:=iM hy;show zy (zD y)<=big;omega,rfl⟩ (iM hy);simp only[e1,Zk,g1,ze,Aa,Ca,g2,Qd,g3,g4,g5]
theorem yu: @um fuK ()=some true:=by decide+kernel
theorem YQ{l:List zJ}(h:zL zD l<=big):qw l=some (QV l:Int):=by
 refine ai (fun l=>zL zD l) (fun l=>zL zD l<=big) (fun l=>(QV l:Int)) (fun S l hl hS=> ?_) h;unfold eB;have hn:=NM l;have hlen:=Qw Xj l;rw[UM]at hn ⊢;refine(Sv l (fun r=>QV r.rules) l.length big (by omega) (fun i a hi ha=> ?_) (fun a=> ?_)).trans rfl
 ·have hm:=Vg (f:=zD) (Nb hi);have hz:=Mm l[i];simp only[ZY hi,Ca,Zu hi,ze,Aa,Zw hi (show l.length<=big by omega),hS l[i].rules (show zL zD l[i].rules<=big by omega) (show zL zD l[i].rules<zL zD l by omega),gD ha]
 ·simp only[ZM,Ba]
theorem H8{l:List zJ}(h:zL zD l<=big):yA l=some (QV l:Int):=by
 unfold yA;have hn:=NM l;have hlen:=Qw Xj l;rw[UM]at hn ⊢;refine(Sv l (fun r=>QV r.rules) l.length big (by omega) (fun i a hi ha=> ?_) (fun a=> ?_)).trans rfl
 ·have hm:=Vg (f:=zD) (Nb hi);have hz:=Mm l[i];have hnn:decide ((0:Int)<=(i:Int))=true:=Fa (by omega);simp only[ZY hi,hnn,Bool.and_self,Zy,Ib,Ra hi,Ca,ze,Aa,Zw hi (show l.length<=big by omega),YQ (show zL zD l[i].rules<=big by omega),gD ha]
 ·simp only[ZM,Ba]
theorem zCE{l:List zJ}(h:zL zD l<=big):xA (l,l)=some true:=by
 unfold xA;have hlen:=Qw Xj l;have hne:((l.length:Int) != (l.length:Int))=false:=by simp
 simp only[hne,Ba];refine Vj l.length () (fun i hi=> ?_) ?_
 ·have hnn:decide ((0:Int)<=(i:Int))=true:=Fa (by omega);simp only[Fa (show(i:Int)<(l.length:Int) by omega),hnn,Bool.and_self,Zy,Ib,Ra hi,Ca,Zu hi,ze,Aa,Qd,tL,zAp (ma (Vg (f:=zD) (Nb hi)) h),Eb,Ba,Zw hi (show l.length<=big by omega)]
 ·simp only[ZM,Ba]
theorem FE{w:Str}(hw:w.length<=1800): ∃L e,Z9 w=some (⟨L⟩,e)/\(e=0->okW w/\L=qj w):=by
 rcases lS hw with⟨h1,h2⟩|⟨e,h1,h2,_⟩
 ·exact⟨_,0,h2,fun _=>⟨h1,rfl⟩⟩
 ·exact⟨_,e,h2,fun h=>by rw[h]at h1;cases h1⟩
theorem mY(x:Str×Str×Str):wB x=some true:=by
 obtain⟨s,t,u⟩:=x;have hbig:big=4194304:=rfl;unfold wB;dsimp only;cases hl:(bif bif decide ((s.length:Int)>600)then true else decide ((t.length:Int)>600)then true else decide ((u.length:Int)>600))with
 |true=>simp only[Ca,yu,ze,Aa]
 |false=>
  obtain⟨l1,l2,l3⟩:s.length<=600/\t.length<=600/\u.length<=600:=by
   by_cases h1:(s.length:Int)>600
   ·rw[Fa h1]at hl;cases hl
   by_cases h2:(t.length:Int)>600
   ·rw[Ta h1,Fa h2]at hl;cases hl
   rw[Ta h1,Ta h2]at hl;have:=of_decide_eq_false hl;omega
  rw[Ba];obtain⟨a,ea,ha⟩:=lN (w:=s) (by omega);obtain⟨b,eb,hb⟩:=lN (w:=t) (by omega);rw[ea,eb];simp only[ze,Aa];have al:(@um fuK ()).bind (fun y7=>some y7)=some true:=by rw[yu];rfl
  have bt: ∀c:Bool,(bif c then true else true)=true:=fun c=>by cases c<;>rfl
  have bs: ∀b1 b2 b3 b4 b5 b6:Bool,(bif bif bif bif bif b1 then true else b2 then true else b3 then true else b4 then true else b5 then true else b6)=false->b1=false/\b2=false/\b3=false/\b4=false/\b5=false:=by decide
  obtain⟨L1,e1,es,k1⟩:=FE (w:=s) (by omega);obtain⟨L2,e2,et,k2⟩:=FE (w:=t) (by omega);obtain⟨L3,e3,eu,k3⟩:=FE (w:=u) (by omega);simp only[es,et,eu,Aa];cases hc:(bif bif bif bif bif !a.2 then true else !b.2 then true else e1 != 0 then true else e2 != 0 then true else e3 != 0 then true else decide (w64 (a.1+b.1)>700))with
  |true=>rw[Ca];exact al
  |false=>
   obtain⟨c1,c2,c3,c4,c5⟩:=bs _ _ _ _ _ _ hc;obtain⟨os,rfl⟩:=k1 (by simpa using c3);obtain⟨ot,rfl⟩:=k2 (by simpa using c4);obtain⟨ou,rfl⟩:=k3 (by simpa using c5);have hs:=ha (by simpa using c1);have ht:=hb (by simpa using c2);have z1:=Wz (w:=s) (by omega);have z2:=Wz (w:=t) (by omega);have z3:=Wz (w:=u) (by omega);have n1:=Qw Xj (qj s);have n2:=Qw Xj (qj t);have n3:=Qw Xj (qj u);have g1:Nj s.length t.length=true:=Uv.2 (by omega);have g2:Nj (s++t).length u.length=true:=Uv.2 (by rw[Ia];omega);have g3:Zp 0 (qj s).length 208=true:=ZU (by omega);have g4:Zp (qj s).length (qj t).length 208=true:=ZU (by omega);have g5:Zp (qj s++qj t).length (qj u).length 208=true:=ZU (by rw[Ia];omega);have z4:zL zD (qj s++qj t++qj u)<=big:=by rw[jh,jh];omega
   simp only[Ba,g1,g2,g3,g4,g5,Zy];rcases YV hs ht ou (by rw[Ia,Ia];omega)with h|⟨w,hw,h,h5,h6,h7⟩
   ·simp only[h,Aa,show((4:Int) != 0)=true from rfl,Ca,show((4:Int)==4)=true from rfl,Zk,yu]
   ·simp only[h,Aa,show((0:Int) != 0)=false from rfl,Ba,H8 z4];by_cases h8:QV (qj s++qj t++qj u)<=64
    ·rw[Ta (show¬((QV (qj s++qj t++qj u):Nat):Int)>64 by omega),Ba,h7 h8,zCE z4];simp only[Aa,Zk,yu,Ca]
    ·rw[Fa (show((QV (qj s++qj t++qj u):Nat):Int)>64 by omega),Ca,YQ (show zL zD w<=big by omega),Fa (show(w.length:Int)<=((qj s++qj t++qj u).length:Int) by omega)];simp only[Zk,Aa,Ca,Fa (show((QV w:Nat):Int)<=64 by omega),yu]
end Go.Lv.VT
