/- Selectors: how many there are; the checks. -/
import Derived.Test.YtanfjibdgcalfaaGreatDoorXb
set_option linter.unusedSimpArgs false
set_option linter.unusedVariables false
namespace Go.Lv.VT
theorem Dm {α R:Type} {step:Int×Int->Option (LO (Int×Int) Int R)} {k:Int->Option R} (l:List α) (f:α->Nat) (a0 M:Nat) (hb:a0+(l.map f).sum<=M)
  (hg: ∀(i a:Nat) (h:i<l.length),a+f l[i]<=M->step ((a:Int),(i:Int))=some (.again (((a+f l[i]:Nat):Int),((i+1:Nat):Int))))
  (hf: ∀a:Nat,step ((a:Int),(l.length:Int))=some (.out (a:Int))):Zc step ((a0:Int),0) k=k ((a0+(l.map f).sum:Nat):Int):=by
 have key: ∀(m:List α) (i a:Nat),l.drop i=m->i<=l.length->a+(m.map f).sum<=M-> ∃n,qz step n ((a:Int),(i:Int))=some (.out ((a+(m.map f).sum:Nat):Int)):=by
  intro m
  induction m with
  |nil=>
   intro i a hd hi _;have:i=l.length:=by have:=Cc.1 hd;omega
   subst this;exact⟨1,by simp only[qz,hf];simp⟩
  |cons v m ih=>
   intro i a hd hi hM;have hlt:i<l.length:=by
    rcases Fe i l.length with h|h
    ·exact h
    ·rw[List.drop_eq_nil_of_le h]at hd;cases hd
   have hv:l[i]=v:=by have:=Xa hlt;rw[hd]at this;injection this with h1 _;exact h1.symm
   rw[Sb,Ae]at hM ⊢;have hs:=hg i a hlt (by rw[hv];omega);rw[hv]at hs;obtain⟨n,hn⟩:=ih (i+1) (a+f v) (by rw[Xa hlt]at hd;injection hd) (by omega) (by omega);refine⟨n+1,?_⟩;simp only[qz,hs];rw[hn,We]
 obtain⟨n,hn⟩:=key l 0 a0 rfl (by omega) hb;replace hn:qz step n ((a0:Int),0)=_:=hn;rw[Wh (Jh hn)];rfl
mutual
/-- How many complex ones there are, in all. -/
def numL:List zg->Nat
 |[]=>0
 |⟨_,parts,_⟩::r=>1+numP parts+numL r
def numP:List zy->Nat
 |[]=>0
 |⟨_,simples⟩::r=>numI simples+numP r
def numI:List zx->Nat
 |[]=>0
 |⟨_,_,_,_,_,_,_,list⟩::r=>numL list+numI r
end
theorem NU(l:List zx):numI l=(l.map fun x=>numL x.list).sum:=by
 induction l with
 |nil=>rw[numI];rfl
 |cons x l ih=>obtain⟨⟩:=x;rw[numI,ih];rfl
theorem KU(l:List zy):numP l=(l.map fun x=>numI x.simples).sum:=by
 induction l with
 |nil=>rw[numP];rfl
 |cons x l ih=>obtain⟨⟩:=x;rw[numP,ih];rfl
theorem LU(l:List zg):numL l=l.length+(l.map fun x=>numP x.parts).sum:=by
 induction l with
 |nil=>rw[numL];rfl
 |cons x l ih=>obtain⟨⟩:=x;rw[numL,ih,Sb,Ae,Pb];dsimp only;omega
mutual
theorem VE: ∀l:List zg,numL l<=zL zo l
 |[]=>by rw[numL];exact Rb _
 |⟨a,parts,b⟩::r=>by rw[numL,Qx,Qm];have:=JU parts;have:=VE r;show 1+numP parts+numL r<=3+zL zT parts+b.length+_;omega
theorem JU: ∀l:List zy,numP l<=zL zT l
 |[]=>by rw[numP];exact Rb _
 |⟨a,simples⟩::r=>by rw[numP,Qx,qA];have:=MU simples;have:=JU r;show numI simples+numP r<=2+a.length+zL Zd simples+_;omega
theorem MU: ∀l:List zx,numI l<=zL Zd l
 |[]=>by rw[numI];exact Rb _
 |⟨a,b,c,d,e,f,g,list⟩::r=>by rw[numI,Qx,Qk];have:=VE list;have:=MU r;show numL list+numI r<=9+b.length+d.length+zL zo list+_;omega
end
theorem L9{l:List zg}(h:zL zo l<=big):Qv l=some (numL l:Int):=by
 refine ZH (fun l=>zL zo l) (fun l=>zL zo l<=big) (fun l=>(numL l:Int)) (fun S l hl hS=> ?_) h;unfold AC;have hn:=VE l;have hlen:=ZL qP l;rw[LU]at hn ⊢;refine(Dm l (fun x=>numP x.parts) l.length big (by omega) (fun i a hi ha=> ?_) (fun a=> ?_)).trans rfl
 ·have hm:=ZW (f:=zo) (Ga hi);have hz:=Qm l[i];have hlen2:=ZL Qw l[i].parts;simp only[zY hi,Da,zS hi,za,Ba,zK hi (show l.length<=big by omega)];rw[KU]at ha ⊢;refine(Dm l[i].parts (fun x=>numI x.simples) a big ha (fun j b hj hb=> ?_) (fun a=> ?_)).trans rfl
  ·have hm2:=ZW (f:=zT) (Ga hj);have hz2:=qA l[i].parts[j];have hlen3:=ZL Wi l[i].parts[j].simples;simp only[zY hj,Da,zS hj,Ba,zK hj (show l[i].parts.length<=big by omega)];rw[NU]at hb ⊢;refine(Dm l[i].parts[j].simples (fun x=>numL x.list) b big hb (fun m c hm3 hc=> ?_) (fun a=> ?_)).trans rfl
   ·have hm4:=ZW (f:=Zd) (Ga hm3);have hz3:=Qk l[i].parts[j].simples[m];simp only[zY hm3,Da,zS hm3,Ba,zK hm3 (show l[i].parts[j].simples.length<=big by omega)];rw[hS _ (by show zL zo l[i].parts[j].simples[m].list<=big;omega) (by show zL zo l[i].parts[j].simples[m].list<zL zo l;omega)];simp only[Ba,ol hc]
   ·simp only[zV,Ca]
  ·simp only[zV,Ca]
 ·simp only[zV,Ca]
theorem X7{l:List zg}(h:zL zo l<=big):Q7 l=some (numL l:Int):=by
 refine ZH (fun l=>zL zo l) (fun l=>zL zo l<=big) (fun l=>(numL l:Int)) (fun S l hl hS=> ?_) h;unfold iB;have hn:=VE l;have hlen:=ZL qP l;rw[LU]at hn ⊢;refine(Dm l (fun x=>numP x.parts) l.length big (by omega) (fun i a hi ha=> ?_) (fun a=> ?_)).trans rfl
 ·have hm:=ZW (f:=zo) (Ga hi);have hz:=Qm l[i];have hlen2:=ZL Qw l[i].parts;simp only[zY hi,Da,zS hi,za,Ba,zK hi (show l.length<=big by omega)];rw[KU]at ha ⊢;refine(Dm l[i].parts (fun x=>numI x.simples) a big ha (fun j b hj hb=> ?_) (fun a=> ?_)).trans rfl
  ·have hm2:=ZW (f:=zT) (Ga hj);have hz2:=qA l[i].parts[j];have hlen3:=ZL Wi l[i].parts[j].simples;simp only[zY hj,Da,zS hj,Ba,zK hj (show l[i].parts.length<=big by omega)];rw[NU]at hb ⊢;refine(Dm l[i].parts[j].simples (fun x=>numL x.list) b big hb (fun m c hm3 hc=> ?_) (fun a=> ?_)).trans rfl
   ·have hm4:=ZW (f:=Zd) (Ga hm3);have hz3:=Qk l[i].parts[j].simples[m];simp only[zY hm3,Da,zS hm3,Ba,zK hm3 (show l[i].parts[j].simples.length<=big by omega)];rw[hS _ (by show zL zo l[i].parts[j].simples[m].list<=big;omega) (by show zL zo l[i].parts[j].simples[m].list<zL zo l;omega)];simp only[Ba,ol hc]
   ·simp only[zV,Ca]
  ·simp only[zV,Ca]
 ·simp only[zV,Ca]
def selS(l:List zg):Int:=bif l.isEmpty|| !(l.all fun c=>QR c 0 false false)then 8 else bif decide (numL l<=64)then 0 else 4
theorem M9{l:List zg}(h:zL zo l<=big):XA l=some (selS l):=by
 have hlen:=ZL qP l;have e64:decide ((numL l:Int)>64)= !decide (numL l<=64):=Jf _ 64;have hc:qI l=some (!l.all fun c=>QR c 0 false false):=by
  unfold qI wI;refine Oj (Kj l (fun x=> !QR x 0 false false) (by omega) (fun i hi=> ?_) ?_) ((Ki _ _).trans (uo _ _))
  ·have hm:=ZW (f:=zo) (Ga hi);simp only[zY hi,Da,zS hi,za,Ba,mH,Cz];have:=zHm (c:=l[i]) (d:=0) (h:=false) (b:=false) (by omega) (by omega);simp only[Int.natCast_zero]at this;rw[this];rfl
  ·simp only[zV,Ca]
 unfold XA selS;simp only[hc,L9 h,zM,za,Ba,ZJ,e64];cases l.isEmpty<;>cases l.all (fun c=>QR c 0 false false)<;>cases decide (numL l<=64)<;>rfl
theorem DZ{l:List zg}(h:zL zo l<=big):Oz l=some (selS l):=by
 have hlen:=ZL qP l;have e64:decide ((numL l:Int)>64)= !decide (numL l<=64):=Jf _ 64;have hc:Ty l=some ((l.all fun c=>QR c 0 false false)&& !l.isEmpty):=by
  unfold Ty;refine(Z9 l (fun c=>bif QR c 0 false false then none else some false) () (fun i hi=> ?_) ?_).trans ?_
  ·have hm:=ZW (f:=zo) (Ga hi);simp only[zY hi,Da,zS hi,za,Ba,Cz,zK hi (show l.length<=big by omega)];have:=zJy (c:=l[i]) (d:=0) (h:=false) (b:=false) (by omega) (by omega);simp only[Int.natCast_zero]at this;rw[this];simp only[Ba];cases QR l[i] 0 false false<;>rfl
  ·simp only[zV,Ca]
  ·rw[Pg,Sk];cases l.all fun c=>QR c 0 false false<;>rfl
 unfold Oz selS;simp only[hc,X7 h,za,Ba,e64];cases l.isEmpty<;>cases l.all (fun c=>QR c 0 false false)<;>cases decide (numL l<=64)<;>rfl
def zNm{A S X R:Type}(k:X->Option R)(st:Nat->A->S)(Q:R->Prop)(i:Nat):LO S X R->Prop
 | .again s=> ∃a',s=st (i+1) a'
 | .ret r=>Q r
 | .out x=> ∃r,k x=some r/\Q r
def Ends{S X R:Type}(k:X->Option R)(Q:R->Prop):LO S X R->Prop
 | .again _=>False
 | .ret r=>Q r
 | .out x=> ∃r,k x=some r/\Q r
theorem Vk {A S X R:Type} {step:S->Option (LO S X R)} {k:X->Option R} (n:Nat) (st:Nat->A->S) (Q:R->Prop) {s0:S} {a0:A} (h0:s0=st 0 a0)
  (hg: ∀(i:Nat) (a:A),i<n-> ∃o,step (st i a)=some o/\zNm k st Q i o) (hf: ∀a,∃o,step (st n a)=some o/\Ends k Q o): ∃r,Zc step s0 k=some r/\Q r:=by
 refine Bt n st (fun _ _=>True) Q h0 trivial (fun i a hi _=> ?_) (fun a _=> ?_)
 ·obtain⟨o,h1,h2⟩:=hg i a hi;cases o with
  |again s=>obtain⟨a',rfl⟩:=h2;exact .inl ⟨a',h1,trivial⟩
  |ret r=>exact .inr (.inl ⟨r,h1,h2⟩)
  |out x=>exact .inr (.inr ⟨x,h1,h2⟩)
 ·obtain⟨o,h1,h2⟩:=hf a;cases o with
  |again s=>exact h2.elim
  |ret r=>exact .inr ⟨r,h1,h2⟩
  |out x=>exact .inl ⟨x,h1,h2⟩
theorem wD{α:Type}{b:Bool}{A B:Option α}{P:α->Prop}(h1: ∃o,A=some o/\P o)(h2: ∃o,B=some o/\P o): ∃o,(bif b then A else B)=some o/\P o:=by
 cases b
 ·exact h2
 ·exact h1
theorem zBy{l:List ze}{m:Int}(h:szL l<=big): ∃r,Ei (l,m)=some r:=by
 have: ∃r,Ei (l,m)=some r/\True:=by
  refine ak U8 (fun x=>szL x.1) (fun x=>szL x.1<=big) (fun _ _=>True) (fun S x hx hS=> ?_) (x:=(l,m)) h;obtain⟨l,m⟩:=x;have hx:szL l<=big:=hx;have hlen:=ag l;unfold Sq;refine Vk (A:=Int) l.length (fun i a=>(a,(i:Int))) _ (a0:=0) rfl (fun i a hi=> ?_) (fun a=> ?_)
  ·have hsz:=Vh (Ga hi);have hv:=Dh l[i];cases ha:decide (a<=m)with
   |false=>simp only[zY hi,Da,Ca,ha];exact⟨_,rfl,_,rfl,trivial⟩
   |true=> obtain⟨r,hr,_⟩:=hS (l[i].list,w64 (m - a)) (by show szL l[i].list<=big;omega) (by show szL l[i].list<szL l;omega);simp only[zY hi,Da,ha,zS hi,za,Ba,hr,zK hi (show l.length<=big by omega)];exact⟨_,rfl,_,rfl⟩
  ·simp only[zV,Ca];exact⟨_,rfl,_,rfl,trivial⟩
 obtain⟨r,hr,_⟩:=this;exact⟨r,hr⟩
theorem mO{l:List Za}(h:zL ZC l<=big): ∃r,Dq l=some r:=by
 have hlen:=ZL Xh l;have: ∃r,Dq l=some r/\True:=by
  unfold Dq;cases decide ((l.length:Int)>40)with
  |true=>exact⟨_,rfl,trivial⟩
  |false=>
   simp only[Ca];refine Vk (A:=Int) l.length (fun i a=>(a,(i:Int))) _ (a0:=0) rfl (fun i a hi=> ?_) (fun a=> ?_)
   ·have hm:=ZW (f:=ZC) (Ga hi);have hz:=Qq l[i];have hv:=Rh l[i].value;obtain⟨r,hr⟩:=zBy (l:=l[i].value) (m:=300) (by omega);simp only[zY hi,Da,zS hi,za,Ba,hr,zM,zK hi (show l.length<=big by omega)];have hd: ∀(g:Bool) (k:Int->Option (LO (Int×Int) Unit Bool)),((zA g (Qg (bif g then l[i]else default).value) (default:Int)).bind k)=k (bif g then(Q0 l[i].value:Int)else default):=by
     intro g k;cases g with
     |false=>rfl
     |true=>simp only[Da,Zt,Gx (show szL l[i].value<=big by omega),Ba]
    rw[hd];exact wD ⟨_,rfl,trivial⟩ ⟨_,rfl,_,rfl⟩
   ·simp only[zV,Ca];exact⟨_,rfl,_,rfl,trivial⟩
 obtain⟨r,hr,_⟩:=this;exact⟨r,hr⟩
theorem zBA{c:zm}(h:zI (zH c)<=big): ∃r,Ci c=some r:=by
 have: ∃r,Ci c=some r/\True:=by
  refine ak O8 (fun c=>zI (zH c)) (fun c=>zI (zH c)<=big) (fun _ _=>True) (fun S c hc hS=> ?_) h;have hlen:=qL c;have hd:=Au c;obtain⟨r,hr⟩:=mO (l:=[c.decl]) (by rw[Qx,Wl];omega);unfold Mq;simp only[hr,za,Ba];refine wD ⟨_,rfl,trivial⟩ ?_
  ·refine Vk (A:=Unit) c.list.length (fun i _=>(i:Int)) _ (a0:=()) rfl (fun i a hi=> ?_) (fun a=> ?_)
   ·have hm:=qK (Ga hi);obtain⟨q,hq,_⟩:=hS c.list[i] (by omega) hm;simp only[zY hi,Da,zS hi,Ba,ZB,hq,zK hi (show c.list.length<=big by omega)];cases q with
    |true=>exact⟨_,rfl,trivial⟩
    |false=>exact⟨_,rfl,(),rfl⟩
   ·simp only[zV,Ca];exact⟨_,rfl,_,rfl,trivial⟩
 obtain⟨r,hr,_⟩:=this;exact⟨r,hr⟩
theorem mZ{c:zm}(h:zI (zH c)<=big): ∃r,Iz c=some r:=by obtain⟨n,h1,_⟩:=jO (m:=100) h (by unfold big;omega);replace h1:Qh (c,100)=some (n:Int):=h1;obtain⟨b,h2⟩:=zBA h;unfold Iz;simp only[ZB,h1,h2,za,Ba,zM];exact⟨_,rfl⟩
theorem zBz{l:List zg}{m:Int}(h:zL zo l<=big): ∃r,Di (l,m)=some r:=by
 have: ∃r,Di (l,m)=some r/\True:=by
  refine ak R8 (fun x=>zL zo x.1) (fun x=>zL zo x.1<=big) (fun _ _=>True) (fun S x hx hS=> ?_) (x:=(l,m)) h;obtain⟨l,m⟩:=x;have hx:zL zo l<=big:=hx;have hlen:=ZL qP l;unfold Oq;refine Vk (A:=Int) l.length (fun i a=>(a,(i:Int))) _ (a0:=0) rfl (fun i a hi=> ?_) (fun a=> ?_)
  ·have hm:=ZW (f:=zo) (Ga hi);have hz:=Qm l[i];have hlen2:=ZL Qw l[i].parts;cases ha:decide (a<=m)with
   |false=>simp only[zY hi,Da,Ca,ha];exact⟨_,rfl,_,rfl,trivial⟩
   |true=>
    simp only[zY hi,Da,ha,zS hi,za,Ba,zK hi (show l.length<=big by omega)];refine Vk (A:=Int) l[i].parts.length (fun i a=>(a,(i:Int))) _ rfl (fun j b hj=> ?_) (fun b=> ?_)
    ·have hm2:=ZW (f:=zT) (Ga hj);have hz2:=qA l[i].parts[j];have hlen3:=ZL Wi l[i].parts[j].simples;cases hb:decide (b<=m)with
     |false=>simp only[zY hj,Da,Ca,hb];exact⟨_,rfl,_,rfl,_,rfl⟩
     |true=>
      simp only[zY hj,Da,hb,zS hj,Ba,zK hj (show l[i].parts.length<=big by omega)];refine Vk (A:=Int) l[i].parts[j].simples.length (fun i a=>(a,(i:Int))) _ rfl (fun n c hn=> ?_) (fun c=> ?_)
      ·have hm3:=ZW (f:=Zd) (Ga hn);have hz3:=Qk l[i].parts[j].simples[n];cases hc:decide (c<=m)with
       |false=>simp only[zY hn,Da,Ca,hc];exact⟨_,rfl,_,rfl,_,rfl⟩
       |true=> obtain⟨r,hr,_⟩:=hS (l[i].parts[j].simples[n].list,w64 (m - c)) (by show zL zo l[i].parts[j].simples[n].list<=big;omega) (by show zL zo l[i].parts[j].simples[n].list<zL zo l;omega);simp only[zY hn,Da,hc,zS hn,Ba,hr,zK hn (show l[i].parts[j].simples.length<=big by omega)];exact⟨_,rfl,_,rfl⟩
      ·simp only[zV,Ca];exact⟨_,rfl,_,rfl,_,rfl⟩
    ·simp only[zV,Ca];exact⟨_,rfl,_,rfl,_,rfl⟩
  ·simp only[zV,Ca];exact⟨_,rfl,_,rfl,trivial⟩
 obtain⟨r,hr,_⟩:=this;exact⟨r,hr⟩
theorem nZ{l:List zg}(h:zL zo l<=big): ∃r,Nz l=some r:=by obtain⟨r,hr⟩:=zBz (m:=600) h;unfold Nz;rw[hr];exact⟨_,rfl⟩
theorem vv(l:List (List Str)):l.length<=zL (fun l:List Str=>[.sl (l.map fun y=>[.str y])]) l/\ ∀n∈l,n.length<=zL (fun l:List Str=>[.sl (l.map fun y=>[.str y])]) l/\ ∀s∈n,s.length<=zL (fun l:List Str=>[.sl (l.map fun y=>[.str y])]) l:=by
 have h1: ∀n:List Str,n.length<=zL (fun y:Str=>[.str y]) n:=ZL (fun y=>by simp[zI,bPV]);have h2: ∀n:List Str,zI [.sl (n.map fun y=>[.str y])]=1+zL (fun y:Str=>[.str y]) n:=SS;refine⟨ZL (fun v=>by rw[h2];omega) l,fun n hn=> ?_⟩;have hm:=ZW (f:=fun l:List Str=>[.sl (l.map fun y=>[.str y])]) hn;have h3:=h2 n;have h4:=h1 n;refine⟨by omega,fun s hs=> ?_⟩;have h5:=ZW (f:=fun y:Str=>[.str y]) hs;have h6:zI [PV.str s]=1+s.length\/zI [PV.str s]=s.length:=by simp only[zI,bPV];omega
 omega
theorem N9{l:List zC}{m:Int}(h:zL zD l<=big): ∃r,qH (l,m)=some r:=by
 have: ∃r,qH (l,m)=some r/\True:=by
  refine ak zpU (fun x=>zL zD x.1) (fun x=>zL zD x.1<=big) (fun _ _=>True) (fun S x hx hS=> ?_) (x:=(l,m)) h;obtain⟨l,m⟩:=x;have hx:zL zD l<=big:=hx;have hlen:=ZL vg l;unfold lq;refine wD ⟨_,rfl,trivial⟩ ?_
  ·refine Vk (A:=Unit) l.length (fun i _=>(i:Int)) _ (a0:=()) rfl (fun i a hi=> ?_) (fun a=> ?_)
   ·have hm:=ZW (f:=zD) (Ga hi);have hz:=Gh l[i];have hcp:=ax l[i].cond;obtain⟨hn1,hn2⟩:=vv l[i].names;obtain⟨q1,h1⟩:=nZ (l:=l[i].selectors) (by omega);obtain⟨q2,h2⟩:=mO (l:=l[i].decls) (by omega);obtain⟨q3,h3⟩:=mZ (c:=l[i].cond) (by omega);obtain⟨q4,h4,_⟩:=hS (l[i].rules,w64 (m - 1)) (by show zL zD l[i].rules<=big;omega) (by show zL zD l[i].rules<zL zD l;omega);simp only[zY hi,Da,zS hi,za,Ba,ZB,h1,h2,h3,h4,zM,zK hi (show l.length<=big by omega)];refine wD ⟨_,rfl,trivial⟩ ?_
    ·refine Vk (A:=Unit) l[i].names.length (fun i _=>(i:Int)) _ (a0:=()) rfl (fun j a hj=> ?_) (fun a=> ?_)
     ·simp only[zY hj,Da,zS hj,Ba,zK hj (show l[i].names.length<=big by omega)];cases decide ((l[i].names[j].length:Int)>20)with
      |true=>exact⟨_,rfl,trivial⟩
      |false=>exact⟨_,rfl,(),rfl⟩
     ·simp only[zV,Ca];exact⟨_,rfl,_,rfl,(),rfl⟩
   ·simp only[zV,Ca];exact⟨_,rfl,_,rfl,trivial⟩
 obtain⟨r,hr,_⟩:=this;exact⟨r,hr⟩
mutual
def numR:zC->Nat
 |⟨_,_,_,_,_,l⟩=>1+qo l
def qo:List zC->Nat
 |[]=>0
 |r::l=>numR r+qo l
end
theorem dK(r:zC):numR r=1+qo r.rules:=by obtain⟨⟩:=r;rw[numR]
theorem Gy(l:List zC):qo l=(l.map numR).sum:=by
 induction l with
 |nil=>rw[qo];rfl
 |cons c l ih=>rw[qo,ih];rfl
theorem Ox: ∀l:List zC,qo l<=zL zD l:=by
 have key: ∀(n:Nat) (l:List zC),zL zD l<n->qo l<=zL zD l:=by
  intro n
  induction n with
  |zero=>intro l h;omega
  |succ n ih=>
   intro l
   induction l with
   |nil=>intro _;rw[qo];exact Rb _
   |cons v l ihl=> intro h;rw[Qx]at h ⊢;rw[qo,dK];have hz:=Gh v;have h1:=ih v.rules (by omega);have h2:=ihl (by omega);omega
 exact fun l=>key _ l (Nat.lt_succ_self _)
theorem zI9(l:List zC):qo l=l.length+(l.map fun r=>qo r.rules).sum:=by
 induction l with
 |nil=>rw[qo];rfl
 |cons r l ih=>rw[qo,ih,dK,Sb,Ae,Pb];omega
theorem BC{l:List zC}(h:zL zD l<=big):qN l=some (qo l:Int):=by
 refine ZH (fun l=>zL zD l) (fun l=>zL zD l<=big) (fun l=>(qo l:Int)) (fun S l hl hS=> ?_) h;unfold gB;have hn:=Ox l;have hlen:=ZL vg l;rw[zI9]at hn ⊢;refine(Dm l (fun r=>qo r.rules) l.length big (by omega) (fun i a hi ha=> ?_) (fun a=> ?_)).trans rfl
 ·have hm:=ZW (f:=zD) (Ga hi);have hz:=Gh l[i];simp only[zY hi,Da,zS hi,za,Ba,zK hi (show l.length<=big by omega),hS l[i].rules (show zL zD l[i].rules<=big by omega) (show zL zD l[i].rules<zL zD l by omega),ol ha]
 ·simp only[zV,Ca]
theorem fO{l:List zC}(h:zL zD l<=big): ∃r,Iu l=some r:=by obtain⟨q,hq⟩:=N9 (m:=30) h;unfold Iu;simp only[hq,BC h,za,Ba,zM];exact⟨_,rfl⟩
theorem NF {α A S X R:Type} {step:S->Option (LO S X R)} {k:X->Option R} (l:List α) (f:A->α->A) (st:A->Nat->S) (out:A->X) {s0:S} {a0:A} (h0:s0=st a0 0)
  (hg: ∀(i:Nat) (a:A) (h:i<l.length),step (st a i)=some (.again (st (f a l[i]) (i+1))))
  (hf: ∀a:A,step (st a l.length)=some (.out (out a))):Zc step s0 k=k (out (l.foldl f a0)):=by
 have key: ∀(m:List α) (i:Nat) (a:A),l.drop i=m->i<=l.length-> ∃n,qz step n (st a i)=some (.out (out (m.foldl f a))):=by
  intro m
  induction m with
  |nil=>
   intro i a hd hi;have:i=l.length:=by have:=Cc.1 hd;omega
   subst this;exact⟨1,by simp only[qz,hf,List.foldl_nil]⟩
  |cons v m ih=>
   intro i a hd hi;have hlt:i<l.length:=by
    rcases Fe i l.length with h|h
    ·exact h
    ·rw[List.drop_eq_nil_of_le h]at hd;cases hd
   have hv:l[i]=v:=by have:=Xa hlt;rw[hd]at this;injection this with h1 _;exact h1.symm
   have hs:=hg i a hlt;rw[hv]at hs;obtain⟨n,hn⟩:=ih (i+1) (f a v) (by rw[Xa hlt]at hd;injection hd) (by omega);refine⟨n+1,?_⟩;simp only[qz,hs];rw[hn,Je]
 obtain⟨n,hn⟩:=key l 0 a0 rfl (by omega);rw[h0,Wh (Jh hn)];rfl
theorem Vx{α:Type}(p:α->Bool): ∀(l:List α) (b:Bool),l.foldl (fun b v=>b||p v) b=(b||l.any p)
 |[],b=>by simp
 |v::l,b=>by rw[Je,Vx p l,Xe,Bool.or_assoc]
def En(x:zx):Bool:=(x.kind==9||x.kind==10)&&(!x.of_&&(x.anb.a==0&&x.anb.b==1))
def innS(x:zx):Bool:=x.kind==3||(decide (9<=x.kind)&& !En x)
mutual
def selL:List zg->Nat
 |[]=>0
 |⟨_,parts,_⟩::r=>max (selP parts) (selL r)
def selP:List zy->Nat
 |[]=>0
 |⟨_,simples⟩::r=>max (selI simples) (selP r)
def selI:List zx->Nat
 |[]=>0
 |⟨k,n,o,v,f,a,w,list⟩::r=>max (bif innS ⟨k,n,o,v,f,a,w,list⟩then 1+selL list else 0) (selI r)
end
def oneI(x:zx):Nat:=bif innS x then 1+selL x.list else 0
theorem nT(l:List zx):selI l=mx oneI l:=by
 induction l with
 |nil=>rw[selI];rfl
 |cons x l ih=>obtain⟨⟩:=x;rw[selI,ih];rfl
theorem jT(l:List zy):selP l=mx (fun x=>selI x.simples) l:=by
 induction l with
 |nil=>rw[selP];rfl
 |cons x l ih=>obtain⟨⟩:=x;rw[selP,ih];rfl
theorem kT(l:List zg):selL l=mx (fun x=>selP x.parts) l:=by
 induction l with
 |nil=>rw[selL];rfl
 |cons x l ih=>obtain⟨⟩:=x;rw[selL,ih];rfl
mutual
theorem Xr: ∀l:List zg,selL l<=zL zo l
 |[]=>by rw[selL];exact Rb _
 |⟨a,parts,b⟩::r=>by rw[selL,Qx,Qm];have:=iT parts;have:=Xr r;show max (selP parts) (selL r)<=3+zL zT parts+b.length+_;omega
theorem iT: ∀l:List zy,selP l<=zL zT l
 |[]=>by rw[selP];exact Rb _
 |⟨a,simples⟩::r=>by rw[selP,Qx,qA];have:=lT simples;have:=iT r;show max (selI simples) (selP r)<=2+a.length+zL Zd simples+_;omega
theorem lT: ∀l:List zx,selI l<=zL Zd l
 |[]=>by rw[selI];exact Rb _
 |⟨a,b,c,d,e,f,g,list⟩::r=>by rw[selI,Qx,Qk];have:=Xr list;have:=lT r;show max (bif innS ⟨a,b,c,d,e,f,g,list⟩then 1+selL list else 0) (selI r)<=9+b.length+d.length+zL zo list+_;cases innS ⟨a,b,c,d,e,f,g,list⟩<;>simp only[Da,Ca]<;>omega
end
theorem VV(x:zx):(bif bif bif x.kind==9 then true else x.kind==10 then !x.of_ else false then x.anb.a==0&&(x.anb.b==1&&true)else false)=En x:=by unfold En;cases x.kind==9<;>cases x.kind==10<;>cases x.of_<;>cases x.anb.a==0<;>cases x.anb.b==1<;>rfl
theorem oZ(x:zx):JG x=some (En x):=congrArg some (VV x)
theorem zKW(x:zx):(bif x.kind==3 then true else bif decide (x.kind>=9)then !(bif bif bif x.kind==9 then true else x.kind==10 then !x.of_ else false then x.anb.a==0&&(x.anb.b==1&&true)else false)else false)=innS x:=by rw[VV];unfold innS;show(bif x.kind==3 then true else bif decide (9<=x.kind)then !En x else false)=_;cases x.kind==3<;>cases decide (9<=x.kind)<;>rfl
theorem zrR{l:List zg}(h:zL zo l<=big):qX l=some (selL l:Int):=by
 refine ZH (fun l=>zL zo l) (fun l=>zL zo l<=big) (fun l=>(selL l:Int)) (fun S l hl hS=> ?_) h;have hlen:=ZL qP l;unfold MC;refine(Jj l (fun x=>selP x.parts) (fun a i=>((a:Int),(i:Int))) (fun a=>(a:Int)) (a0:=0) rfl (fun i a hi=> ?_) (fun a=> ?_)).trans (by rw[kT,Nat.zero_max])
 ·have hm:=ZW (f:=zo) (Ga hi);have hz:=Qm l[i];have hlen2:=ZL Qw l[i].parts;simp only[zY hi,Da,zS hi,za,Ba,zK hi (show l.length<=big by omega)];refine(Jj l[i].parts (fun x=>selI x.simples) (fun a i=>((a:Int),(i:Int))) (fun a=>(a:Int)) (a0:=a) rfl (fun j b hj=> ?_) (fun a=> ?_)).trans (by rw[jT])
  ·have hm2:=ZW (f:=zT) (Ga hj);have hz2:=qA l[i].parts[j];have hlen3:=ZL Wi l[i].parts[j].simples;simp only[zY hj,Da,zS hj,Ba,zK hj (show l[i].parts.length<=big by omega)];refine(Jj l[i].parts[j].simples oneI (fun a i=>((a:Int),(i:Int))) (fun a=>(a:Int)) (a0:=b) rfl (fun n c hn=> ?_) (fun a=> ?_)).trans (by rw[nT])
   ·have hm3:=ZW (f:=Zd) (Ga hn);have hz3:=Qk l[i].parts[j].simples[n];have hle:=Xr l[i].parts[j].simples[n].list;simp only[zY hn,Da,zS hn,Ba,zK hn (show l[i].parts[j].simples.length<=big by omega)];have hs:=hS l[i].parts[j].simples[n].list (by show zL zo l[i].parts[j].simples[n].list<=big;omega) (by show zL zo l[i].parts[j].simples[n].list<zL zo l;omega);have hw:=Fj (n:=selL l[i].parts[j].simples[n].list) (by omega);simp only[zKW,hs,Ba,hw];have hone:oneI l[i].parts[j].simples[n]=bif innS l[i].parts[j].simples[n]then 1+selL l[i].parts[j].simples[n].list else 0:=rfl;rw[hone];cases innS l[i].parts[j].simples[n]with
    |true=>simp only[Da,zZ,Bh,zK hn (show l[i].parts[j].simples.length<=big by omega)];rw[Pd 1]
    |false=>simp only[Ca,zZ,Nat.max_zero,zK hn (show l[i].parts[j].simples.length<=big by omega)]
   ·simp only[zV,Ca]
  ·simp only[zV,Ca]
 ·simp only[zV,Ca]
theorem zrL{l:List zg}(h:zL zo l<=big):qV l=some (selL l:Int):=by
 refine ZH (fun l=>zL zo l) (fun l=>zL zo l<=big) (fun l=>(selL l:Int)) (fun S l hl hS=> ?_) h;have hlen:=ZL qP l;unfold OC;refine(Jj l (fun x=>selP x.parts) (fun a i=>((a:Int),(i:Int))) (fun a=>(a:Int)) (a0:=0) rfl (fun i a hi=> ?_) (fun a=> ?_)).trans (by rw[kT,Nat.zero_max])
 ·have hm:=ZW (f:=zo) (Ga hi);have hz:=Qm l[i];have hlen2:=ZL Qw l[i].parts;simp only[zY hi,Da,zS hi,za,Ba,zK hi (show l.length<=big by omega)];refine(Jj l[i].parts (fun x=>selI x.simples) (fun a i=>((a:Int),(i:Int))) (fun a=>(a:Int)) (a0:=a) rfl (fun j b hj=> ?_) (fun a=> ?_)).trans (by rw[jT])
  ·have hm2:=ZW (f:=zT) (Ga hj);have hz2:=qA l[i].parts[j];have hlen3:=ZL Wi l[i].parts[j].simples;simp only[zY hj,Da,zS hj,Ba,zK hj (show l[i].parts.length<=big by omega)];refine(Jj l[i].parts[j].simples oneI (fun a i=>((a:Int),(i:Int))) (fun a=>(a:Int)) (a0:=b) rfl (fun n c hn=> ?_) (fun a=> ?_)).trans (by rw[nT])
   ·have hm3:=ZW (f:=Zd) (Ga hn);have hz3:=Qk l[i].parts[j].simples[n];have hle:=Xr l[i].parts[j].simples[n].list;simp only[zY hn,Da,zS hn,Ba,zK hn (show l[i].parts[j].simples.length<=big by omega)];have hs:=hS l[i].parts[j].simples[n].list (by show zL zo l[i].parts[j].simples[n].list<=big;omega) (by show zL zo l[i].parts[j].simples[n].list<zL zo l;omega);have hw:=FL (n:=selL l[i].parts[j].simples[n].list) (by omega);have hinn:(bif l[i].parts[j].simples[n].kind==3 then true else bif decide ((bif !(l[i].parts[j].simples[n].kind==3)then l[i].parts[j].simples[n]else(default:zx)).kind>=9)then !(bif decide ((bif !(l[i].parts[j].simples[n].kind==3)then l[i].parts[j].simples[n]else(default:zx)).kind>=9)&& !(l[i].parts[j].simples[n].kind==3)then En (bif decide ((bif !(l[i].parts[j].simples[n].kind==3)then l[i].parts[j].simples[n]else(default:zx)).kind>=9)&& !(l[i].parts[j].simples[n].kind==3)then l[i].parts[j].simples[n]else(default:zx))else default)else false)=innS l[i].parts[j].simples[n]:=by
     unfold innS;cases hk:l[i].parts[j].simples[n].kind==3 with
     |true=>rfl
     |false=>
      simp only[Da,Ca,Ra,Yb,Nc];show(bif decide (9<=l[i].parts[j].simples[n].kind)then _ else _)=(decide (9<=l[i].parts[j].simples[n].kind)&&_);cases h9:decide (9<=l[i].parts[j].simples[n].kind)with
      |false=>rfl
      |true=> have h9':decide (l[i].parts[j].simples[n].kind>=9)=true:=h9;simp only[h9',Da,Ua]
    simp only[zM,Ba,Vt,oZ,hinn,hs,hw];have hone:oneI l[i].parts[j].simples[n]=bif innS l[i].parts[j].simples[n]then 1+selL l[i].parts[j].simples[n].list else 0:=rfl;rw[hone];cases innS l[i].parts[j].simples[n]with
    |true=>simp only[Da,zZ,Bh,zK hn (show l[i].parts[j].simples.length<=big by omega)];rw[Pd 1]
    |false=>simp only[Ca,zZ,Nat.max_zero,zK hn (show l[i].parts[j].simples.length<=big by omega)]
   ·simp only[zV,Ca]
  ·simp only[zV,Ca]
 ·simp only[zV,Ca]
mutual
def askB:zm->Bool
 |⟨k,_,_,_,l⟩=>(k==5||k==6)||jv l
def jv:List zm->Bool
 |[]=>false
 |c::r=>askB c||jv r
end
theorem Ms(c:zm):askB c=((c.kind==5||c.kind==6)||c.list.any askB):=by
 have: ∀l:List zm,jv l=l.any askB:=by
  intro l
  induction l with
  |nil=>rw[jv];rfl
  |cons c l ih=>rw[jv,ih];rfl
 obtain⟨k,n,m,d,l⟩:=c;rw[askB,this]
def bN(b:Bool):Int:=bif b then 1 else 0
theorem iZ{c:zm}(h:zI (zH c)<=big):Yj c=some (bN (askB c)):=by
 refine ZH (fun c=>zI (zH c)) (fun c=>zI (zH c)<=big) (fun c=>bN (askB c)) (fun S c hc hS=> ?_) h;have hlen:=qL c;have hj: ∀{R:Type} (k:Int->Option R),zO (X:=Int) (bif bif c.kind==5 then true else c.kind==6 then some (LX.out 1)else some (LX.out 0)) k=k (bN (c.kind==5||c.kind==6)):=by intro R k;cases c.kind==5<;>cases c.kind==6<;>rfl
 unfold xA;rw[hj];refine(NF c.list (fun b y=>b||askB y) (fun b i=>(bN b,(i:Int))) bN (a0:=(c.kind==5||c.kind==6)) rfl (fun i b hi=> ?_) (fun b=> ?_)).trans (by rw[Vx,<-Ms])
 ·have hm:=qK (Ga hi);simp only[zY hi,Da,zS hi,za,Ba,ZB,hS c.list[i] (show zI (zH c.list[i])<=big by omega) hm,zK hi (show c.list.length<=big by omega)];cases b<;>cases askB c.list[i]<;>rfl
 ·simp only[zV,Ca]
def unw(c:zm):zm:=match c.list with
 |[y]=>bif c.kind==3 then y else c
 |_=>c
def askR(c:zm):Bool:=c.list.any fun y=>(unw y).list.any fun z=>z.kind != 4
theorem zOc(c:zm)(R:Type)(a:Int)(k:Int×zm->Option R):zO (X:=Int×zm) (
       bif bif c.kind==3 then(c.list.length:Int)==1 else false then
        (geti c.list 0).bind fun y4=>
        some (LX.out (a,y4))
       else
        some (LX.out (a,c))) k=k (a,unw c):=by
 unfold unw;cases hl:c.list with
 |nil=>cases c.kind==3<;>rfl
 |cons y r=>
  cases r with
  |nil=>cases c.kind==3<;>rfl
  |cons z r=>rw[vK];cases c.kind==3<;>rfl
theorem zNj{c:zm}(h:zI (zH c)<=big):(unw c).list.length<=big:=by
 have:=qL c;unfold unw;split
 ·rename_i y hl;have:=qK (c:=c) (y:=y) (by rw[hl];exact ja);have:=qL y;cases c.kind==3<;>simp only[Da,Ca]<;>omega
 ·omega
theorem zJv{l:List zm}(hl:l.length<=big)(h: ∀c∈l,zI (zH c)<=big):Zc (fun(s2:Int×Int)=>
    bif decide (s2.2<(l.length:Int))then
     (geti l s2.2).bind fun y3=>
     zO (X:=Int×zm) (
       bif bif y3.kind==3 then(y3.list.length:Int)==1 else false then
        (geti y3.list 0).bind fun y4=>
        some (LX.out (s2.1,y4))
       else
        some (LX.out (s2.1,y3))) fun j5=>
     Zc (fun(s6:Int×Int)=>
       bif decide (s6.2<(j5.2.list.length:Int))then
        zO (X:=Int×Int) (
          (geti j5.2.list s6.2).bind fun y7=>
          bif y7.kind != 4 then
           some (LX.out (1,s6.2))
          else
           some (LX.out (s6.1,s6.2))) fun j8=>
        some (LO.again (j8.1,w64 (j8.2+1)))
       else
        some (LO.out s6.1):Int×Int->Option (LO (Int×Int) (Int) _)) (j5.1,0) fun o9=>
     some (LO.again (o9,w64 (s2.2+1)))
    else
     some (LO.out s2.1):Int×Int->Option (LO (Int×Int) (Int) _)) (0,0) (fun o10=>some o10)=some (bN (l.any fun y=>(unw y).list.any fun z=>z.kind != 4)):=by
 refine(NF l (fun b y=>b||(unw y).list.any fun z=>z.kind != 4) (fun b i=>(bN b,(i:Int))) bN (a0:=false) rfl (fun i b hi=> ?_) (fun b=> ?_)).trans (by rw[Vx,Nc])
 ·have hb:=h _ (Ga hi);have hul:=zNj hb;simp only[zY hi,Da,zS hi,Ba,zK hi hl];rw[zOc];refine(NF (unw l[i]).list (fun b (z:zm)=>b||z.kind != 4) (fun b i=>(bN b,(i:Int))) bN (a0:=b) rfl (fun j d hj=> ?_) (fun b=> ?_)).trans (by rw[Vx])
  ·simp only[zY hj,Da,zS hj,Ba];cases (unw l[i]).list[j].kind != 4 with
   |true=>simp only[Da,zZ,zK hj hul,Bool.or_true];rfl
   |false=>simp only[Ca,zZ,zK hj hul,Yc]
  ·simp only[zV,Ca]
 ·simp only[zV,Ca]
theorem bF{α:Type}{p q:α->Bool}: ∀{l:List α},(∀v∈l,p v=q v)->l.any p=l.any q
 |[],_=>rfl
 |x::l,h=>by rw[Xe,Xe,h x ja,bF fun v hv=>h v (Eb _ hv)]
theorem zK2{b:Bool}{y:zm}(h:yg b y=true):askB y=(y.kind != 4):=by
 unfold yg at h;rw[Fa]at h;have hl:y.list=[]:=Vd.1 h.1;rw[Ms,hl,List.any_nil,Yc,bne];have h2:=h.2;rw[Fa]at h2;have h3:=h2.2;simp only[Ud,Fa,Bc]at h3;rcases h3 with⟨_,h4,_⟩|⟨h5|h6,_⟩
 ·rw[h4];rfl
 ·rw[h5];rfl
 ·rw[h6];rfl
theorem zG8{l:List zm}(h:Fs l=true): ∀y∈l,askB y=(y.kind != 4):=by intro y hy;obtain⟨i,hi,rfl⟩:=List.mem_iff_getElem.1 hy;unfold Fs at h;have:=Nb.1 h i (by simpa using hi);simp only[Fg,Ma hi,Option.getD_some]at this;exact zK2 this
theorem sV{c:zm}(h:oh c=true):askB c=c.list.any fun z=>z.kind != 4:=by unfold oh at h;simp only[Fa,Bc]at h;rw[Ms,h.1];show((false||false)||_)=_;rw[Ef,Nc];exact bF (zG8 h.2.2.2)
theorem zKg{c:zm}(h:Ug c=true):askB c=(unw c).list.any fun z=>z.kind != 4:=by
 unfold Ug at h;unfold unw;cases h3:c.kind==3 with
 |false=>
  rw[h3,Ca]at h;have:=sV h;split
  ·rw[Ca];exact this
  ·exact this
 |true=>
  rw[h3,Da,Fa]at h;have h2:=h.2;split at h2
  ·rename_i y hl;simp only[hl,Da];rw[Fa]at h2;rw[Ms,Bc.1 h3,hl,Xe,List.any_nil,Yc,sV h2.1];rfl
  ·cases h2
theorem zHd{c:zm}(h:Cj c=true):askB c=askR c:=by
 unfold Cj at h;rw[Fa,Ud,Fa,Fa,Fa,Fa,Bc,Bc]at h;unfold askR;rw[Ms];rcases h.2 with⟨h1,h2⟩|⟨h1,h2⟩
 ·rw[h1,Vd.1 h2];rfl
 ·rw[h1];show((false||false)||_)=_;rw[Ef,Nc];exact bF fun y hy=>zKg (Nb.1 h2.2.2 y hy)
def Cr(r:zC):Bool:=r.selectors.isEmpty&&r.decls.isEmpty
def Er(r:zC):Bool:=
 bif r.kind==1 then(selS r.selectors==0)&&(decide (r.decls.length<=32)&&(uf r.cond&&(r.names.isEmpty&&(r.rules.isEmpty&&r.decls.all Ye))))
 else bif r.kind==2 then Cr r&&(r.names.isEmpty&&Cj r.cond)
 else bif r.kind==3 then Cr r&&(r.names.isEmpty&&Xk r.cond)
 else bif r.kind==4 then Cr r&&(decide (r.names.length<=1)&&uf r.cond)
 else bif r.kind==5 then Cr r&&(!r.names.isEmpty&&(decide (r.names.length<=64)&&(r.rules.isEmpty&&uf r.cond)))
 else false
mutual
def qj:zC->Bool
 |⟨k,s,d,c,n,l⟩=>Er ⟨k,s,d,c,n,l⟩&&(n.all rf&&Vr l)
def Vr:List zC->Bool
 |[]=>true
 |r::l=>qj r&&Vr l
end
theorem zFv(l:List zC):Vr l=l.all qj:=by
 induction l with
 |nil=>rw[Vr];rfl
 |cons c l ih=>rw[Vr,ih];rfl
theorem uE(r:zC):qj r=(Er r&&(r.names.all rf&&r.rules.all qj)):=by obtain⟨k,s,d,c,n,l⟩:=r;rw[qj,zFv]
def Dk(r:zC):Nat:=bif r.kind==3 then Af r.cond else bif r.kind==2 then(bif askB r.cond then 1 else 0)else 0
mutual
def Ve:zC->Nat
 |⟨k,s,d,c,n,l⟩=>bif k==5 then 0 else max (1+max (Yw l) (mx (fun d=>Q0 d.value) d)) (max (selL s) (Dk ⟨k,s,d,c,n,l⟩))
def Yw:List zC->Nat
 |[]=>0
 |r::l=>max (Ve r) (Yw l)
end
theorem zIe(l:List zC):Yw l=mx Ve l:=by
 induction l with
 |nil=>rw[Yw];rfl
 |cons c l ih=>rw[Yw,ih];rfl
theorem KL(r:zC):Ve r=bif r.kind==5 then 0 else max (1+max (mx Ve r.rules) (mx (fun d=>Q0 d.value) r.decls)) (max (selL r.selectors) (Dk r)):=by obtain⟨k,s,d,c,n,l⟩:=r;rw[Ve,zIe]
theorem mx_z{α:Type}{f:α->Nat}{g:α->List PV}: ∀{l:List α},(∀v∈l,f v<=zI (g v))->mx f l<=zL g l
 |[],_=>Rb _
 |v::l,h=>by rw[mx,Qx];have:=h v ja;have:=mx_z (l:=l) (f:=f) (g:=g) fun w hw=>h w (Eb _ hw);omega
theorem rF(l:List Za):mx (fun d=>Q0 d.value) l<=zL ZC l:=
 mx_z fun d _=>by have:=Rj d.value;have:=Rh d.value;have:=Qq d;omega
theorem zKv(r:zC):Dk r<=1+zI (zH r.cond):=by have:=lw r.cond;unfold Dk;cases r.kind==3<;>cases r.kind==2<;>cases askB r.cond<;>simp only[Da,Ca]<;>omega
theorem Yx{r y:zC}(h:y∈r.rules):zI (zD y)<zI (zD r):=by have hz:=Gh r;have:=ZW (f:=zD) h;omega
theorem zKD: ∀r:zC,Ve r<=zI (zD r):=by
 have key: ∀(n:Nat) (r:zC),zI (zD r)<n->Ve r<=zI (zD r):=by
  intro n
  induction n with
  |zero=>intro c h;omega
  |succ n ih=> intro r h;have hz:=Gh r;have h1:mx Ve r.rules<=zL zD r.rules:=mx_z fun y hy=>ih y (by have:=Yx hy;omega);have h2:=rF r.decls;have h3:=Xr r.selectors;have h4:=zKv r;rw[KL];cases r.kind==5<;>simp only[Da,Ca]<;>omega
 exact fun c=>key _ c (Nat.lt_succ_self _)
theorem IM(l:List zC):mx Ve l<=zL zD l:=mx_z fun y _=>zKD y
theorem yh(r:zC):(⟨r.kind,r.selectors,r.decls,r.cond,r.names,r.rules⟩:zC)=r:=by cases r;rfl
theorem bD {α R:Type} {step:Int->Option (LO Int Unit R)} {k:Unit->Option R} (l:List α) (p:α->Bool) (r:R)
  (hg: ∀(i:Nat) (h:i<l.length),step (i:Int)=some (bif p l[i]then .again ((i+1:Nat):Int)else .ret r))
  (hf:step (l.length:Int)=some (.out ())):Zc step 0 k=bif l.all p then k ()else some r:=by
 refine(Z9 l (fun v=>bif p v then none else some r) () (fun i hi=> ?_) hf).trans ?_
 ·rw[hg i hi];cases p l[i]<;>rfl
 ·rw[Pg];cases l.all p<;>rfl
theorem wT{α:Type}(l:List α):decide ((l.length:Int)>0)= !l.isEmpty:=Sk l
theorem yS{α:Type}(l:List α):decide ((l.length:Int)>1)= !decide (l.length<=1):=Jf _ 1
theorem R7{r:zC}(h:zI (zD r)<=big):Q9 r=some (qj r):=by
 refine ZH (fun r=>zI (zD r)) (fun r=>zI (zD r)<=big) (fun r=>qj r) (fun S r hr hS=> ?_) h;have hz:=Gh r;have hcp:=ax r.cond;have hlr:=ZL vg r.rules;have hld:=ZL Xh r.decls;obtain⟨hn1,hn2⟩:=vv r.names;have e32:decide ((r.decls.length:Int)>32)= !decide (r.decls.length<=32):=Jf _ 32;have e64:decide ((r.names.length:Int)>64)= !decide (r.names.length<=64):=Jf _ 64;unfold fB;have hrules: ∀R:Type,∀f:R,Zc (fun(s16:Int)=>
   bif decide (s16<(r.rules.length:Int))then
    (geti r.rules s16).bind fun y17=>
    (S y17).bind fun y18=>
    bif !y18 then
     some (LO.ret false)
    else
     some (LO.again (w64 (s16+1)))
   else
    some (LO.out ()):Int->Option (LO (Int) (Unit) _)) 0 (fun _=>some true)=some (r.rules.all qj):=by
  intro R f;refine(bD r.rules qj false (fun i hi=> ?_) ?_).trans ?_
  ·have hm:=Yx (Ga hi);simp only[zY hi,Da,zS hi,Ba,hS r.rules[i] (show zI (zD r.rules[i])<=big by omega) hm,zK hi (show r.rules.length<=big by omega)];cases qj r.rules[i]<;>rfl
  ·simp only[zV,Ca]
  ·cases r.rules.all qj<;>rfl
 have hnames: ∀b:Bool,Zc (fun(s12:Int)=>
   bif decide (s12<(r.names.length:Int))then
    (geti r.names s12).bind fun y13=>
    (Kq y13).bind fun y14=>
    bif !y14 then
     some (LO.ret false)
    else
     some (LO.again (w64 (s12+1)))
   else
    some (LO.out ()):Int->Option (LO (Int) (Unit) _)) 0 (fun _=>some b)=some (r.names.all rf&&b):=by
  intro b;refine(bD r.names rf false (fun i hi=> ?_) ?_).trans ?_
  ·obtain⟨g1,g2⟩:=hn2 _ (Ga hi);have hp:Kq r.names[i]=some (rf r.names[i]):=bM (by omega) (fun v hv=>by have:=g2 v hv;omega);simp only[zY hi,Da,zS hi,Ba,hp,zK hi (show r.names.length<=big by omega)];cases rf r.names[i]<;>rfl
  ·simp only[zV,Ca]
  ·cases r.names.all rf<;>rfl
 simp only[za,yh,ZB,hrules Unit (),hnames,DZ (show zL zo r.selectors<=big by omega),jW,V7 (show zI (zH r.cond)<=big by omega),zpd (show zI (zH r.cond)<=big by omega),
  zM,Ba,ZJ,wT,yS,Tu,e32,e64,bne]
 rw[uE];unfold Er Cr;by_cases k1:r.kind=1
 ·simp only[k1,Int.reduceBEq,Da];have hdecl:Zc (fun(s3:Int)=>
       bif decide (s3<(r.decls.length:Int))then
        (geti r.decls s3).bind fun y4=>
        (Om y4).bind fun y5=>
        bif !(y5==0)then
         some (LO.ret (LX.ret false))
        else
         some (LO.again (w64 (s3+1)))
       else
        some (LO.out ()):Int->Option (LO (Int) (Unit) (LX Unit Bool))) 0 (fun _=>some (LX.ret true))=some (LX.ret (r.decls.all Ye)):=by
   refine(bD r.decls Ye (LX.ret false) (fun i hi=> ?_) ?_).trans ?_
   ·have hm:=ZW (f:=ZC) (Ga hi);simp only[zY hi,Da,zS hi,Ba,oP (show zI (ZC r.decls[i])<=big by omega),zK hi (show r.decls.length<=big by omega)];cases Ye r.decls[i]<;>rfl
   ·simp only[zV,Ca]
   ·cases r.decls.all Ye<;>rfl
  rw[hdecl];cases selS r.selectors==0 with
  |false=>rfl
  |true=>
   cases decide (r.decls.length<=32)with
   |false=>rfl
   |true=>
    cases uf r.cond with
    |false=>rfl
    |true=>
     cases hn:r.names with
     |cons a l=>rfl
     |nil=>
      cases hl:r.rules with
      |cons a l=>rfl
      |nil=> simp only[List.isEmpty_nil,List.all_nil,Yb,Ua,Va,Ra,Da,Ca];cases r.decls.all Ye<;>rfl
 have b1:=Ea.2 k1;simp only[b1,Ca];clear hrules hnames;by_cases k2:r.kind=2
 ·simp only[k2,Int.reduceBEq,Da];cases r.selectors.isEmpty<;>cases r.decls.isEmpty<;>cases r.names.isEmpty<;>cases Cj r.cond<;>rfl
 have b2:=Ea.2 k2;simp only[b2,Ca];by_cases k3:r.kind=3
 ·simp only[k3,Int.reduceBEq,Da];cases r.selectors.isEmpty<;>cases r.decls.isEmpty<;>cases r.names.isEmpty<;>cases Xk r.cond<;>rfl
 have b3:=Ea.2 k3;simp only[b3,Ca];by_cases k4:r.kind=4
 ·simp only[k4,Int.reduceBEq,Da];cases r.selectors.isEmpty<;>cases r.decls.isEmpty<;>cases decide (r.names.length<=1)<;>cases uf r.cond<;>rfl
 have b4:=Ea.2 k4;simp only[b4,Ca];by_cases k5:r.kind=5
 ·simp only[k5,Int.reduceBEq,Da];cases r.selectors.isEmpty<;>cases r.decls.isEmpty<;>cases r.names.isEmpty<;>cases decide (r.names.length<=64)<;>cases r.rules.isEmpty<;>cases uf r.cond<;>rfl
 have b5:=Ea.2 k5;simp only[b5,Ca];rfl
theorem CW{c:zm}(h:uf c=true):c.list=[]:=by unfold uf at h;rw[Fa,Fa]at h;exact Vd.1 h.2.1
theorem J5{r:zC}(h:zI (zD r)<=big)(hs:Er r=true)(h5:(r.kind==5)=false):DD r=some (Dk r:Int):=by
 have hz:=Gh r;have hb:zI (zH r.cond)<=big:=by omega
 have hlen:=qL r.cond;unfold DD Dk;cases h3:r.kind==3 with
 |true=>simp only[Da,ZB,aN hb,za,Ba]
 |false=>
  have:=zJv (l:=r.cond.list) (by omega) (fun y hy=>by have:=qK hy;omega);simp only[Ca,za,ZB];refine Eq.trans this ?_;have hr:(r.cond.list.any fun y=>(unw y).list.any fun z=>z.kind != 4)=(bif r.kind==2 then askB r.cond else false):=by
   unfold Er at hs;rw[h3,h5]at hs;by_cases k1:r.kind=1
   ·rw[k1]at hs ⊢;simp only[Int.reduceBEq,Da,Fa]at hs;rw[CW hs.2.2.1];rfl
   have b1:=Ea.2 k1;rw[b1]at hs;cases h2:r.kind==2 with
   |true=> rw[h2]at hs;simp only[Da,Ca,Fa]at hs;rw[Da,zHd hs.2.2];rfl
   |false=>
    rw[h2]at hs;cases h4:r.kind==4 with
    |true=> rw[h4]at hs;simp only[Da,Ca,Fa]at hs;rw[CW hs.2.2];rfl
    |false=> rw[h4]at hs;cases hs
  rw[hr];cases r.kind==2 with
  |true=>cases askB r.cond<;>rfl
  |false=>rfl
theorem zBB{l:List zC}(h:zL zD l<=big)(hs:l.all qj=true):Wj l=some (mx Ve l:Int):=by
 refine ZH (fun l=>zL zD l) (fun l=>zL zD l<=big/\l.all qj=true) (fun l=>(mx Ve l:Int)) (fun S l hl hS=> ?_) ⟨h,hs⟩;obtain⟨hl,hs⟩:=hl;have hlen:=ZL vg l;unfold cz;refine(Jj l Ve (fun a i=>((a:Int),(i:Int))) (fun a=>(a:Int)) (a0:=0) rfl (fun i a hi=> ?_) (fun a=> ?_)).trans (by rw[Nat.zero_max])
 ·have hm:=ZW (f:=zD) (Ga hi);have hz:=Gh l[i];have hld:=ZL Xh l[i].decls;have hsh:=Nb.1 hs _ (Ga hi);have hd:=KL l[i];rw[uE,Fa,Fa]at hsh;simp only[zY hi,Da,zS hi,za,Ba];cases h5:l[i].kind==5 with
  |true=> rw[h5,Da]at hd;simp only[Da,zZ,zK hi (show l.length<=big by omega),hd,Nat.max_zero]
  |false=>
   rw[h5,Ca]at hd;have hrd:=IM l[i].rules;have hdd:=rF l[i].decls;rw[hS l[i].rules ⟨show zL zD l[i].rules<=big by omega,hsh.2.2⟩ (show zL zD l[i].rules<zL zD l by omega)];simp only[Ca,Ba];have hdecl: ∀(R:Type) (k:Int->Option R),Zc (fun(s5:Int×Int)=>
         bif decide (s5.2<(l[i].decls.length:Int))then
          (geti l[i].decls s5.2).bind fun y8=>
          (Qg y8.value).bind fun y9=>
          some (LO.again (if y9>s5.1 then y9 else s5.1,w64 (s5.2+1)))
         else
          some (LO.out s5.1):Int×Int->Option (LO (Int×Int) (Int) _)) ((mx Ve l[i].rules:Int),0) k=k ((max (mx Ve l[i].rules) (mx (fun d=>Q0 d.value) l[i].decls):Nat):Int):=by
    intro R k;refine Jj l[i].decls (fun d=>Q0 d.value) (fun a i=>((a:Int),(i:Int))) (fun a=>(a:Int)) (a0:=mx Ve l[i].rules) rfl (fun j b hj=> ?_) (fun b=> ?_)
    ·have hm2:=ZW (f:=ZC) (Ga hj);have hz2:=Qq l[i].decls[j];have hv:=Rh l[i].decls[j].value;simp only[zY hj,Da,zS hj,Ba,Gx (show szL l[i].decls[j].value<=big by omega),zK hj (show l[i].decls.length<=big by omega),Bh]
    ·simp only[zV,Ca]
   rw[hdecl];have hw:w64 (1+((max (mx Ve l[i].rules) (mx (fun d=>Q0 d.value) l[i].decls):Nat):Int))=((1+max (mx Ve l[i].rules) (mx (fun d=>Q0 d.value) l[i].decls):Nat):Int):=by rw[FL (by omega),Pd]
   simp only[ZB,yh,zrL (show zL zo l[i].selectors<=big by omega),J5 (show zI (zD l[i])<=big by omega) hsh.1 h5,Ba,zZ,hw,Bh,zK hi (show l.length<=big by omega)];rw[hd];have:max (max (max a (1+max (mx Ve l[i].rules) (mx (fun d=>Q0 d.value) l[i].decls))) (selL l[i].selectors)) (Dk l[i])=max a (max (1+max (mx Ve l[i].rules) (mx (fun d=>Q0 d.value) l[i].decls)) (max (selL l[i].selectors) (Dk l[i]))):=by omega
   rw[this]
 ·simp only[zV,Ca]
def Rf(l:List zC):Bool:=decide (qo l<=64)&&(l.all qj&&decide (mx Ve l<=16))
theorem kZ{l:List zC}(h:zL zD l<=big):Hz l=some (Rf l):=by
 have hlen:=ZL vg l;have e64:decide ((qo l:Int)>64)= !decide (qo l<=64):=Jf _ 64;unfold Hz Rf;simp only[BC h,za,Ba,e64];cases decide (qo l<=64)with
 |false=>rfl
 |true=>
  simp only[Va,Ca,Ua];refine(bD l qj false (fun i hi=> ?_) ?_).trans ?_
  ·have hm:=ZW (f:=zD) (Ga hi);simp only[zY hi,Da,zS hi,Ba,ZB,yh,R7 (show zI (zD l[i])<=big by omega),zK hi (show l.length<=big by omega)];cases qj l[i]<;>rfl
  ·simp only[zV,Ca]
  ·cases hs:l.all qj with
   |false=>rfl
   |true=> have e16:decide ((mx Ve l:Int)<=16)=decide (mx Ve l<=16):=ym _ 16;simp only[Da,zBB h hs,Ba,e16,Ua]
theorem UH{s:ZN}(h:zL zD s.rules<=big):Bq s=some (bif Rf s.rules then 0 else 8):=by unfold Bq;simp only[kZ h,za,Ba];cases Rf s.rules<;>rfl
theorem zK7 {A S X R:Type} {step:S->Option (LO S X R)} (n:Nat) (st:Nat->A->S) (Inv:Nat->A->Prop) (Q:X->Prop) {s0:S} {a0:A} (h0:s0=st 0 a0) (hI:Inv 0 a0)
  (hg: ∀(i:Nat) (a:A),i<n->Inv i a-> ∃a',step (st i a)=some (.again (st (i+1) a'))/\Inv (i+1) a')
  (hf: ∀a,Inv n a-> ∃x,step (st n a)=some (.out x)/\Q x): ∃x,xg step s0=some (.out x)/\Q x:=by
 have key: ∀(m i:Nat) (a:A),i+m=n->Inv i a-> ∃j x,qz step j (st i a)=some (.out x)/\Q x:=by
  intro m
  induction m with
  |zero=>
   intro i a hi ha;obtain rfl:i=n:=by omega
   obtain⟨x,h1,h2⟩:=hf a ha;exact⟨1,x,by simp only[qz,h1],h2⟩
  |succ m ih=> intro i a hi ha;obtain⟨a',h1,h2⟩:=hg i a (by omega) ha;obtain⟨j,x,g1,g2⟩:=ih (i+1) a' (by omega) h2;exact⟨j+1,x,by simp only[qz,h1];exact g1,g2⟩
 obtain⟨j,x,h1,h2⟩:=key n 0 a0 (by omega) hI;exact⟨x,by rw[h0];exact Jh h1,h2⟩
theorem zGV{R:Type}{l:List Za}(h:zL ZC l<=big)(b0:Bool)(f0:zq):
  ∃x:Bool×zq,xg (fun(s8:(Bool×Int)×zq)=>
         bif decide (s8.1.2<(l.length:Int))then
          (geti l s8.1.2).bind fun y9=>
          (jk y9.value).bind fun y10=>
          (zA (!(bif s8.1.1 then true else !(y10.2==0))) (nk y9) (default:Int)).bind fun y11=>
          some (LO.again ((bif bif s8.1.1 then true else !(y10.2==0)then true else !(y11==0),w64 (s8.1.2+1)),(⟨s8.2.rules,if y10.1>s8.2.depth then y10.1 else s8.2.depth,s8.2.bad⟩:zq)))
         else
          some (LO.out (s8.1.1,s8.2)):(Bool×Int)×zq->Option (LO ((Bool×Int)×zq) (Bool×zq) R)) ((b0,0),f0)=some (.out x)/\
   x.1=(b0|| !l.all Ye)/\x.2.rules=f0.rules/\ ∀n:Nat,f0.depth=(n:Int)->l.all Ye=true->x.2.depth=((max n (mx (fun d=>Q0 d.value) l):Nat):Int):=by
 have hlen:=ZL Xh l;refine zK7 (A:=Bool×zq) l.length (fun i a=>((a.1,(i:Int)),a.2)) (fun i a=>a.1=(b0|| !(l.take i).all Ye)/\a.2.rules=f0.rules/\ ∀n:Nat,f0.depth=(n:Int)->(l.take i).all Ye=true->a.2.depth=((max n (mx (fun d=>Q0 d.value) (l.take i)):Nat):Int)) _ (a0:=(b0,f0)) rfl
  ⟨by simp,rfl,fun n hn _=>by simp[mx,hn]⟩ (fun i a hi hI=> ?_) (fun a hI=> ?_)
 ·obtain⟨i1,i2,i3⟩:=hI;have hm:=ZW (f:=ZC) (Ga hi);have hz:=Qq l[i];have hv:=Rh l[i].value;have hde:Ye l[i]=(Ye l[i]&&(errS l[i].value==0)):=by unfold Ye;cases Lh l[i].name<;>cases errS l[i].value==0<;>simp
  simp only[zY hi,Da,zS hi,Ba,gF (show szL l[i].value<=big by omega),yO (show zI (ZC l[i])<=big by omega),zM,zK hi (show l.length<=big by omega)];refine⟨(_,_),rfl,?_,i2,fun n hn hall=> ?_⟩
  ·rw[Ep Ye hi,i1];simp only;by_cases he:errS l[i].value=0
   ·rw[aa he];cases b0<;>cases (l.take i).all Ye<;>cases Ye l[i]<;>rfl
   ·rw[Ab he];have he':=Ea.2 he;rw[he',Ac]at hde;simp only[he',hde];cases b0<;>cases (l.take i).all Ye<;>rfl
  ·rw[Ep Ye hi,Fa]at hall;have hd:=i3 n hn hall.1;rw[hall.2,Ua]at hde;have he:errS l[i].value=0:=by rw[<-Bc,<-hde]
   rw[Js _ hi];simp only[aa he,hd,Bh];rw[Nat.max_assoc]
 ·rw[Lf]at hI;exact⟨(a.1,a.2),by simp only[zV,Ca],hI⟩
theorem zKC {R:Type} {l:List Za} (h:zL ZC l<=big) {b0:Bool} {f0:zq} {k:Bool×zq->Option R} (G:Option R->Prop)
  (hk: ∀x:Bool×zq,x.1=(b0|| !l.all Ye)->x.2.rules=f0.rules->(∀n:Nat,f0.depth=(n:Int)->l.all Ye=true->x.2.depth=((max n (mx (fun d=>Q0 d.value) l):Nat):Int))->G (k x)):
  G (Zc (fun(s8:(Bool×Int)×zq)=>
         bif decide (s8.1.2<(l.length:Int))then
          (geti l s8.1.2).bind fun y9=>
          (jk y9.value).bind fun y10=>
          (zA (!(bif s8.1.1 then true else !(y10.2==0))) (nk y9) (default:Int)).bind fun y11=>
          some (LO.again ((bif bif s8.1.1 then true else !(y10.2==0)then true else !(y11==0),w64 (s8.1.2+1)),(⟨s8.2.rules,if y10.1>s8.2.depth then y10.1 else s8.2.depth,s8.2.bad⟩:zq)))
         else
          some (LO.out (s8.1.1,s8.2)):(Bool×Int)×zq->Option (LO ((Bool×Int)×zq) (Bool×zq) R)) ((b0,0),f0) k):=by
 obtain⟨x,hx,h1,h2,h3⟩:=zGV (R:=R) h b0 f0;rw[fV hx];exact hk x h1 h2 h3
theorem zKX{X R:Type}{m:Option (LX X R)}{k:X->Option R}(G:Option R->Prop)(P:X->Prop)(h: ∃o,m=some (.out o)/\P o)(hk: ∀o,P o->G (k o)):G (zO m k):=by obtain⟨o,rfl,ho⟩:=h;exact hk o ho
theorem zLw(a b:Nat)(h:a+b<=big):decide (w64 ((a:Int)+(b:Int))>0)= !(decide (a=0)&&decide (b=0)):=by
 rw[ol h];cases a with
 |zero=>cases b with
  |zero=>rfl
  |succ b=>exact Ha (by omega)
 |succ a=> rw[Ha (by omega),Oa (show¬(a+1=0) by omega)];rfl
theorem DW{α β:Type}(l:List α)(m:List β)(h:l.length+m.length<=big):decide (w64 ((l.length:Int)+(m.length:Int))>0)= !(l.isEmpty&&m.isEmpty):=by rw[zLw _ _ h];cases l<;>cases m<;>simp
theorem zHf{l:List (List Str)}(hl:l.length<=big)(h: ∀n∈l,n.length<=big):qQ l=some (!l.all rf):=by
 unfold qQ EJ;refine Oj (Kj l (fun c=> !rf c) hl (fun i hi=> ?_) ?_) ((Ki _ _).trans (uo _ _))
 ·have:Xz l[i]=some (!rf l[i]):=by unfold Xz;simp only[UM (h _ (Ga hi)),za,Ba]
  simp only[zY hi,Da,zS hi,za,Ba,this]
 ·simp only[zV,Ca]
def PT(l:List zC)(y:zq):Prop:=y.rules=(qo l:Int)/\y.bad= !(l.all qj)/\(l.all qj=true->y.depth=(mx Ve l:Int))
theorem zHg{l:List zC}{i:Nat}(hi:i<l.length):qo (l.take (i+1))=qo (l.take i)+numR l[i]:=by rw[Gy,Gy,Yk numR hi]
theorem zA0(l:List zC)(i:Nat):qo (l.take i)<=qo l:=by rw[Gy,Gy];exact Eu numR l i
theorem gZ{l:List zC}(h:zL zD l<=big): ∃y,Pi l=some y/\PT l y:=by
 refine ak N8 (fun l=>zL zD l) (fun l=>zL zD l<=big) PT (fun S l hl hS=> ?_) h;have hlen:=ZL vg l;have hnl:=Ox l;unfold Jq;refine Bt (A:=zq) l.length (fun i a=>((i:Int),a)) (fun i a=>a.rules=(qo (l.take i):Int)/\a.bad= !((l.take i).all qj)/\((l.take i).all qj=true->a.depth=(mx Ve (l.take i):Int))) _ (a0:=⟨0,0,false⟩) rfl
  ⟨by simp[qo],by simp,fun _=>by simp[mx]⟩ (fun i a hi hI=> .inl ?_) (fun a hI=> .inl ?_)
 ·obtain⟨i1,i2,i3⟩:=hI;have hm:=ZW (f:=zD) (Ga hi);have ht:=zHg hi;have ht2:=zA0 l (i+1);have hnr:=dK l[i];have hz:=Gh l[i];have hcp:=ax l[i].cond;have hls:=ZL qP l[i].selectors;have hld:=ZL Xh l[i].decls;have hlr:=ZL vg l[i].rules;have hrd:=IM l[i].rules;obtain⟨hn1,hn2⟩:=vv l[i].names;obtain⟨f,hf1,hf2,hf3,hf4⟩:=hS l[i].rules (by omega) (by omega);have hnames:=zHf (l:=l[i].names) (by omega) (fun n hn=>by have:=(hn2 n hn).1;omega);obtain⟨told,htold1,htold2⟩:=EM (c:=l[i].cond) (by omega);have e32:decide ((l[i].decls.length:Int)>32)= !decide (l[i].decls.length<=32):=Jf _ 32;have e64:decide ((l[i].names.length:Int)>64)= !decide (l[i].names.length<=64):=Jf _ 64;have hsh:=uE l[i];have hde:=KL l[i];have hw1:w64 (f.rules+1)=((numR l[i]:Nat):Int):=by rw[hf2,hnr,Fj (by omega),Pd]
  have hw2:w64 (a.rules+((numR l[i]:Nat):Int))=((qo (l.take (i+1)):Nat):Int):=by rw[i1,ol (by omega),ht]
  -- what is to be shown of a round
  have fin: ∀(o:(Int×Bool)×zq×zq),o.2.1=⟨((qo (l.take (i+1)):Nat):Int),a.depth,a.bad⟩->o.1.2= !(qj l[i])->(qj l[i]=true-> ∃e n:Nat,o.1.1=(e:Int)/\w64 (o.2.2.depth+1)=(n:Int)/\max n e=Ve l[i])->
    ∃a':zq,(some (LO.again (w64 ((i:Int)+1),(⟨o.2.1.rules,if o.1.1>(if w64 (o.2.2.depth+1)>o.2.1.depth then w64 (o.2.2.depth+1)else o.2.1.depth)then o.1.1 else if w64 (o.2.2.depth+1)>o.2.1.depth then w64 (o.2.2.depth+1)else o.2.1.depth,bif o.2.1.bad then true else o.1.2⟩:zq))):Option (LO (Int×zq) zq zq))=some (.again (((i+1:Nat):Int),a'))/\
     (a'.rules=(qo (l.take (i+1)):Int)/\a'.bad= !((l.take (i+1)).all qj)/\((l.take (i+1)).all qj=true->a'.depth=(mx Ve (l.take (i+1)):Int))):=by
   intro o ho1 ho2 ho3;rw[zK hi (show l.length<=big by omega)];refine⟨_,rfl,?_,?_,fun hall=> ?_⟩
   ·simp only[ho1]
   ·simp only[ho1];rw[Ep qj hi,i2,ho2];cases (l.take i).all qj<;>cases qj l[i]<;>rfl
   ·rw[Ep qj hi,Fa]at hall;obtain⟨e,n,h1,h2,h3⟩:=ho3 hall.2;have hd:=i3 hall.1;simp only[ho1];rw[Js _ hi,h1,h2,hd,Bh,Bh,<-h3,Nat.max_assoc]
  simp only[zY hi,Da,zS hi,za,Ba,hf1,hnames];refine zKX (fun(q:Option (LO (Int×zq) zq zq))=> ∃a':zq,q=some (LO.again (((i+1:Nat):Int),a'))/\(a'.rules=(qo (l.take (i+1)):Int)/\a'.bad= !((l.take (i+1)).all qj)/\((l.take (i+1)).all qj=true->a'.depth=(mx Ve (l.take (i+1)):Int))))
   (fun o=>o.2.1=⟨((qo (l.take (i+1)):Nat):Int),a.depth,a.bad⟩/\o.1.2= !(qj l[i])/\(qj l[i]=true-> ∃e n:Nat,o.1.1=(e:Int)/\w64 (o.2.2.depth+1)=(n:Int)/\max n e=Ve l[i])) ?_ (fun o ho=>fin o ho.1 ho.2.1 ho.2.2)
  simp only[ZB,VM,zrR (show zL zo l[i].selectors<=big by omega),M9 (show zL zo l[i].selectors<=big by omega),Ba,
   iZ (show zI (zH l[i].cond)<=big by omega),zpB (show zI (zH l[i].cond)<=big by omega),zlU (show zI (zH l[i].cond)<=big by omega),htold1,zM,e32,e64,hw1,hw2,hf3,
   DW l[i].selectors l[i].decls (by omega),DW l[i].names l[i].rules (by omega),wT,yS,Tu,bne]
  unfold Er Cr at hsh;unfold Dk at hde
  -- the depth of the rules in it
  have hdeep:l[i].rules.all qj=true->w64 (f.depth+1)=((mx Ve l[i].rules+1:Nat):Int):=fun ha=>by rw[hf4 ha,Fj (by omega)]
  have hnone:l[i].selectors.isEmpty=true->l[i].decls.isEmpty=true->selL l[i].selectors=0/\mx (fun d=>Q0 d.value) l[i].decls=0:=fun h1 h2=>by rw[Vd.1 h1,Vd.1 h2];exact⟨by rw[selL],rfl⟩
  by_cases k1:l[i].kind=1
  ·simp only[k1,Int.reduceBEq,Da,Ca]at hsh hde ⊢;refine zKC (l:=l[i].decls) (by omega) (fun(q:Option (LX ((Int×Bool)×zq×zq) (LO (Int×zq) zq zq)))=> ∃o,q=some (LX.out o)/\(o.2.1=⟨((qo (l.take (i+1)):Nat):Int),a.depth,a.bad⟩/\o.1.2= !(qj l[i])/\(qj l[i]=true-> ∃e n:Nat,o.1.1=(e:Int)/\w64 (o.2.2.depth+1)=(n:Int)/\max n e=Ve l[i]))) (fun x h1 h2 h3=>⟨_,rfl,rfl,?_,fun hok=> ?_⟩)
   ·simp only[h1,hsh];cases l[i].rules.all qj<;>cases l[i].names.all rf<;>simp only[Va,Ra,Da,Ca]<;>cases selS l[i].selectors==0<;>cases decide (l[i].decls.length<=32)<;>cases uf l[i].cond<;>cases l[i].names.isEmpty<;>cases l[i].rules.isEmpty<;>cases l[i].decls.all Ye<;>rfl
   ·rw[hok]at hsh;have hsh:=hsh.symm;simp only[Fa]at hsh;have hdl:=rF l[i].decls;refine⟨selL l[i].selectors,max (mx Ve l[i].rules) (mx (fun d=>Q0 d.value) l[i].decls)+1,rfl,?_,by rw[hde];omega⟩;simp only[h3 _ (hf4 hsh.2.2) hsh.1.2.2.2.2.2];rw[Fj (by omega)]
  have b1:=Ea.2 k1;rw[b1]at hsh ⊢;simp only[Ca]at hsh ⊢;by_cases k2:l[i].kind=2
  ·simp only[k2,Int.reduceBEq,Da,Ca]at hsh hde ⊢;refine⟨_,rfl,rfl,?_,fun hok=> ?_⟩
   ·simp only[hsh];cases l[i].rules.all qj<;>cases l[i].names.all rf<;>cases l[i].selectors.isEmpty<;>cases l[i].decls.isEmpty<;>cases l[i].names.isEmpty<;>cases Cj l[i].cond<;>rfl
   ·rw[hok]at hsh;have hsh:=hsh.symm;simp only[Fa]at hsh;obtain⟨g1,g2⟩:=hnone hsh.1.1.1 hsh.1.1.2;refine⟨bif askB l[i].cond then 1 else 0,_,?_,hdeep hsh.2.2,by rw[hde,g1,g2];cases askB l[i].cond<;>simp only[Da,Ca]<;>omega⟩;cases askB l[i].cond<;>rfl
  have b2:=Ea.2 k2;rw[b2]at hsh hde ⊢;simp only[Ca]at hsh hde ⊢;by_cases k3:l[i].kind=3
  ·simp only[k3,Int.reduceBEq,Da,Ca]at hsh hde ⊢;refine⟨_,rfl,rfl,?_,fun hok=> ?_⟩
   ·simp only[hsh];cases l[i].rules.all qj<;>cases l[i].names.all rf<;>cases l[i].selectors.isEmpty<;>cases l[i].decls.isEmpty<;>cases l[i].names.isEmpty<;>cases Xk l[i].cond<;>rfl
   ·rw[hok]at hsh;have hsh:=hsh.symm;simp only[Fa]at hsh;obtain⟨g1,g2⟩:=hnone hsh.1.1.1 hsh.1.1.2;have hsup:supC l[i].cond=true:=by have:=hsh.1.2.2;unfold Xk at this;rw[Fa]at this;exact this.1
    refine⟨Af l[i].cond,_,htold2 hsup,hdeep hsh.2.2,by rw[hde,g1,g2];omega⟩
  have b3:=Ea.2 k3;rw[b3]at hsh hde ⊢;simp only[Ca]at hsh hde ⊢;by_cases k4:l[i].kind=4
  ·simp only[k4,Int.reduceBEq,Da,Ca]at hsh hde ⊢;refine⟨_,rfl,rfl,?_,fun hok=> ?_⟩
   ·simp only[hsh];cases l[i].rules.all qj<;>cases l[i].names.all rf<;>cases l[i].selectors.isEmpty<;>cases l[i].decls.isEmpty<;>cases decide (l[i].names.length<=1)<;>cases uf l[i].cond<;>rfl
   ·rw[hok]at hsh;have hsh:=hsh.symm;simp only[Fa]at hsh;obtain⟨g1,g2⟩:=hnone hsh.1.1.1 hsh.1.1.2;exact⟨0,_,rfl,hdeep hsh.2.2,by rw[hde,g1,g2];omega⟩
  have b4:=Ea.2 k4;rw[b4]at hsh ⊢;simp only[Ca]at hsh ⊢;by_cases k5:l[i].kind=5
  ·simp only[k5,Int.reduceBEq,Da,Ca]at hsh hde ⊢;refine⟨_,rfl,rfl,?_,fun hok=> ?_⟩
   ·simp only[hsh];have hn1:decide ((l[i].names.length:Int)<1)=l[i].names.isEmpty:=Tu _;cases l[i].rules.all qj<;>cases l[i].names.all rf<;>cases l[i].selectors.isEmpty<;>cases l[i].decls.isEmpty<;>cases l[i].names.isEmpty<;>cases decide (l[i].names.length<=64)<;>cases l[i].rules.isEmpty<;>cases uf l[i].cond<;>rfl
   ·exact⟨0,0,rfl,rfl,by rw[hde];rfl⟩
  have b5:=Ea.2 k5;rw[b5]at hsh ⊢;simp only[Ca]at hsh ⊢;refine⟨_,rfl,rfl,by simp only[hsh];rfl,fun hok=> ?_⟩;rw[hok]at hsh;cases hsh
 ·rw[Lf]at hI;exact⟨a,by simp only[zV,Ca],a,rfl,hI⟩
theorem cO{l:List zC}(h:zL zD l<=big):Fu l=some (bif Rf l then 0 else 8):=by
 obtain⟨y,h1,h2,h3,h4⟩:=gZ h;have e64:decide ((qo l:Int)>64)= !decide (qo l<=64):=Jf _ 64;have e16:decide ((mx Ve l:Int)>16)= !decide (mx Ve l<=16):=Jf _ 16;unfold Fu Rf;simp only[h1,za,Ba,h2,h3,e64];cases hs:l.all qj with
 |false=>cases decide (qo l<=64)<;>rfl
 |true=> rw[h4 hs,e16];cases decide (qo l<=64)<;>cases decide (mx Ve l<=16)<;>rfl
theorem Lj{X R:Type}{step:Int->Option (LO Int X R)}{k:X->Option R}(n:Nat)(x:X)(h: ∀i,i<n->step (i:Int)=some (.again ((i+1:Nat):Int)))(hf:step (n:Int)=some (.out x)):Zc step 0 k=k x:=by
 refine(Tx (List.replicate n ()) (fun i (_:Unit)=>(i:Int)) (fun v (_:Unit)=>some (.again ())) (fun _=>some (.out x)) (a:=()) rfl (fun i a hi=> ?_) (fun a=> ?_) (r:= .out x) ?_)
 ·rw[h i (by simpa using hi)];rfl
 ·rw[List.length_replicate,hf];rfl
 ·rw[ik (fun a v=>a) (fun v a=>rfl)]
theorem Uk{α R:Type}{step:Int×List α->Option (LO (Int×List α) (List α) R)}{k:List α->Option R}(l:List α)(h: ∀i,i<l.length->step ((i:Int),l)=some (.again (((i+1:Nat):Int),l)))(hf:step ((l.length:Int),l)=some (.out l)):
  Zc step (0,l) k=k l:=by
 refine(Tx l (fun i (_:Unit)=>((i:Int),l)) (fun v (_:Unit)=>some (.again ())) (fun _=>some (.out l)) (a:=()) rfl (fun i a hi=> ?_) (fun a=> ?_) (r:= .out l) ?_)
 ·rw[h i hi];rfl
 ·rw[hf];rfl
 ·rw[ik (fun a v=>a) (fun v a=>rfl)]
theorem zL5{R:Type}(x:Option R):both x x=x:=by unfold both;rw[aa rfl]
theorem Mi{α:Type}(l:List α)(n:Nat)(h:(0+l.length)*n<=140737488355328):(bif l.isEmpty then both (some []) (need (Zb 0 l.length n)<|some l)else need (Zb 0 l.length n)<|some l)=some l:=by
 rw[Nj h];cases l with
 |nil=>exact zL5 _
 |cons v r=>rfl
theorem set_self{α:Type}(l:List α)(i:Nat)(h:i<l.length)(y:α)(hy:y=l[i]):l.set i y=l:=by subst hy;exact List.set_getElem_self h
theorem sw{α:Type}(l:List α)(i:Nat)(h:i<l.length)(y:α)(hy:y=l[i]):l.take i++List.cons y (l.drop (i+1))=l:=by subst hy;rw[List.getElem_cons_drop,yc]
theorem nn(i:Nat):decide ((0:Int)<=(i:Int))=true:=Ha (by omega)
theorem zMu(v:ze):(⟨v.token,v.list⟩:ze)=v:=by cases v;rfl
theorem yT(v:Za):(⟨v.name,v.value,v.important⟩:Za)=v:=by cases v;rfl
theorem zMs(v:zg):(⟨v.lead,v.parts,v.combs⟩:zg)=v:=by cases v;rfl
theorem zMr(v:zy):(⟨v.tag,v.simples⟩:zy)=v:=by cases v;rfl
theorem zMt(v:zx):(⟨v.kind,v.name,v.op,v.value,v.fold,v.anb,v.of_,v.list⟩:zx)=v:=by cases v;rfl
theorem JV{α:Type}{l:List α}{i:Nat}(h:i<l.length):Nat.beq i (l.take i).length=true:=by rw[jc,Nat.min_eq_left (Nat.le_of_lt h)];exact Nat.beq_refl i
theorem nP{l:List ze}(h:szL l<=big):qO l=some l:=by
 refine ZH (fun l=>szL l) (fun l=>szL l<=big) (fun l=>l) (fun S l hl hS=> ?_) h;unfold eB;have hlen:=ag l;have hc:VI l=some l:=Mi l 80 (by unfold big at hl;omega);simp only[za,hc,Ba];refine Uk l (fun i hi=> ?_) ?_
 ·have hsz:=Vh (Ga hi);have hv2:=Dh l[i];have h1:S l[i].list=some l[i].list:=hS l[i].list (by omega) (by omega);simp only[Ha (show(i:Int)<(l.length:Int) by omega),Da,nn,Jd,ZU,Ma hi,Ba,h1,Lb,zK hi (by omega)];rw[set_self l i hi _ (zMu _)]
 ·simp only[zV,Ca]
theorem jZ{l:List Za}(h:zL ZC l<=big):Hu l=some l:=by
 unfold Hu;have hlen:=ZL Xh l;have hc:RI l=some l:=Mi l 48 (by unfold big at h;omega);simp only[za,hc,Ba];refine Uk l (fun i hi=> ?_) ?_
 ·have hsz:=ZW (f:=ZC) (Ga hi);have hv2:=Qq l[i];have hs:=Rh l[i].value;have h1:qO l[i].value=some l[i].value:=nP (by omega);simp only[Ha (show(i:Int)<(l.length:Int) by omega),Da,nn,Jd,ZU,Ma hi,Ba,h1,Lb,zK hi (by omega)];rw[set_self l i hi _ (yT _)]
 ·simp only[zV,Ca]
theorem zqA{c:zm}(h:zI (zH c)<=big):qh c=some c:=by
 refine ZH (fun c=>zI (zH c)) (fun c=>zI (zH c)<=big) (fun l=>l) (fun S c hl hS=> ?_) h;unfold BD;have hlen:=qL c;have hd:=Au c;rw[Qq]at hd;have hs:=Rh c.decl.value;have h0:qO c.decl.value=some c.decl.value:=nP (by omega);have hc:SI c.list=some c.list:=Mi c.list 104 (by unfold big at hl;omega);simp only[za,h0,hc,Ba];refine(Uk c.list (fun i hi=> ?_) ?_).trans (congrArg some (by rw[yT,ZB]))
 ·have hsz:=qK (Ga hi);have h1:S c.list[i]=some c.list[i]:=hS c.list[i] (by omega) hsz;simp only[Ha (show(i:Int)<(c.list.length:Int) by omega),Da,nn,Jd,ZU,Ma hi,Ba,ZB,h1,Lb,zK hi (by omega)];rw[set_self c.list i hi _ rfl]
 ·simp only[zV,Ca]
theorem zJW{R:Type}{S:List zg->Option (List zg)}{l:List zx}{k:List zx->Option R}(hl:l.length<=big)(hS: ∀x∈l,S x.list=some x.list):Zc (fun(s11:Int×List zx)=>
         bif decide (s11.1<(l.length:Int))then
          need (decide (0<=s11.1)&&decide (s11.1<(s11.2.length:Int)))<|
          za s11.2[s11.1.toNat]? fun y12=>
          za (S y12.list) fun y13=>
          need (decide (0<=s11.1)&&decide (s11.1<(s11.2.length:Int)))<|
          za s11.2[s11.1.toNat]? fun y14=>
          some (LO.again (w64 (s11.1+1),List.set s11.2 s11.1.toNat (⟨y14.kind,y14.name,y14.op,y14.value,y14.fold,y14.anb,y14.of_,y13⟩:zx)))
         else
          some (LO.out s11.2):Int×List zx->Option (LO (Int×List zx) (List zx) R)) (0,l) k=k l:=by
 refine Uk l (fun m hm=> ?_) ?_
 ·have h1:=hS l[m] (Ga hm);simp only[Ha (show(m:Int)<(l.length:Int) by omega),Da,nn,Jd,ZU,Ma hm,za,Ba,h1,Lb,zK hm hl];rw[set_self l m hm _ (zMt _)]
 ·simp only[zV,Ca]
theorem zH7{R:Type}{S:List zg->Option (List zg)}{l:List zy}{k:List zy->Option R}{b:Bool}(hb:b=true)(hl:l.length<=big)(hs: ∀x∈l,x.simples.length<=big)(hS: ∀x∈l,∀y∈x.simples,S y.list=some y.list):Zc (fun(s8:Int×List zy)=>
      bif decide (s8.1<(l.length:Int))then
       need b<|
       need (decide (0<=s8.1)&&decide (s8.1<(s8.2.length:Int)))<|
       za s8.2[s8.1.toNat]? fun y9=>
       za (JD y9.simples) fun y10=>
       Zc (fun(s11:Int×List zx)=>
         bif decide (s11.1<(y10.length:Int))then
          need (decide (0<=s11.1)&&decide (s11.1<(s11.2.length:Int)))<|
          za s11.2[s11.1.toNat]? fun y12=>
          za (S y12.list) fun y13=>
          need (decide (0<=s11.1)&&decide (s11.1<(s11.2.length:Int)))<|
          za s11.2[s11.1.toNat]? fun y14=>
          some (LO.again (w64 (s11.1+1),List.set s11.2 s11.1.toNat (⟨y14.kind,y14.name,y14.op,y14.value,y14.fold,y14.anb,y14.of_,y13⟩:zx)))
         else
          some (LO.out s11.2):Int×List zx->Option (LO (Int×List zx) (List zx) _)) (0,y10) fun o15=>
       need b<|
       need (decide (0<=s8.1)&&decide (s8.1<(s8.2.length:Int)))<|
       za s8.2[s8.1.toNat]? fun y16=>
       some (LO.again (w64 (s8.1+1),List.take s8.1.toNat s8.2++List.cons (⟨y16.tag,o15⟩:zy) (List.drop (s8.1.toNat+1) s8.2)))
      else
       some (LO.out s8.2):Int×List zy->Option (LO (Int×List zy) (List zy) R)) (0,l) k=k l:=by
 subst hb;refine Uk l (fun j hj=> ?_) ?_
 ·have h0:=hs l[j] (Ga hj);have h1:=hS l[j] (Ga hj);have hcs:JD l[j].simples=some l[j].simples:=Mi l[j].simples 104 (by unfold big at h0;omega);simp only[Ha (show(j:Int)<(l.length:Int) by omega),Da,nn,Jd,ZU,Ma hj,za,Ba,Lb,hcs,zK hj hl];refine(zJW h0 h1).trans ?_;rw[sw l j hj _ (zMr _)]
 ·simp only[zV,Ca]
theorem zqB{l:List zg}(h:zL zo l<=big):qi l=some l:=by
 refine ZH (fun l=>zL zo l) (fun l=>zL zo l<=big) (fun l=>l) (fun S l hl hS=> ?_) h;unfold yC;have hlen:=ZL qP l;have hc:WI l=some l:=Mi l 56 (by unfold big at hl;omega);simp only[za,hc,Ba];refine Uk l (fun i hi=> ?_) ?_
 ·have hsz:=ZW (f:=zo) (Ga hi);have hv2:=Qm l[i];have hlp:=ZL Qw l[i].parts;have hp:uI l[i].parts=some l[i].parts:=Mi l[i].parts 40 (by unfold big at hl;omega);have hmm:UI l[i].combs=some l[i].combs:=Mi l[i].combs 1 (by unfold big at hl;omega);simp only[Ha (show(i:Int)<(l.length:Int) by omega),Da,nn,Jd,ZU,Ma hi,Ba,Lb,hp,hmm];rw[JV hi,ZU,ZU];refine(zH7 rfl (by omega) (fun x hx=> ?_) (fun x hx y hy=> ?_)).trans ?_
  ·have hsz2:=ZW (f:=zT) hx;have hv3:=qA x;have hls:=ZL Wi x.simples;omega
  ·have hsz2:=ZW (f:=zT) hx;have hv3:=qA x;have hsz3:=ZW (f:=Zd) hy;have hv4:=Qk y;exact hS _ (by omega) (by omega)
  ·rw[zK hi (by omega),sw l i hi _ (zMs _)]
 ·simp only[zV,Ca]
theorem zFd{R:Type}{l:List (List Str)}{k:List (List Str)->Option R}{b:Bool}(hb:b=true)(hl:l.length<=big)(h: ∀n∈l,n.length<=big):Zc (fun(s18:Int×List (List Str))=>
      bif decide (s18.1<(l.length:Int))then
       need b<|
       need b<|
       need (decide (0<=s18.1)&&decide (s18.1<(s18.2.length:Int)))<|
       za s18.2[s18.1.toNat]? fun y19=>
       za (GD y19) fun y20=>
       need (decide (0<=s18.1)&&decide (s18.1<(s18.2.length:Int)))<|
       za s18.2[s18.1.toNat]? fun y21=>
       some (LO.again (w64 (s18.1+1),List.take s18.1.toNat s18.2++List.cons y20 (List.drop (s18.1.toNat+1) s18.2)))
      else
       some (LO.out s18.2):Int×List (List Str)->Option (LO (Int×List (List Str)) (List (List Str)) R)) (0,l) k=k l:=by
 subst hb;refine Uk l (fun i hi=> ?_) ?_
 ·have h2:=h l[i] (Ga hi);have hp:GD l[i]=some l[i]:=Mi l[i] 16 (by unfold big at h2;omega);simp only[Ha (show(i:Int)<(l.length:Int) by omega),Da,nn,Jd,ZU,Ma hi,za,Ba,Lb,hp,zK hi hl];rw[sw l i hi _ rfl]
 ·simp only[zV,Ca]
theorem yN{l:List zC}(h:zL zD l<=big):Bi l=some l:=by
 refine ZH (fun l=>zL zD l) (fun l=>zL zD l<=big) (fun l=>l) (fun S l hl hS=> ?_) h;unfold Yz;have hlen:=ZL vg l;have hc:PI l=some l:=Mi l 208 (by unfold big at hl;omega);simp only[za,hc,Ba];refine Uk l (fun i hi=> ?_) ?_
 ·have hsz:=ZW (f:=zD) (Ga hi);have hv2:=Gh l[i];have hn:=vv l[i].names;have h1:qi l[i].selectors=some l[i].selectors:=zqB (by omega);have h2:Hu l[i].decls=some l[i].decls:=jZ (by omega);have h3:qh l[i].cond=some l[i].cond:=zqA (by omega);have h4:S l[i].rules=some l[i].rules:=hS _ (by omega) (by omega);have h5:slices_Clone_string l[i].names=some l[i].names:=Mi l[i].names 24 (by unfold big at hl;omega);have e1:l.set i l[i]=l:=set_self l i hi _ rfl;simp only[Ha (show(i:Int)<(l.length:Int) by omega),Da,nn,Jd,ZU,Ma hi,Ba,Lb,ZB,h1,h2,h3,h4,yh,e1,Ma hi,h5];rw[JV hi,ZU];refine(zFd (l:=l[i].names) (b:=true) rfl (by omega) (fun n hm=>by have:=(hn.2 n hm).1;omega)).trans ?_;rw[zK hi (by omega)];simp only[yh];rw[sw l i hi _ rfl]
 ·simp only[zV,Ca]
theorem zOi{a:List ze}(h:szL a<=big):Si (a,a)=some true:=by
 refine ZH (fun x:List ze×List ze=>szL x.1) (fun x=>szL x.1<=big/\x.1=x.2) (fun x=>true) (fun S x hl hS=> ?_) (show szL (a,a).1<=big/\(a,a).1=(a,a).2 from⟨h,rfl⟩);obtain⟨l,l'⟩:=x;obtain⟨hl,he⟩:=hl;simp only at hl hS he;subst he;unfold au;have hlen:=ag l;have hne:((l.length:Int) != (l.length:Int))=false:=by simp
 simp only[hne,Ca];refine Lj l.length () (fun i hi=> ?_) ?_
 ·have hsz:=Vh (Ga hi);have hv2:=Dh l[i];have hs1:szL l[i].list<=big:=by omega
  have hs2:szL l[i].list<szL l:=by omega
  have hSq:S (l[i].list,l[i].list)=some true:=hS (l[i].list,l[i].list) ⟨hs1,rfl⟩ hs2;simp[hi,zS hi,hSq,zK hi (by omega)]
 ·simp only[zV,Ca]
theorem dS{d:Za}(h:zL Zr d.value<=big):Al (d,d)=some true:=by unfold Al;have:=Rh d.value;have e1:(d.name==d.name)=true:=ic _;have e2:(d.important==d.important)=true:=ic _;simp only[e1,e2,Da,Zt,zOi (show szL d.value<=big by omega),za,Ba]
theorem zOj{l:List Za}(h:zL ZC l<=big):Bu (l,l)=some true:=by
 unfold Bu;have hlen:=ZL Xh l;have hne:((l.length:Int) != (l.length:Int))=false:=by simp
 simp only[hne,Ca];refine Lj l.length () (fun i hi=> ?_) ?_
 ·have hsz:=ZW (f:=ZC) (Ga hi);have hv2:=Qq l[i];have h1:Al (l[i],l[i])=some true:=dS (by omega);simp[hi,zS hi,h1,zK hi (by omega)]
 ·simp only[zV,Ca]
theorem zN6{c:zm}(h:zI (zH c)<=big):QZ (c,c)=some true:=by
 refine ZH (fun x:zm×zm=>zI (zH x.1)) (fun x=>zI (zH x.1)<=big/\x.1=x.2) (fun x=>true) (fun S x hl hS=> ?_) (show zI (zH (c,c).1)<=big/\(c,c).1=(c,c).2 from⟨h,rfl⟩);obtain⟨c,c'⟩:=x;obtain⟨hl,he⟩:=hl;simp only at hl hS he;subst he;unfold Xu;have hlen:=qL c;have hd:=Au c;rw[Qq]at hd;have e1:(c.kind != c.kind)=false:=by simp
 have e2:(c.name==c.name)=true:=ic _;have e3:(c.num != c.num)=false:=by simp
 have e4:((c.list.length:Int) != (c.list.length:Int))=false:=by simp
 simp only[e1,e2,e3,e4,Ca,Va,Ra,Zt,dS (show zL Zr c.decl.value<=big by omega),za,Ba];refine Lj c.list.length () (fun i hi=> ?_) ?_
 ·have hsz:=qK (Ga hi);have hSq:S (c.list[i],c.list[i])=some true:=hS (c.list[i],c.list[i]) ⟨by show zI (zH c.list[i])<=big;omega,rfl⟩ hsz;simp[hi,zS hi,hSq,zK hi (by omega),ZB]
 ·simp only[zV,Ca]
theorem zOk{l:List zg}(h:zL zo l<=big):ZM (l,l)=some true:=by
 refine ZH (fun x:List zg×List zg=>zL zo x.1) (fun x=>zL zo x.1<=big/\x.1=x.2) (fun x=>true) (fun S x hl hS=> ?_) (show zL zo (l,l).1<=big/\(l,l).1=(l,l).2 from⟨h,rfl⟩);obtain⟨l,l'⟩:=x;obtain⟨hl,he⟩:=hl;simp only at hl hS he;subst he;unfold KA;have hlen:=ZL qP l;have hne:((l.length:Int) != (l.length:Int))=false:=by simp
 simp only[hne,Ca];have hsimp: ∀q:List zx,zL Zd q<zL zo l->nC S (q,q)=some true:=by
  intro q hq;unfold nC;have hq1:=ZL Wi q;have hne:((q.length:Int) != (q.length:Int))=false:=by simp
  simp only[hne,Ca];refine Lj q.length () (fun i hi=> ?_) ?_
  ·have hsz:=ZW (f:=Zd) (Ga hi);have hv2:=Qk q[i];have h1:S (q[i].list,q[i].list)=some true:=hS (q[i].list,q[i].list) ⟨by show zL zo q[i].list<=big;omega,rfl⟩ (by show zL zo q[i].list<_;omega);simp only[Ha (show(i:Int)<(q.length:Int) by omega),Da,zS hi,za,Ba,Rq,ic,Jd,Va,Ra,Zt,h1,Ca,zK hi (by omega)]
  ·simp only[zV,Ca]
 refine Lj l.length () (fun i hi=> ?_) ?_
 ·have hsz:=ZW (f:=zo) (Ga hi);have hv2:=Qm l[i];have hlp:=ZL Qw l[i].parts;have h1:Kz S (l[i],l[i])=some true:=by
   unfold Kz;have e1:(l[i].lead != l[i].lead)=false:=by simp
   have e2:((l[i].parts.length:Int) != (l[i].parts.length:Int))=false:=by simp
   have e3:(l[i].combs==l[i].combs)=true:=ic _;simp only[e1,e2,e3,Ca,Va];refine Lj l[i].parts.length () (fun j hj=> ?_) ?_
   ·have hsz2:=ZW (f:=zT) (Ga hj);have hv3:=qA l[i].parts[j];have h1:=hsimp l[i].parts[j].simples (by omega);simp[hj,zS hj,h1,zK hj (by omega),za]
   ·simp only[zV,Ca]
  have eta:(⟨l[i].lead,l[i].parts,l[i].combs⟩:zg)=l[i]:=by cases l[i];rfl
  simp[hi,zS hi,eta,h1,zK hi (by omega),za]
 ·simp only[zV,Ca]
theorem zOl{l:List (List Str)}(hl:l.length<=big)(h: ∀n∈l,n.length<=big):Ev (l,l)=some true:=by
 unfold Ev;have hne:((l.length:Int) != (l.length:Int))=false:=by simp
 simp only[hne,Ca];refine Lj l.length () (fun i hi=> ?_) ?_
 ·have h2:=h l[i] (Ga hi);have hne:((l[i].length:Int) != (l[i].length:Int))=false:=by simp
  simp only[Ha (show(i:Int)<(l.length:Int) by omega),Da,zS hi,za,Ba,hne,Ca];refine(Lj l[i].length () (fun j hj=> ?_) ?_).trans ?_
  ·simp[hj,zS hj,zK hj h2]
  ·simp only[zV,Ca]
  ·rw[zK hi hl]
 ·simp only[zV,Ca]
theorem rT{S:zC×zC->Option Bool}{l:List zC}(hl:l.length<=big)(hS: ∀y∈l,S (y,y)=some true):Vj S (l,l)=some true:=by
 unfold Vj;have hne:((l.length:Int) != (l.length:Int))=false:=by simp
 simp only[hne,Ca];refine Lj l.length () (fun i hi=> ?_) ?_
 ·simp only[Ha (show(i:Int)<(l.length:Int) by omega),Da,zS hi,za,Ba,ZB,yh,hS _ (Ga hi),Va,Ca,zK hi hl]
 ·simp only[zV,Ca]
theorem LW{r:zC}(h:zI (zD r)<=big):ZK (r,r)=some true:=by refine ZH (fun x:zC×zC=>zI (zD x.1)) (fun x=>zI (zD x.1)<=big/\x.1=x.2) (fun x=>true) (fun S x hl hS=> ?_) (show zI (zD (r,r).1)<=big/\(r,r).1=(r,r).2 from⟨h,rfl⟩);obtain⟨l,l'⟩:=x;obtain⟨hl,he⟩:=hl;simp only at hl hS he;subst he;unfold aA;have hv2:=Gh l;have hn:=vv l.names;have hlr:=ZL vg l.rules;have e1:(l.kind==l.kind)=true:=ic _;have g1:ZM (l.selectors,l.selectors)=some true:=zOk (by omega);have g2:Bu (l.decls,l.decls)=some true:=zOj (by omega);have g3:QZ (l.cond,l.cond)=some true:=zN6 (by omega);have g4:Ev (l.names,l.names)=some true:=zOl (by omega) (fun n hm=>by have:=(hn.2 n hm).1;omega);have g5:Vj S (l.rules,l.rules)=some true:=rT (by omega) fun y hy=>hS (y,y) ⟨by have:=Yx hy;show zI (zD y)<=big;omega,rfl⟩ (Yx hy);simp only[e1,Zt,g1,za,Ba,Da,g2,ZB,g3,g4,g5]
theorem pJ{l:List zC}(h:zL zD l<=big):Vj ZK (l,l)=some true:=
 rT (by have:=ZL vg l;omega) fun y hy=>LW (Kb (ZW hy) h)
end Go.Lv.VT
