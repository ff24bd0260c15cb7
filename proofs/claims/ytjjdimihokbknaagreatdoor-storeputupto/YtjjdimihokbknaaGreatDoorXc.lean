/- Selectors: how many there are; the checks. -/
import Derived.Test.YtjjdimihokbknaaGreatDoorXb
set_option linter.unusedSimpArgs false
set_option linter.unusedVariables false
namespace Go.Lv.VT
theorem Ul {α R:Type} {step:Int×Int->Option (LO (Int×Int) Int R)} {k:Int->Option R} (l:List α) (f:α->Nat) (a0 M:Nat) (hb:a0+(l.map f).sum<=M)
  (hg: ∀(i a:Nat) (h:i<l.length),a+f l[i]<=M->step ((a:Int),(i:Int))=some (.again (((a+f l[i]:Nat):Int),((i+1:Nat):Int))))
  (hf: ∀a:Nat,step ((a:Int),(l.length:Int))=some (.out (a:Int))):zZ step ((a0:Int),0) k=k ((a0+(l.map f).sum:Nat):Int):=by
 have key: ∀(m:List α) (i a:Nat),l.drop i=m->i<=l.length->a+(m.map f).sum<=M-> ∃n,qj step n ((a:Int),(i:Int))=some (.out ((a+(m.map f).sum:Nat):Int)):=by
  intro m
  induction m with
  |nil=>
   intro i a hd hi _;have:i=l.length:=by have:=Jc.1 hd;omega
   subst this;exact⟨1,by simp only[qj,hf];simp⟩
  |cons v m ih=>
   intro i a hd hi hM;have hlt:i<l.length:=by
    rcases De i l.length with h|h
    ·exact h
    ·rw[List.drop_eq_nil_of_le h]at hd;cases hd
   have hv:l[i]=v:=by have:=Ua hlt;rw[hd]at this;injection this with h1 _;exact h1.symm
   rw[Ub,Wd]at hM ⊢;have hs:=hg i a hlt (by rw[hv];omega);rw[hv]at hs;obtain⟨n,hn⟩:=ih (i+1) (a+f v) (by rw[Ua hlt]at hd;injection hd) (by omega) (by omega);refine⟨n+1,?_⟩;simp only[qj,hs];rw[hn,Te]
 obtain⟨n,hn⟩:=key l 0 a0 rfl (by omega) hb;replace hn:qj step n ((a0:Int),0)=_:=hn;rw[Ph (Fh hn)];rfl
mutual
/-- How many complex ones there are, in all. -/
def numL:List zf->Nat
 |[]=>0
 |⟨_,parts,_⟩::r=>1+numP parts+numL r
def numP:List zI->Nat
 |[]=>0
 |⟨_,simples⟩::r=>numI simples+numP r
def numI:List zw->Nat
 |[]=>0
 |⟨_,_,_,_,_,_,_,list⟩::r=>numL list+numI r
end
theorem UR(l:List zw):numI l=(l.map fun x=>numL x.list).sum:=by
 induction l with
 |nil=>rw[numI];rfl
 |cons x l ih=>obtain⟨⟩:=x;rw[numI,ih];rfl
theorem NR(l:List zI):numP l=(l.map fun x=>numI x.simples).sum:=by
 induction l with
 |nil=>rw[numP];rfl
 |cons x l ih=>obtain⟨⟩:=x;rw[numP,ih];rfl
theorem PR(l:List zf):numL l=l.length+(l.map fun x=>numP x.parts).sum:=by
 induction l with
 |nil=>rw[numL];rfl
 |cons x l ih=>obtain⟨⟩:=x;rw[numL,ih,Ub,Wd,Db];dsimp only;omega
mutual
theorem Jw: ∀l:List zf,numL l<=zL zm l
 |[]=>by rw[numL];exact Sb _
 |⟨a,parts,b⟩::r=>by rw[numL,rf,Qb];have:=MR parts;have:=Jw r;show 1+numP parts+numL r<=3+zL zU parts+b.length+_;omega
theorem MR: ∀l:List zI,numP l<=zL zU l
 |[]=>by rw[numP];exact Sb _
 |⟨a,simples⟩::r=>by rw[numP,rf,qE];have:=TR simples;have:=MR r;show numI simples+numP r<=2+a.length+zL z8 simples+_;omega
theorem TR: ∀l:List zw,numI l<=zL z8 l
 |[]=>by rw[numI];exact Sb _
 |⟨a,b,c,d,e,f,g,list⟩::r=>by rw[numI,rf,qZ];have:=Jw list;have:=TR r;show numL list+numI r<=9+b.length+d.length+zL zm list+_;omega
end
theorem l9{l:List zf}(h:zL zm l<=big):Qj l=some (numL l:Int):=by
 refine Zx (fun l=>zL zm l) (fun l=>zL zm l<=big) (fun l=>(numL l:Int)) (fun S l hl hS=> ?_) h;unfold cB;have hn:=Jw l;have hlen:=Zy qD l;rw[PR]at hn ⊢;refine(Ul l (fun x=>numP x.parts) l.length big (by omega) (fun i a hi ha=> ?_) (fun a=> ?_)).trans rfl
 ·have hm:=ZF (f:=zm) (Ga hi);have hz:=Qb l[i];have hlen2:=Zy Qk l[i].parts;simp only[zO hi,Da,zN hi,za,Aa,zH hi (show l.length<=big by omega)];rw[NR]at ha ⊢;refine(Ul l[i].parts (fun x=>numI x.simples) a big ha (fun j b hj hb=> ?_) (fun a=> ?_)).trans rfl
  ·have hm2:=ZF (f:=zU) (Ga hj);have hz2:=qE l[i].parts[j];have hlen3:=Zy Ti l[i].parts[j].simples;simp only[zO hj,Da,zN hj,Aa,zH hj (show l[i].parts.length<=big by omega)];rw[UR]at hb ⊢;refine(Ul l[i].parts[j].simples (fun x=>numL x.list) b big hb (fun m c hm3 hc=> ?_) (fun a=> ?_)).trans rfl
   ·have hm4:=ZF (f:=z8) (Ga hm3);have hz3:=qZ l[i].parts[j].simples[m];simp only[zO hm3,Da,zN hm3,Aa,zH hm3 (show l[i].parts[j].simples.length<=big by omega)];rw[hS _ (by show zL zm l[i].parts[j].simples[m].list<=big;omega) (by show zL zm l[i].parts[j].simples[m].list<zL zm l;omega)];simp only[Aa,Wn hc]
   ·simp only[zR,Ca]
  ·simp only[zR,Ca]
 ·simp only[zR,Ca]
theorem K4{l:List zf}(h:zL zm l<=big):QR l=some (numL l:Int):=by
 refine Zx (fun l=>zL zm l) (fun l=>zL zm l<=big) (fun l=>(numL l:Int)) (fun S l hl hS=> ?_) h;unfold aB;have hn:=Jw l;have hlen:=Zy qD l;rw[PR]at hn ⊢;refine(Ul l (fun x=>numP x.parts) l.length big (by omega) (fun i a hi ha=> ?_) (fun a=> ?_)).trans rfl
 ·have hm:=ZF (f:=zm) (Ga hi);have hz:=Qb l[i];have hlen2:=Zy Qk l[i].parts;simp only[zO hi,Da,zN hi,za,Aa,zH hi (show l.length<=big by omega)];rw[NR]at ha ⊢;refine(Ul l[i].parts (fun x=>numI x.simples) a big ha (fun j b hj hb=> ?_) (fun a=> ?_)).trans rfl
  ·have hm2:=ZF (f:=zU) (Ga hj);have hz2:=qE l[i].parts[j];have hlen3:=Zy Ti l[i].parts[j].simples;simp only[zO hj,Da,zN hj,Aa,zH hj (show l[i].parts.length<=big by omega)];rw[UR]at hb ⊢;refine(Ul l[i].parts[j].simples (fun x=>numL x.list) b big hb (fun m c hm3 hc=> ?_) (fun a=> ?_)).trans rfl
   ·have hm4:=ZF (f:=z8) (Ga hm3);have hz3:=qZ l[i].parts[j].simples[m];simp only[zO hm3,Da,zN hm3,Aa,zH hm3 (show l[i].parts[j].simples.length<=big by omega)];rw[hS _ (by show zL zm l[i].parts[j].simples[m].list<=big;omega) (by show zL zm l[i].parts[j].simples[m].list<zL zm l;omega)];simp only[Aa,Wn hc]
   ·simp only[zR,Ca]
  ·simp only[zR,Ca]
 ·simp only[zR,Ca]
def selS(l:List zf):Int:=bif l.isEmpty|| !(l.all fun c=>QF c 0 false false)then 8 else bif decide (numL l<=64)then 0 else 4
theorem p9{l:List zf}(h:zL zm l<=big):xA l=some (selS l):=by
 have hlen:=Zy qD l;have e64:decide ((numL l:Int)>64)= !decide (numL l<=64):=Df _ 64;have hc:qx l=some (!l.all fun c=>QF c 0 false false):=by
  unfold qx II;refine Fj (Gi l (fun x=> !QF x 0 false false) (by omega) (fun i hi=> ?_) ?_) ((Ii _ _).trans (Jo _ _))
  ·have hm:=ZF (f:=zm) (Ga hi);simp only[zO hi,Da,zN hi,za,Aa,RH,uy];have:=zFL (c:=l[i]) (d:=0) (h:=false) (b:=false) (by omega) (by omega);simp only[Int.natCast_zero]at this;rw[this];rfl
  ·simp only[zR,Ca]
 unfold xA selS;simp only[hc,l9 h,zP,za,Aa,ZE,e64];cases l.isEmpty<;>cases l.all (fun c=>QF c 0 false false)<;>cases decide (numL l<=64)<;>rfl
theorem pX{l:List zf}(h:zL zm l<=big):Iz l=some (selS l):=by
 have hlen:=Zy qD l;have e64:decide ((numL l:Int)>64)= !decide (numL l<=64):=Df _ 64;have hc:Jy l=some ((l.all fun c=>QF c 0 false false)&& !l.isEmpty):=by
  unfold Jy;refine(ZZ l (fun c=>bif QF c 0 false false then none else some false) () (fun i hi=> ?_) ?_).trans ?_
  ·have hm:=ZF (f:=zm) (Ga hi);simp only[zO hi,Da,zN hi,za,Aa,uy,zH hi (show l.length<=big by omega)];have:=zHP (c:=l[i]) (d:=0) (h:=false) (b:=false) (by omega) (by omega);simp only[Int.natCast_zero]at this;rw[this];simp only[Aa];cases QF l[i] 0 false false<;>rfl
  ·simp only[zR,Ca]
  ·rw[Q9,yj];cases l.all fun c=>QF c 0 false false<;>rfl
 unfold Iz selS;simp only[hc,K4 h,za,Aa,e64];cases l.isEmpty<;>cases l.all (fun c=>QF c 0 false false)<;>cases decide (numL l<=64)<;>rfl
def zLo{A S X R:Type}(k:X->Option R)(st:Nat->A->S)(Q:R->Prop)(i:Nat):LO S X R->Prop
 | .again s=> ∃a',s=st (i+1) a'
 | .ret r=>Q r
 | .out x=> ∃r,k x=some r/\Q r
def Ends{S X R:Type}(k:X->Option R)(Q:R->Prop):LO S X R->Prop
 | .again _=>False
 | .ret r=>Q r
 | .out x=> ∃r,k x=some r/\Q r
theorem uj {A S X R:Type} {step:S->Option (LO S X R)} {k:X->Option R} (n:Nat) (st:Nat->A->S) (Q:R->Prop) {s0:S} {a0:A} (h0:s0=st 0 a0)
  (hg: ∀(i:Nat) (a:A),i<n-> ∃o,step (st i a)=some o/\zLo k st Q i o) (hf: ∀a,∃o,step (st n a)=some o/\Ends k Q o): ∃r,zZ step s0 k=some r/\Q r:=by
 refine Ls n st (fun _ _=>True) Q h0 trivial (fun i a hi _=> ?_) (fun a _=> ?_)
 ·obtain⟨o,h1,h2⟩:=hg i a hi;cases o with
  |again s=>obtain⟨a',rfl⟩:=h2;exact .inl ⟨a',h1,trivial⟩
  |ret r=>exact .inr (.inl ⟨r,h1,h2⟩)
  |out x=>exact .inr (.inr ⟨x,h1,h2⟩)
 ·obtain⟨o,h1,h2⟩:=hf a;cases o with
  |again s=>exact h2.elim
  |ret r=>exact .inr ⟨r,h1,h2⟩
  |out x=>exact .inl ⟨x,h1,h2⟩
theorem TD{α:Type}{b:Bool}{A B:Option α}{P:α->Prop}(h1: ∃o,A=some o/\P o)(h2: ∃o,B=some o/\P o): ∃o,(bif b then A else B)=some o/\P o:=by
 cases b
 ·exact h2
 ·exact h1
theorem zAj{l:List ze}{m:Int}(h:szL l<=big): ∃r,Ci (l,m)=some r:=by
 have: ∃r,Ci (l,m)=some r/\True:=by
  refine Ck U5 (fun x=>szL x.1) (fun x=>szL x.1<=big) (fun _ _=>True) (fun S x hx hS=> ?_) (x:=(l,m)) h;obtain⟨l,m⟩:=x;have hx:szL l<=big:=hx;have hlen:=Xg l;unfold Pp;refine uj (A:=Int) l.length (fun i a=>(a,(i:Int))) _ (a0:=0) rfl (fun i a hi=> ?_) (fun a=> ?_)
  ·have hsz:=Oh (Ga hi);have hv:=Ah l[i];cases ha:decide (a<=m)with
   |false=>simp only[zO hi,Da,Ca,ha];exact⟨_,rfl,_,rfl,trivial⟩
   |true=> obtain⟨r,hr,_⟩:=hS (l[i].list,w64 (m - a)) (by show szL l[i].list<=big;omega) (by show szL l[i].list<szL l;omega);simp only[zO hi,Da,ha,zN hi,za,Aa,hr,zH hi (show l.length<=big by omega)];exact⟨_,rfl,_,rfl⟩
  ·simp only[zR,Ca];exact⟨_,rfl,_,rfl,trivial⟩
 obtain⟨r,hr,_⟩:=this;exact⟨r,hr⟩
theorem WN{l:List Zd}(h:zL Zu l<=big): ∃r,Gp l=some r:=by
 have hlen:=Zy Rh l;have: ∃r,Gp l=some r/\True:=by
  unfold Gp;cases decide ((l.length:Int)>40)with
  |true=>exact⟨_,rfl,trivial⟩
  |false=>
   simp only[Ca];refine uj (A:=Int) l.length (fun i a=>(a,(i:Int))) _ (a0:=0) rfl (fun i a hi=> ?_) (fun a=> ?_)
   ·have hm:=ZF (f:=Zu) (Ga hi);have hz:=Qg l[i];have hv:=Mh l[i].value;obtain⟨r,hr⟩:=zAj (l:=l[i].value) (m:=300) (by omega);simp only[zO hi,Da,zN hi,za,Aa,hr,zP,zH hi (show l.length<=big by omega)];have hd: ∀(g:Bool) (k:Int->Option (LO (Int×Int) Unit Bool)),((zA g (qV (bif g then l[i]else default).value) (default:Int)).bind k)=k (bif g then(QL l[i].value:Int)else default):=by
     intro g k;cases g with
     |false=>rfl
     |true=>simp only[Da,Zm,jw (show szL l[i].value<=big by omega),Aa]
    rw[hd];exact TD ⟨_,rfl,trivial⟩ ⟨_,rfl,_,rfl⟩
   ·simp only[zR,Ca];exact⟨_,rfl,_,rfl,trivial⟩
 obtain⟨r,hr,_⟩:=this;exact⟨r,hr⟩
theorem zAl{c:zo}(h:zG (zD c)<=big): ∃r,Ai c=some r:=by
 have: ∃r,Ai c=some r/\True:=by
  refine Ck O5 (fun c=>zG (zD c)) (fun c=>zG (zD c)<=big) (fun _ _=>True) (fun S c hc hS=> ?_) h;have hlen:=qB c;have hd:=Wt c;obtain⟨r,hr⟩:=WN (l:=[c.decl]) (by rw[rf,fQ];omega);unfold gp;simp only[hr,za,Aa];refine TD ⟨_,rfl,trivial⟩ ?_
  ·refine uj (A:=Unit) c.list.length (fun i _=>(i:Int)) _ (a0:=()) rfl (fun i a hi=> ?_) (fun a=> ?_)
   ·have hm:=qA (Ga hi);obtain⟨q,hq,_⟩:=hS c.list[i] (by omega) hm;simp only[zO hi,Da,zN hi,Aa,ZA,hq,zH hi (show c.list.length<=big by omega)];cases q with
    |true=>exact⟨_,rfl,trivial⟩
    |false=>exact⟨_,rfl,(),rfl⟩
   ·simp only[zR,Ca];exact⟨_,rfl,_,rfl,trivial⟩
 obtain⟨r,hr,_⟩:=this;exact⟨r,hr⟩
theorem nY{c:zo}(h:zG (zD c)<=big): ∃r,Ez c=some r:=by obtain⟨n,h1,_⟩:=BN (m:=100) h (by unfold big;omega);replace h1:qW (c,100)=some (n:Int):=h1;obtain⟨b,h2⟩:=zAl h;unfold Ez;simp only[ZA,h1,h2,za,Aa,zP];exact⟨_,rfl⟩
theorem zAk{l:List zf}{m:Int}(h:zL zm l<=big): ∃r,Bi (l,m)=some r:=by
 have: ∃r,Bi (l,m)=some r/\True:=by
  refine Ck R5 (fun x=>zL zm x.1) (fun x=>zL zm x.1<=big) (fun _ _=>True) (fun S x hx hS=> ?_) (x:=(l,m)) h;obtain⟨l,m⟩:=x;have hx:zL zm l<=big:=hx;have hlen:=Zy qD l;unfold Bq;refine uj (A:=Int) l.length (fun i a=>(a,(i:Int))) _ (a0:=0) rfl (fun i a hi=> ?_) (fun a=> ?_)
  ·have hm:=ZF (f:=zm) (Ga hi);have hz:=Qb l[i];have hlen2:=Zy Qk l[i].parts;cases ha:decide (a<=m)with
   |false=>simp only[zO hi,Da,Ca,ha];exact⟨_,rfl,_,rfl,trivial⟩
   |true=>
    simp only[zO hi,Da,ha,zN hi,za,Aa,zH hi (show l.length<=big by omega)];refine uj (A:=Int) l[i].parts.length (fun i a=>(a,(i:Int))) _ rfl (fun j b hj=> ?_) (fun b=> ?_)
    ·have hm2:=ZF (f:=zU) (Ga hj);have hz2:=qE l[i].parts[j];have hlen3:=Zy Ti l[i].parts[j].simples;cases hb:decide (b<=m)with
     |false=>simp only[zO hj,Da,Ca,hb];exact⟨_,rfl,_,rfl,_,rfl⟩
     |true=>
      simp only[zO hj,Da,hb,zN hj,Aa,zH hj (show l[i].parts.length<=big by omega)];refine uj (A:=Int) l[i].parts[j].simples.length (fun i a=>(a,(i:Int))) _ rfl (fun n c hn=> ?_) (fun c=> ?_)
      ·have hm3:=ZF (f:=z8) (Ga hn);have hz3:=qZ l[i].parts[j].simples[n];cases hc:decide (c<=m)with
       |false=>simp only[zO hn,Da,Ca,hc];exact⟨_,rfl,_,rfl,_,rfl⟩
       |true=> obtain⟨r,hr,_⟩:=hS (l[i].parts[j].simples[n].list,w64 (m - c)) (by show zL zm l[i].parts[j].simples[n].list<=big;omega) (by show zL zm l[i].parts[j].simples[n].list<zL zm l;omega);simp only[zO hn,Da,hc,zN hn,Aa,hr,zH hn (show l[i].parts[j].simples.length<=big by omega)];exact⟨_,rfl,_,rfl⟩
      ·simp only[zR,Ca];exact⟨_,rfl,_,rfl,_,rfl⟩
    ·simp only[zR,Ca];exact⟨_,rfl,_,rfl,_,rfl⟩
  ·simp only[zR,Ca];exact⟨_,rfl,_,rfl,trivial⟩
 obtain⟨r,hr,_⟩:=this;exact⟨r,hr⟩
theorem pY{l:List zf}(h:zL zm l<=big): ∃r,Hz l=some r:=by obtain⟨r,hr⟩:=zAk (m:=600) h;unfold Hz;rw[hr];exact⟨_,rfl⟩
theorem Wv(l:List (List Str)):l.length<=zL (fun l:List Str=>[.sl (l.map fun y=>[.str y])]) l/\ ∀n∈l,n.length<=zL (fun l:List Str=>[.sl (l.map fun y=>[.str y])]) l/\ ∀s∈n,s.length<=zL (fun l:List Str=>[.sl (l.map fun y=>[.str y])]) l:=by
 have h1: ∀n:List Str,n.length<=zL (fun y:Str=>[.str y]) n:=Zy (fun y=>by simp[zG,bPV]);have h2: ∀n:List Str,zG [.sl (n.map fun y=>[.str y])]=1+zL (fun y:Str=>[.str y]) n:=ER;refine⟨Zy (fun v=>by rw[h2];omega) l,fun n hn=> ?_⟩;have hm:=ZF (f:=fun l:List Str=>[.sl (l.map fun y=>[.str y])]) hn;have h3:=h2 n;have h4:=h1 n;refine⟨by omega,fun s hs=> ?_⟩;have h5:=ZF (f:=fun y:Str=>[.str y]) hs;have h6:zG [PV.str s]=1+s.length\/zG [PV.str s]=s.length:=by simp only[zG,bPV];omega
 omega
theorem r9{l:List zK}{m:Int}(h:zL zF l<=big): ∃r,qw (l,m)=some r:=by
 have: ∃r,qw (l,m)=some r/\True:=by
  refine Ck zoM (fun x=>zL zF x.1) (fun x=>zL zF x.1<=big) (fun _ _=>True) (fun S x hx hS=> ?_) (x:=(l,m)) h;obtain⟨l,m⟩:=x;have hx:zL zF l<=big:=hx;have hlen:=Zy Ki l;unfold Gq;refine TD ⟨_,rfl,trivial⟩ ?_
  ·refine uj (A:=Unit) l.length (fun i _=>(i:Int)) _ (a0:=()) rfl (fun i a hi=> ?_) (fun a=> ?_)
   ·have hm:=ZF (f:=zF) (Ga hi);have hz:=ng l[i];have hcp:=Lx l[i].cond;obtain⟨hn1,hn2⟩:=Wv l[i].names;obtain⟨q1,h1⟩:=pY (l:=l[i].selectors) (by omega);obtain⟨q2,h2⟩:=WN (l:=l[i].decls) (by omega);obtain⟨q3,h3⟩:=nY (c:=l[i].cond) (by omega);obtain⟨q4,h4,_⟩:=hS (l[i].rules,w64 (m - 1)) (by show zL zF l[i].rules<=big;omega) (by show zL zF l[i].rules<zL zF l;omega);simp only[zO hi,Da,zN hi,za,Aa,ZA,h1,h2,h3,h4,zP,zH hi (show l.length<=big by omega)];refine TD ⟨_,rfl,trivial⟩ ?_
    ·refine uj (A:=Unit) l[i].names.length (fun i _=>(i:Int)) _ (a0:=()) rfl (fun j a hj=> ?_) (fun a=> ?_)
     ·simp only[zO hj,Da,zN hj,Aa,zH hj (show l[i].names.length<=big by omega)];cases decide ((l[i].names[j].length:Int)>20)with
      |true=>exact⟨_,rfl,trivial⟩
      |false=>exact⟨_,rfl,(),rfl⟩
     ·simp only[zR,Ca];exact⟨_,rfl,_,rfl,(),rfl⟩
   ·simp only[zR,Ca];exact⟨_,rfl,_,rfl,trivial⟩
 obtain⟨r,hr,_⟩:=this;exact⟨r,hr⟩
mutual
def numR:zK->Nat
 |⟨_,_,_,_,_,l⟩=>1+Oe l
def Oe:List zK->Nat
 |[]=>0
 |r::l=>numR r+Oe l
end
theorem iJ(r:zK):numR r=1+Oe r.rules:=by obtain⟨⟩:=r;rw[numR]
theorem Yx(l:List zK):Oe l=(l.map numR).sum:=by
 induction l with
 |nil=>rw[Oe];rfl
 |cons c l ih=>rw[Oe,ih];rfl
theorem NT: ∀l:List zK,Oe l<=zL zF l:=by
 have key: ∀(n:Nat) (l:List zK),zL zF l<n->Oe l<=zL zF l:=by
  intro n
  induction n with
  |zero=>intro l h;omega
  |succ n ih=>
   intro l
   induction l with
   |nil=>intro _;rw[Oe];exact Sb _
   |cons v l ihl=> intro h;rw[rf]at h ⊢;rw[Oe,iJ];have hz:=ng v;have h1:=ih v.rules (by omega);have h2:=ihl (by omega);omega
 exact fun l=>key _ l (Nat.lt_succ_self _)
theorem zHr(l:List zK):Oe l=l.length+(l.map fun r=>Oe r.rules).sum:=by
 induction l with
 |nil=>rw[Oe];rfl
 |cons r l ih=>rw[Oe,ih,iJ,Ub,Wd,Db];omega
theorem JO{l:List zK}(h:zL zF l<=big):Qm l=some (Oe l:Int):=by
 refine Zx (fun l=>zL zF l) (fun l=>zL zF l<=big) (fun l=>(Oe l:Int)) (fun S l hl hS=> ?_) h;unfold YB;have hn:=NT l;have hlen:=Zy Ki l;rw[zHr]at hn ⊢;refine(Ul l (fun r=>Oe r.rules) l.length big (by omega) (fun i a hi ha=> ?_) (fun a=> ?_)).trans rfl
 ·have hm:=ZF (f:=zF) (Ga hi);have hz:=ng l[i];simp only[zO hi,Da,zN hi,za,Aa,zH hi (show l.length<=big by omega),hS l[i].rules (show zL zF l[i].rules<=big by omega) (show zL zF l[i].rules<zL zF l by omega),Wn ha]
 ·simp only[zR,Ca]
theorem wM{l:List zK}(h:zL zF l<=big): ∃r,Uk l=some r:=by obtain⟨q,hq⟩:=r9 (m:=30) h;unfold Uk;simp only[hq,JO h,za,Aa,zP];exact⟨_,rfl⟩
theorem iE {α A S X R:Type} {step:S->Option (LO S X R)} {k:X->Option R} (l:List α) (f:A->α->A) (st:A->Nat->S) (out:A->X) {s0:S} {a0:A} (h0:s0=st a0 0)
  (hg: ∀(i:Nat) (a:A) (h:i<l.length),step (st a i)=some (.again (st (f a l[i]) (i+1))))
  (hf: ∀a:A,step (st a l.length)=some (.out (out a))):zZ step s0 k=k (out (l.foldl f a0)):=by
 have key: ∀(m:List α) (i:Nat) (a:A),l.drop i=m->i<=l.length-> ∃n,qj step n (st a i)=some (.out (out (m.foldl f a))):=by
  intro m
  induction m with
  |nil=>
   intro i a hd hi;have:i=l.length:=by have:=Jc.1 hd;omega
   subst this;exact⟨1,by simp only[qj,hf,List.foldl_nil]⟩
  |cons v m ih=>
   intro i a hd hi;have hlt:i<l.length:=by
    rcases De i l.length with h|h
    ·exact h
    ·rw[List.drop_eq_nil_of_le h]at hd;cases hd
   have hv:l[i]=v:=by have:=Ua hlt;rw[hd]at this;injection this with h1 _;exact h1.symm
   have hs:=hg i a hlt;rw[hv]at hs;obtain⟨n,hn⟩:=ih (i+1) (f a v) (by rw[Ua hlt]at hd;injection hd) (by omega);refine⟨n+1,?_⟩;simp only[qj,hs];rw[hn,He]
 obtain⟨n,hn⟩:=key l 0 a0 rfl (by omega);rw[h0,Ph (Fh hn)];rfl
theorem sw{α:Type}(p:α->Bool): ∀(l:List α) (b:Bool),l.foldl (fun b v=>b||p v) b=(b||l.any p)
 |[],b=>by simp
 |v::l,b=>by rw[He,sw p l,Ue,Bool.or_assoc]
def Pn(x:zw):Bool:=(x.kind==9||x.kind==10)&&(!x.of_&&(x.anb.a==0&&x.anb.b==1))
def innS(x:zw):Bool:=x.kind==3||(decide (9<=x.kind)&& !Pn x)
mutual
def selL:List zf->Nat
 |[]=>0
 |⟨_,parts,_⟩::r=>max (selP parts) (selL r)
def selP:List zI->Nat
 |[]=>0
 |⟨_,simples⟩::r=>max (selI simples) (selP r)
def selI:List zw->Nat
 |[]=>0
 |⟨k,n,o,v,f,a,w,list⟩::r=>max (bif innS ⟨k,n,o,v,f,a,w,list⟩then 1+selL list else 0) (selI r)
end
def oneI(x:zw):Nat:=bif innS x then 1+selL x.list else 0
theorem dR(l:List zw):selI l=mx oneI l:=by
 induction l with
 |nil=>rw[selI];rfl
 |cons x l ih=>obtain⟨⟩:=x;rw[selI,ih];rfl
theorem vR(l:List zI):selP l=mx (fun x=>selI x.simples) l:=by
 induction l with
 |nil=>rw[selP];rfl
 |cons x l ih=>obtain⟨⟩:=x;rw[selP,ih];rfl
theorem aR(l:List zf):selL l=mx (fun x=>selP x.parts) l:=by
 induction l with
 |nil=>rw[selL];rfl
 |cons x l ih=>obtain⟨⟩:=x;rw[selL,ih];rfl
mutual
theorem iq: ∀l:List zf,selL l<=zL zm l
 |[]=>by rw[selL];exact Sb _
 |⟨a,parts,b⟩::r=>by rw[selL,rf,Qb];have:=uR parts;have:=iq r;show max (selP parts) (selL r)<=3+zL zU parts+b.length+_;omega
theorem uR: ∀l:List zI,selP l<=zL zU l
 |[]=>by rw[selP];exact Sb _
 |⟨a,simples⟩::r=>by rw[selP,rf,qE];have:=bR simples;have:=uR r;show max (selI simples) (selP r)<=2+a.length+zL z8 simples+_;omega
theorem bR: ∀l:List zw,selI l<=zL z8 l
 |[]=>by rw[selI];exact Sb _
 |⟨a,b,c,d,e,f,g,list⟩::r=>by rw[selI,rf,qZ];have:=iq list;have:=bR r;show max (bif innS ⟨a,b,c,d,e,f,g,list⟩then 1+selL list else 0) (selI r)<=9+b.length+d.length+zL zm list+_;cases innS ⟨a,b,c,d,e,f,g,list⟩<;>simp only[Da,Ca]<;>omega
end
theorem gT(x:zw):(bif bif bif x.kind==9 then true else x.kind==10 then !x.of_ else false then x.anb.a==0&&(x.anb.b==1&&true)else false)=Pn x:=by unfold Pn;cases x.kind==9<;>cases x.kind==10<;>cases x.of_<;>cases x.anb.a==0<;>cases x.anb.b==1<;>rfl
theorem rY(x:zw):sF x=some (Pn x):=congrArg some (gT x)
theorem zI5(x:zw):(bif x.kind==3 then true else bif decide (x.kind>=9)then !(bif bif bif x.kind==9 then true else x.kind==10 then !x.of_ else false then x.anb.a==0&&(x.anb.b==1&&true)else false)else false)=innS x:=by rw[gT];unfold innS;show(bif x.kind==3 then true else bif decide (9<=x.kind)then !Pn x else false)=_;cases x.kind==3<;>cases decide (9<=x.kind)<;>rfl
theorem zqB{l:List zf}(h:zL zm l<=big):qM l=some (selL l:Int):=by
 refine Zx (fun l=>zL zm l) (fun l=>zL zm l<=big) (fun l=>(selL l:Int)) (fun S l hl hS=> ?_) h;have hlen:=Zy qD l;unfold yB;refine(Ej l (fun x=>selP x.parts) (fun a i=>((a:Int),(i:Int))) (fun a=>(a:Int)) (a0:=0) rfl (fun i a hi=> ?_) (fun a=> ?_)).trans (by rw[aR,Nat.zero_max])
 ·have hm:=ZF (f:=zm) (Ga hi);have hz:=Qb l[i];have hlen2:=Zy Qk l[i].parts;simp only[zO hi,Da,zN hi,za,Aa,zH hi (show l.length<=big by omega)];refine(Ej l[i].parts (fun x=>selI x.simples) (fun a i=>((a:Int),(i:Int))) (fun a=>(a:Int)) (a0:=a) rfl (fun j b hj=> ?_) (fun a=> ?_)).trans (by rw[vR])
  ·have hm2:=ZF (f:=zU) (Ga hj);have hz2:=qE l[i].parts[j];have hlen3:=Zy Ti l[i].parts[j].simples;simp only[zO hj,Da,zN hj,Aa,zH hj (show l[i].parts.length<=big by omega)];refine(Ej l[i].parts[j].simples oneI (fun a i=>((a:Int),(i:Int))) (fun a=>(a:Int)) (a0:=b) rfl (fun n c hn=> ?_) (fun a=> ?_)).trans (by rw[dR])
   ·have hm3:=ZF (f:=z8) (Ga hn);have hz3:=qZ l[i].parts[j].simples[n];have hle:=iq l[i].parts[j].simples[n].list;simp only[zO hn,Da,zN hn,Aa,zH hn (show l[i].parts[j].simples.length<=big by omega)];have hs:=hS l[i].parts[j].simples[n].list (by show zL zm l[i].parts[j].simples[n].list<=big;omega) (by show zL zm l[i].parts[j].simples[n].list<zL zm l;omega);have hw:=ni (n:=selL l[i].parts[j].simples[n].list) (by omega);simp only[zI5,hs,Aa,hw];have hone:oneI l[i].parts[j].simples[n]=bif innS l[i].parts[j].simples[n]then 1+selL l[i].parts[j].simples[n].list else 0:=rfl;rw[hone];cases innS l[i].parts[j].simples[n]with
    |true=>simp only[Da,zX,yg,zH hn (show l[i].parts[j].simples.length<=big by omega)];rw[Ed 1]
    |false=>simp only[Ca,zX,Nat.max_zero,zH hn (show l[i].parts[j].simples.length<=big by omega)]
   ·simp only[zR,Ca]
  ·simp only[zR,Ca]
 ·simp only[zR,Ca]
theorem zqv{l:List zf}(h:zL zm l<=big):qK l=some (selL l:Int):=by
 refine Zx (fun l=>zL zm l) (fun l=>zL zm l<=big) (fun l=>(selL l:Int)) (fun S l hl hS=> ?_) h;have hlen:=Zy qD l;unfold BC;refine(Ej l (fun x=>selP x.parts) (fun a i=>((a:Int),(i:Int))) (fun a=>(a:Int)) (a0:=0) rfl (fun i a hi=> ?_) (fun a=> ?_)).trans (by rw[aR,Nat.zero_max])
 ·have hm:=ZF (f:=zm) (Ga hi);have hz:=Qb l[i];have hlen2:=Zy Qk l[i].parts;simp only[zO hi,Da,zN hi,za,Aa,zH hi (show l.length<=big by omega)];refine(Ej l[i].parts (fun x=>selI x.simples) (fun a i=>((a:Int),(i:Int))) (fun a=>(a:Int)) (a0:=a) rfl (fun j b hj=> ?_) (fun a=> ?_)).trans (by rw[vR])
  ·have hm2:=ZF (f:=zU) (Ga hj);have hz2:=qE l[i].parts[j];have hlen3:=Zy Ti l[i].parts[j].simples;simp only[zO hj,Da,zN hj,Aa,zH hj (show l[i].parts.length<=big by omega)];refine(Ej l[i].parts[j].simples oneI (fun a i=>((a:Int),(i:Int))) (fun a=>(a:Int)) (a0:=b) rfl (fun n c hn=> ?_) (fun a=> ?_)).trans (by rw[dR])
   ·have hm3:=ZF (f:=z8) (Ga hn);have hz3:=qZ l[i].parts[j].simples[n];have hle:=iq l[i].parts[j].simples[n].list;simp only[zO hn,Da,zN hn,Aa,zH hn (show l[i].parts[j].simples.length<=big by omega)];have hs:=hS l[i].parts[j].simples[n].list (by show zL zm l[i].parts[j].simples[n].list<=big;omega) (by show zL zm l[i].parts[j].simples[n].list<zL zm l;omega);have hw:=DK (n:=selL l[i].parts[j].simples[n].list) (by omega);have hinn:(bif l[i].parts[j].simples[n].kind==3 then true else bif decide ((bif !(l[i].parts[j].simples[n].kind==3)then l[i].parts[j].simples[n]else(default:zw)).kind>=9)then !(bif decide ((bif !(l[i].parts[j].simples[n].kind==3)then l[i].parts[j].simples[n]else(default:zw)).kind>=9)&& !(l[i].parts[j].simples[n].kind==3)then Pn (bif decide ((bif !(l[i].parts[j].simples[n].kind==3)then l[i].parts[j].simples[n]else(default:zw)).kind>=9)&& !(l[i].parts[j].simples[n].kind==3)then l[i].parts[j].simples[n]else(default:zw))else default)else false)=innS l[i].parts[j].simples[n]:=by
     unfold innS;cases hk:l[i].parts[j].simples[n].kind==3 with
     |true=>rfl
     |false=>
      simp only[Da,Ca,Ra,Rb,Oc];show(bif decide (9<=l[i].parts[j].simples[n].kind)then _ else _)=(decide (9<=l[i].parts[j].simples[n].kind)&&_);cases h9:decide (9<=l[i].parts[j].simples[n].kind)with
      |false=>rfl
      |true=> have h9':decide (l[i].parts[j].simples[n].kind>=9)=true:=h9;simp only[h9',Da,Sa]
    simp only[zP,Aa,Ut,rY,hinn,hs,hw];have hone:oneI l[i].parts[j].simples[n]=bif innS l[i].parts[j].simples[n]then 1+selL l[i].parts[j].simples[n].list else 0:=rfl;rw[hone];cases innS l[i].parts[j].simples[n]with
    |true=>simp only[Da,zX,yg,zH hn (show l[i].parts[j].simples.length<=big by omega)];rw[Ed 1]
    |false=>simp only[Ca,zX,Nat.max_zero,zH hn (show l[i].parts[j].simples.length<=big by omega)]
   ·simp only[zR,Ca]
  ·simp only[zR,Ca]
 ·simp only[zR,Ca]
mutual
def askB:zo->Bool
 |⟨k,_,_,_,l⟩=>(k==5||k==6)||Jv l
def Jv:List zo->Bool
 |[]=>false
 |c::r=>askB c||Jv r
end
theorem Xr(c:zo):askB c=((c.kind==5||c.kind==6)||c.list.any askB):=by
 have: ∀l:List zo,Jv l=l.any askB:=by
  intro l
  induction l with
  |nil=>rw[Jv];rfl
  |cons c l ih=>rw[Jv,ih];rfl
 obtain⟨k,n,m,d,l⟩:=c;rw[askB,this]
def bN(b:Bool):Int:=bif b then 1 else 0
theorem iY{c:zo}(h:zG (zD c)<=big):Sj c=some (bN (askB c)):=by
 refine Zx (fun c=>zG (zD c)) (fun c=>zG (zD c)<=big) (fun c=>bN (askB c)) (fun S c hc hS=> ?_) h;have hlen:=qB c;have hj: ∀{R:Type} (k:Int->Option R),zW (X:=Int) (bif bif c.kind==5 then true else c.kind==6 then some (LX.out 1)else some (LX.out 0)) k=k (bN (c.kind==5||c.kind==6)):=by intro R k;cases c.kind==5<;>cases c.kind==6<;>rfl
 unfold rA;rw[hj];refine(iE c.list (fun b y=>b||askB y) (fun b i=>(bN b,(i:Int))) bN (a0:=(c.kind==5||c.kind==6)) rfl (fun i b hi=> ?_) (fun b=> ?_)).trans (by rw[sw,<-Xr])
 ·have hm:=qA (Ga hi);simp only[zO hi,Da,zN hi,za,Aa,ZA,hS c.list[i] (show zG (zD c.list[i])<=big by omega) hm,zH hi (show c.list.length<=big by omega)];cases b<;>cases askB c.list[i]<;>rfl
 ·simp only[zR,Ca]
def unw(c:zo):zo:=match c.list with
 |[y]=>bif c.kind==3 then y else c
 |_=>c
def askR(c:zo):Bool:=c.list.any fun y=>(unw y).list.any fun z=>z.kind != 4
theorem zMg(c:zo)(R:Type)(a:Int)(k:Int×zo->Option R):zW (X:=Int×zo) (
       bif bif c.kind==3 then(c.list.length:Int)==1 else false then
        (geti c.list 0).bind fun y4=>
        some (LX.out (a,y4))
       else
        some (LX.out (a,c))) k=k (a,unw c):=by
 unfold unw;cases hl:c.list with
 |nil=>cases c.kind==3<;>rfl
 |cons y r=>
  cases r with
  |nil=>cases c.kind==3<;>rfl
  |cons z r=>rw[lJ];cases c.kind==3<;>rfl
theorem zLl{c:zo}(h:zG (zD c)<=big):(unw c).list.length<=big:=by
 have:=qB c;unfold unw;split
 ·rename_i y hl;have:=qA (c:=c) (y:=y) (by rw[hl];exact Lb);have:=qB y;cases c.kind==3<;>simp only[Da,Ca]<;>omega
 ·omega
theorem zHM{l:List zo}(hl:l.length<=big)(h: ∀c∈l,zG (zD c)<=big):zZ (fun(s2:Int×Int)=>
    bif decide (s2.2<(l.length:Int))then
     (geti l s2.2).bind fun y3=>
     zW (X:=Int×zo) (
       bif bif y3.kind==3 then(y3.list.length:Int)==1 else false then
        (geti y3.list 0).bind fun y4=>
        some (LX.out (s2.1,y4))
       else
        some (LX.out (s2.1,y3))) fun j5=>
     zZ (fun(s6:Int×Int)=>
       bif decide (s6.2<(j5.2.list.length:Int))then
        zW (X:=Int×Int) (
          (geti j5.2.list s6.2).bind fun y7=>
          bif y7.kind != 4 then
           some (LX.out (1,s6.2))
          else
           some (LX.out (s6.1,s6.2))) fun j8=>
        some (LO.again (j8.1,w64 (j8.2+1)))
       else
        some (LO.out s6.1):Int×Int->Option (LO (Int×Int) (Int) _)) (j5.1,0) fun o9=>
     some (LO.again (o9,w64 (s2.2+1)))
    else
     some (LO.out s2.1):Int×Int->Option (LO (Int×Int) (Int) _)) (0,0) (fun o10=>some o10)=some (bN (l.any fun y=>(unw y).list.any fun z=>z.kind != 4)):=by
 refine(iE l (fun b y=>b||(unw y).list.any fun z=>z.kind != 4) (fun b i=>(bN b,(i:Int))) bN (a0:=false) rfl (fun i b hi=> ?_) (fun b=> ?_)).trans (by rw[sw,Oc])
 ·have hb:=h _ (Ga hi);have hul:=zLl hb;simp only[zO hi,Da,zN hi,Aa,zH hi hl];rw[zMg];refine(iE (unw l[i]).list (fun b (z:zo)=>b||z.kind != 4) (fun b i=>(bN b,(i:Int))) bN (a0:=b) rfl (fun j d hj=> ?_) (fun b=> ?_)).trans (by rw[sw])
  ·simp only[zO hj,Da,zN hj,Aa];cases (unw l[i]).list[j].kind != 4 with
   |true=>simp only[Da,zX,zH hj hul,Bool.or_true];rfl
   |false=>simp only[Ca,zX,zH hj hul,Xc]
  ·simp only[zR,Ca]
 ·simp only[zR,Ca]
theorem xE{α:Type}{p q:α->Bool}: ∀{l:List α},(∀v∈l,p v=q v)->l.any p=l.any q
 |[],_=>rfl
 |x::l,h=>by rw[Ue,Ue,h x Lb,xE fun v hv=>h v (Nb _ hv)]
theorem zJa{b:Bool}{y:zo}(h:vg b y=true):askB y=(y.kind != 4):=by
 unfold vg at h;rw[Fa]at h;have hl:y.list=[]:=Md.1 h.1;rw[Xr,hl,List.any_nil,Xc,bne];have h2:=h.2;rw[Fa]at h2;have h3:=h2.2;simp only[Td,Fa,Cc]at h3;rcases h3 with⟨_,h4,_⟩|⟨h5|h6,_⟩
 ·rw[h4];rfl
 ·rw[h5];rfl
 ·rw[h6];rfl
theorem zFw{l:List zo}(h:Mr l=true): ∀y∈l,askB y=(y.kind != 4):=by intro y hy;obtain⟨i,hi,rfl⟩:=List.mem_iff_getElem.1 hy;unfold Mr at h;have:=Ib.1 h i (by simpa using hi);simp only[List.getD_eq_getElem?_getD,La hi,Option.getD_some]at this;exact zJa this
theorem NU{c:zo}(h:lh c=true):askB c=c.list.any fun z=>z.kind != 4:=by unfold lh at h;simp only[Fa,Cc]at h;rw[Xr,h.1];show((false||false)||_)=_;rw[xe,Oc];exact xE (zFw h.2.2.2)
theorem zIs{c:zo}(h:Og c=true):askB c=(unw c).list.any fun z=>z.kind != 4:=by
 unfold Og at h;unfold unw;cases h3:c.kind==3 with
 |false=>
  rw[h3,Ca]at h;have:=NU h;split
  ·rw[Ca];exact this
  ·exact this
 |true=>
  rw[h3,Da,Fa]at h;have h2:=h.2;split at h2
  ·rename_i y hl;simp only[hl,Da];rw[Fa]at h2;rw[Xr,Cc.1 h3,hl,Ue,List.any_nil,Xc,NU h2.1];rfl
  ·cases h2
theorem zFC{c:zo}(h:si c=true):askB c=askR c:=by
 unfold si at h;rw[Fa,Td,Fa,Fa,Fa,Fa,Cc,Cc]at h;unfold askR;rw[Xr];rcases h.2 with⟨h1,h2⟩|⟨h1,h2⟩
 ·rw[h1,Md.1 h2];rfl
 ·rw[h1];show((false||false)||_)=_;rw[xe,Oc];exact xE fun y hy=>zIs (Ib.1 h2.2.2 y hy)
def Sq(r:zK):Bool:=r.selectors.isEmpty&&r.decls.isEmpty
def Nq(r:zK):Bool:=
 bif r.kind==1 then(selS r.selectors==0)&&(decide (r.decls.length<=32)&&(uf r.cond&&(r.names.isEmpty&&(r.rules.isEmpty&&r.decls.all Ve))))
 else bif r.kind==2 then Sq r&&(r.names.isEmpty&&si r.cond)
 else bif r.kind==3 then Sq r&&(r.names.isEmpty&&Ik r.cond)
 else bif r.kind==4 then Sq r&&(decide (r.names.length<=1)&&uf r.cond)
 else bif r.kind==5 then Sq r&&(!r.names.isEmpty&&(decide (r.names.length<=64)&&(r.rules.isEmpty&&uf r.cond)))
 else false
mutual
def qh:zK->Bool
 |⟨k,s,d,c,n,l⟩=>Nq ⟨k,s,d,c,n,l⟩&&(n.all jf&&gq l)
def gq:List zK->Bool
 |[]=>true
 |r::l=>qh r&&gq l
end
theorem zD8(l:List zK):gq l=l.all qh:=by
 induction l with
 |nil=>rw[gq];rfl
 |cons c l ih=>rw[gq,ih];rfl
theorem YE(r:zK):qh r=(Nq r&&(r.names.all jf&&r.rules.all qh)):=by obtain⟨k,s,d,c,n,l⟩:=r;rw[qh,zD8]
def Ui(r:zK):Nat:=bif r.kind==3 then ae r.cond else bif r.kind==2 then(bif askB r.cond then 1 else 0)else 0
mutual
def Xe:zK->Nat
 |⟨k,s,d,c,n,l⟩=>bif k==5 then 0 else max (1+max (Yv l) (mx (fun d=>QL d.value) d)) (max (selL s) (Ui ⟨k,s,d,c,n,l⟩))
def Yv:List zK->Nat
 |[]=>0
 |r::l=>max (Xe r) (Yv l)
end
theorem zGA(l:List zK):Yv l=mx Xe l:=by
 induction l with
 |nil=>rw[Yv];rfl
 |cons c l ih=>rw[Yv,ih];rfl
theorem TE(r:zK):Xe r=bif r.kind==5 then 0 else max (1+max (mx Xe r.rules) (mx (fun d=>QL d.value) r.decls)) (max (selL r.selectors) (Ui r)):=by obtain⟨k,s,d,c,n,l⟩:=r;rw[Xe,zGA]
theorem mx_z{α:Type}{f:α->Nat}{g:α->List PV}: ∀{l:List α},(∀v∈l,f v<=zG (g v))->mx f l<=zL g l
 |[],_=>Sb _
 |v::l,h=>by rw[mx,rf];have:=h v Lb;have:=mx_z (l:=l) (f:=f) (g:=g) fun w hw=>h w (Nb _ hw);omega
theorem oF(l:List Zd):mx (fun d=>QL d.value) l<=zL Zu l:=
 mx_z fun d _=>by have:=Ij d.value;have:=Mh d.value;have:=Qg d;omega
theorem zIG(r:zK):Ui r<=1+zG (zD r.cond):=by have:=uw r.cond;unfold Ui;cases r.kind==3<;>cases r.kind==2<;>cases askB r.cond<;>simp only[Da,Ca]<;>omega
theorem PU{r y:zK}(h:y∈r.rules):zG (zF y)<zG (zF r):=by have hz:=ng r;have:=ZF (f:=zF) h;omega
theorem zIP: ∀r:zK,Xe r<=zG (zF r):=by
 have key: ∀(n:Nat) (r:zK),zG (zF r)<n->Xe r<=zG (zF r):=by
  intro n
  induction n with
  |zero=>intro c h;omega
  |succ n ih=> intro r h;have hz:=ng r;have h1:mx Xe r.rules<=zL zF r.rules:=mx_z fun y hy=>ih y (by have:=PU hy;omega);have h2:=oF r.decls;have h3:=iq r.selectors;have h4:=zIG r;rw[TE];cases r.kind==5<;>simp only[Da,Ca]<;>omega
 exact fun c=>key _ c (Nat.lt_succ_self _)
theorem JK(l:List zK):mx Xe l<=zL zF l:=mx_z fun y _=>zIP y
theorem Ns(r:zK):(⟨r.kind,r.selectors,r.decls,r.cond,r.names,r.rules⟩:zK)=r:=by cases r;rfl
theorem yC {α R:Type} {step:Int->Option (LO Int Unit R)} {k:Unit->Option R} (l:List α) (p:α->Bool) (r:R)
  (hg: ∀(i:Nat) (h:i<l.length),step (i:Int)=some (bif p l[i]then .again ((i+1:Nat):Int)else .ret r))
  (hf:step (l.length:Int)=some (.out ())):zZ step 0 k=bif l.all p then k ()else some r:=by
 refine(ZZ l (fun v=>bif p v then none else some r) () (fun i hi=> ?_) hf).trans ?_
 ·rw[hg i hi];cases p l[i]<;>rfl
 ·rw[Q9];cases l.all p<;>rfl
theorem KS{α:Type}(l:List α):decide ((l.length:Int)>0)= !l.isEmpty:=yj l
theorem wQ{α:Type}(l:List α):decide ((l.length:Int)>1)= !decide (l.length<=1):=Df _ 1
theorem Y3{r:zK}(h:zG (zF r)<=big):QT r=some (qh r):=by
 refine Zx (fun r=>zG (zF r)) (fun r=>zG (zF r)<=big) (fun r=>qh r) (fun S r hr hS=> ?_) h;have hz:=ng r;have hcp:=Lx r.cond;have hlr:=Zy Ki r.rules;have hld:=Zy Rh r.decls;obtain⟨hn1,hn2⟩:=Wv r.names;have e32:decide ((r.decls.length:Int)>32)= !decide (r.decls.length<=32):=Df _ 32;have e64:decide ((r.names.length:Int)>64)= !decide (r.names.length<=64):=Df _ 64;unfold XB;have hrules: ∀R:Type,∀f:R,zZ (fun(s16:Int)=>
   bif decide (s16<(r.rules.length:Int))then
    (geti r.rules s16).bind fun y17=>
    (S y17).bind fun y18=>
    bif !y18 then
     some (LO.ret false)
    else
     some (LO.again (w64 (s16+1)))
   else
    some (LO.out ()):Int->Option (LO (Int) (Unit) _)) 0 (fun _=>some true)=some (r.rules.all qh):=by
  intro R f;refine(yC r.rules qh false (fun i hi=> ?_) ?_).trans ?_
  ·have hm:=PU (Ga hi);simp only[zO hi,Da,zN hi,Aa,hS r.rules[i] (show zG (zF r.rules[i])<=big by omega) hm,zH hi (show r.rules.length<=big by omega)];cases qh r.rules[i]<;>rfl
  ·simp only[zR,Ca]
  ·cases r.rules.all qh<;>rfl
 have hnames: ∀b:Bool,zZ (fun(s12:Int)=>
   bif decide (s12<(r.names.length:Int))then
    (geti r.names s12).bind fun y13=>
    (Yp y13).bind fun y14=>
    bif !y14 then
     some (LO.ret false)
    else
     some (LO.again (w64 (s12+1)))
   else
    some (LO.out ()):Int->Option (LO (Int) (Unit) _)) 0 (fun _=>some b)=some (r.names.all jf&&b):=by
  intro b;refine(yC r.names jf false (fun i hi=> ?_) ?_).trans ?_
  ·obtain⟨g1,g2⟩:=hn2 _ (Ga hi);have hp:Yp r.names[i]=some (jf r.names[i]):=vK (by omega) (fun v hv=>by have:=g2 v hv;omega);simp only[zO hi,Da,zN hi,Aa,hp,zH hi (show r.names.length<=big by omega)];cases jf r.names[i]<;>rfl
  ·simp only[zR,Ca]
  ·cases r.names.all jf<;>rfl
 simp only[za,Ns,ZA,hrules Unit (),hnames,pX (show zL zm r.selectors<=big by omega),uU,J4 (show zG (zD r.cond)<=big by omega),zn0 (show zG (zD r.cond)<=big by omega),
  zP,Aa,ZE,KS,wQ,ut,e32,e64,bne]
 rw[YE];unfold Nq Sq;by_cases k1:r.kind=1
 ·simp only[k1,Int.reduceBEq,Da];have hdecl:zZ (fun(s3:Int)=>
       bif decide (s3<(r.decls.length:Int))then
        (geti r.decls s3).bind fun y4=>
        (yl y4).bind fun y5=>
        bif !(y5==0)then
         some (LO.ret (LX.ret false))
        else
         some (LO.again (w64 (s3+1)))
       else
        some (LO.out ()):Int->Option (LO (Int) (Unit) (LX Unit Bool))) 0 (fun _=>some (LX.ret true))=some (LX.ret (r.decls.all Ve)):=by
   refine(yC r.decls Ve (LX.ret false) (fun i hi=> ?_) ?_).trans ?_
   ·have hm:=ZF (f:=Zu) (Ga hi);simp only[zO hi,Da,zN hi,Aa,KO (show zG (Zu r.decls[i])<=big by omega),zH hi (show r.decls.length<=big by omega)];cases Ve r.decls[i]<;>rfl
   ·simp only[zR,Ca]
   ·cases r.decls.all Ve<;>rfl
  rw[hdecl];cases selS r.selectors==0 with
  |false=>rfl
  |true=>
   cases decide (r.decls.length<=32)with
   |false=>rfl
   |true=>
    cases uf r.cond with
    |false=>rfl
    |true=>
     cases hn:r.names with
     |cons a l=>rfl
     |nil=>
      cases hl:r.rules with
      |cons a l=>rfl
      |nil=> simp only[List.isEmpty_nil,List.all_nil,Rb,Sa,Ta,Ra,Da,Ca];cases r.decls.all Ve<;>rfl
 have b1:=Ea.2 k1;simp only[b1,Ca];clear hrules hnames;by_cases k2:r.kind=2
 ·simp only[k2,Int.reduceBEq,Da];cases r.selectors.isEmpty<;>cases r.decls.isEmpty<;>cases r.names.isEmpty<;>cases si r.cond<;>rfl
 have b2:=Ea.2 k2;simp only[b2,Ca];by_cases k3:r.kind=3
 ·simp only[k3,Int.reduceBEq,Da];cases r.selectors.isEmpty<;>cases r.decls.isEmpty<;>cases r.names.isEmpty<;>cases Ik r.cond<;>rfl
 have b3:=Ea.2 k3;simp only[b3,Ca];by_cases k4:r.kind=4
 ·simp only[k4,Int.reduceBEq,Da];cases r.selectors.isEmpty<;>cases r.decls.isEmpty<;>cases decide (r.names.length<=1)<;>cases uf r.cond<;>rfl
 have b4:=Ea.2 k4;simp only[b4,Ca];by_cases k5:r.kind=5
 ·simp only[k5,Int.reduceBEq,Da];cases r.selectors.isEmpty<;>cases r.decls.isEmpty<;>cases r.names.isEmpty<;>cases decide (r.names.length<=64)<;>cases r.rules.isEmpty<;>cases uf r.cond<;>rfl
 have b5:=Ea.2 k5;simp only[b5,Ca];rfl
theorem yT{c:zo}(h:uf c=true):c.list=[]:=by unfold uf at h;rw[Fa,Fa]at h;exact Md.1 h.2.1
theorem uZ{r:zK}(h:zG (zF r)<=big)(hs:Nq r=true)(h5:(r.kind==5)=false):YC r=some (Ui r:Int):=by
 have hz:=ng r;have hb:zG (zD r.cond)<=big:=by omega
 have hlen:=qB r.cond;unfold YC Ui;cases h3:r.kind==3 with
 |true=>simp only[Da,ZA,LM hb,za,Aa]
 |false=>
  have:=zHM (l:=r.cond.list) (by omega) (fun y hy=>by have:=qA hy;omega);simp only[Ca,za,ZA];refine Eq.trans this ?_;have hr:(r.cond.list.any fun y=>(unw y).list.any fun z=>z.kind != 4)=(bif r.kind==2 then askB r.cond else false):=by
   unfold Nq at hs;rw[h3,h5]at hs;by_cases k1:r.kind=1
   ·rw[k1]at hs ⊢;simp only[Int.reduceBEq,Da,Fa]at hs;rw[yT hs.2.2.1];rfl
   have b1:=Ea.2 k1;rw[b1]at hs;cases h2:r.kind==2 with
   |true=> rw[h2]at hs;simp only[Da,Ca,Fa]at hs;rw[Da,zFC hs.2.2];rfl
   |false=>
    rw[h2]at hs;cases h4:r.kind==4 with
    |true=> rw[h4]at hs;simp only[Da,Ca,Fa]at hs;rw[yT hs.2.2];rfl
    |false=> rw[h4]at hs;cases hs
  rw[hr];cases r.kind==2 with
  |true=>cases askB r.cond<;>rfl
  |false=>rfl
theorem zAm{l:List zK}(h:zL zF l<=big)(hs:l.all qh=true):Kj l=some (mx Xe l:Int):=by
 refine Zx (fun l=>zL zF l) (fun l=>zL zF l<=big/\l.all qh=true) (fun l=>(mx Xe l:Int)) (fun S l hl hS=> ?_) ⟨h,hs⟩;obtain⟨hl,hs⟩:=hl;have hlen:=Zy Ki l;unfold Xz;refine(Ej l Xe (fun a i=>((a:Int),(i:Int))) (fun a=>(a:Int)) (a0:=0) rfl (fun i a hi=> ?_) (fun a=> ?_)).trans (by rw[Nat.zero_max])
 ·have hm:=ZF (f:=zF) (Ga hi);have hz:=ng l[i];have hld:=Zy Rh l[i].decls;have hsh:=Ib.1 hs _ (Ga hi);have hd:=TE l[i];rw[YE,Fa,Fa]at hsh;simp only[zO hi,Da,zN hi,za,Aa];cases h5:l[i].kind==5 with
  |true=> rw[h5,Da]at hd;simp only[Da,zX,zH hi (show l.length<=big by omega),hd,Nat.max_zero]
  |false=>
   rw[h5,Ca]at hd;have hrd:=JK l[i].rules;have hdd:=oF l[i].decls;rw[hS l[i].rules ⟨show zL zF l[i].rules<=big by omega,hsh.2.2⟩ (show zL zF l[i].rules<zL zF l by omega)];simp only[Ca,Aa];have hdecl: ∀(R:Type) (k:Int->Option R),zZ (fun(s5:Int×Int)=>
         bif decide (s5.2<(l[i].decls.length:Int))then
          (geti l[i].decls s5.2).bind fun y8=>
          (qV y8.value).bind fun y9=>
          some (LO.again (if y9>s5.1 then y9 else s5.1,w64 (s5.2+1)))
         else
          some (LO.out s5.1):Int×Int->Option (LO (Int×Int) (Int) _)) ((mx Xe l[i].rules:Int),0) k=k ((max (mx Xe l[i].rules) (mx (fun d=>QL d.value) l[i].decls):Nat):Int):=by
    intro R k;refine Ej l[i].decls (fun d=>QL d.value) (fun a i=>((a:Int),(i:Int))) (fun a=>(a:Int)) (a0:=mx Xe l[i].rules) rfl (fun j b hj=> ?_) (fun b=> ?_)
    ·have hm2:=ZF (f:=Zu) (Ga hj);have hz2:=Qg l[i].decls[j];have hv:=Mh l[i].decls[j].value;simp only[zO hj,Da,zN hj,Aa,jw (show szL l[i].decls[j].value<=big by omega),zH hj (show l[i].decls.length<=big by omega),yg]
    ·simp only[zR,Ca]
   rw[hdecl];have hw:w64 (1+((max (mx Xe l[i].rules) (mx (fun d=>QL d.value) l[i].decls):Nat):Int))=((1+max (mx Xe l[i].rules) (mx (fun d=>QL d.value) l[i].decls):Nat):Int):=by rw[DK (by omega),Ed]
   simp only[ZA,Ns,zqv (show zL zm l[i].selectors<=big by omega),uZ (show zG (zF l[i])<=big by omega) hsh.1 h5,Aa,zX,hw,yg,zH hi (show l.length<=big by omega)];rw[hd];have:max (max (max a (1+max (mx Xe l[i].rules) (mx (fun d=>QL d.value) l[i].decls))) (selL l[i].selectors)) (Ui l[i])=max a (max (1+max (mx Xe l[i].rules) (mx (fun d=>QL d.value) l[i].decls)) (max (selL l[i].selectors) (Ui l[i]))):=by omega
   rw[this]
 ·simp only[zR,Ca]
def df(l:List zK):Bool:=decide (Oe l<=64)&&(l.all qh&&decide (mx Xe l<=16))
theorem lY{l:List zK}(h:zL zF l<=big):Cz l=some (df l):=by
 have hlen:=Zy Ki l;have e64:decide ((Oe l:Int)>64)= !decide (Oe l<=64):=Df _ 64;unfold Cz df;simp only[JO h,za,Aa,e64];cases decide (Oe l<=64)with
 |false=>rfl
 |true=>
  simp only[Ta,Ca,Sa];refine(yC l qh false (fun i hi=> ?_) ?_).trans ?_
  ·have hm:=ZF (f:=zF) (Ga hi);simp only[zO hi,Da,zN hi,Aa,ZA,Ns,Y3 (show zG (zF l[i])<=big by omega),zH hi (show l.length<=big by omega)];cases qh l[i]<;>rfl
  ·simp only[zR,Ca]
  ·cases hs:l.all qh with
   |false=>rfl
   |true=> have e16:decide ((mx Xe l:Int)<=16)=decide (mx Xe l<=16):=gm _ 16;simp only[Da,zAm h hs,Aa,e16,Sa]
theorem xM{s:ZI}(h:zL zF s.rules<=big):Dp s=some (bif df s.rules then 0 else 8):=by unfold Dp;simp only[lY h,za,Aa];cases df s.rules<;>rfl
theorem zJf {A S X R:Type} {step:S->Option (LO S X R)} (n:Nat) (st:Nat->A->S) (Inv:Nat->A->Prop) (Q:X->Prop) {s0:S} {a0:A} (h0:s0=st 0 a0) (hI:Inv 0 a0)
  (hg: ∀(i:Nat) (a:A),i<n->Inv i a-> ∃a',step (st i a)=some (.again (st (i+1) a'))/\Inv (i+1) a')
  (hf: ∀a,Inv n a-> ∃x,step (st n a)=some (.out x)/\Q x): ∃x,pg step s0=some (.out x)/\Q x:=by
 have key: ∀(m i:Nat) (a:A),i+m=n->Inv i a-> ∃j x,qj step j (st i a)=some (.out x)/\Q x:=by
  intro m
  induction m with
  |zero=>
   intro i a hi ha;obtain rfl:i=n:=by omega
   obtain⟨x,h1,h2⟩:=hf a ha;exact⟨1,x,by simp only[qj,h1],h2⟩
  |succ m ih=> intro i a hi ha;obtain⟨a',h1,h2⟩:=hg i a (by omega) ha;obtain⟨j,x,g1,g2⟩:=ih (i+1) a' (by omega) h2;exact⟨j+1,x,by simp only[qj,h1];exact g1,g2⟩
 obtain⟨j,x,h1,h2⟩:=key n 0 a0 (by omega) hI;exact⟨x,by rw[h0];exact Fh h1,h2⟩
theorem zFk{R:Type}{l:List Zd}(h:zL Zu l<=big)(b0:Bool)(f0:zq):
  ∃x:Bool×zq,pg (fun(s8:(Bool×Int)×zq)=>
         bif decide (s8.1.2<(l.length:Int))then
          (geti l s8.1.2).bind fun y9=>
          (Nk y9.value).bind fun y10=>
          (zA (!(bif s8.1.1 then true else !(y10.2==0))) (Pk y9) (default:Int)).bind fun y11=>
          some (LO.again ((bif bif s8.1.1 then true else !(y10.2==0)then true else !(y11==0),w64 (s8.1.2+1)),(⟨s8.2.rules,if y10.1>s8.2.depth then y10.1 else s8.2.depth,s8.2.bad⟩:zq)))
         else
          some (LO.out (s8.1.1,s8.2)):(Bool×Int)×zq->Option (LO ((Bool×Int)×zq) (Bool×zq) R)) ((b0,0),f0)=some (.out x)/\
   x.1=(b0|| !l.all Ve)/\x.2.rules=f0.rules/\ ∀n:Nat,f0.depth=(n:Int)->l.all Ve=true->x.2.depth=((max n (mx (fun d=>QL d.value) l):Nat):Int):=by
 have hlen:=Zy Rh l;refine zJf (A:=Bool×zq) l.length (fun i a=>((a.1,(i:Int)),a.2)) (fun i a=>a.1=(b0|| !(l.take i).all Ve)/\a.2.rules=f0.rules/\ ∀n:Nat,f0.depth=(n:Int)->(l.take i).all Ve=true->a.2.depth=((max n (mx (fun d=>QL d.value) (l.take i)):Nat):Int)) _ (a0:=(b0,f0)) rfl
  ⟨by simp,rfl,fun n hn _=>by simp[mx,hn]⟩ (fun i a hi hI=> ?_) (fun a hI=> ?_)
 ·obtain⟨i1,i2,i3⟩:=hI;have hm:=ZF (f:=Zu) (Ga hi);have hz:=Qg l[i];have hv:=Mh l[i].value;have hde:Ve l[i]=(Ve l[i]&&(errS l[i].value==0)):=by unfold Ve;cases Gh l[i].name<;>cases errS l[i].value==0<;>simp
  simp only[zO hi,Da,zN hi,Aa,YF (show szL l[i].value<=big by omega),UN (show zG (Zu l[i])<=big by omega),zP,zH hi (show l.length<=big by omega)];refine⟨(_,_),rfl,?_,i2,fun n hn hall=> ?_⟩
  ·rw[Ro Ve hi,i1];simp only;by_cases he:errS l[i].value=0
   ·rw[Ya he];cases b0<;>cases (l.take i).all Ve<;>cases Ve l[i]<;>rfl
   ·rw[ja he];have he':=Ea.2 he;rw[he',Bc]at hde;simp only[he',hde];cases b0<;>cases (l.take i).all Ve<;>rfl
  ·rw[Ro Ve hi,Fa]at hall;have hd:=i3 n hn hall.1;rw[hall.2,Sa]at hde;have he:errS l[i].value=0:=by rw[<-Cc,<-hde]
   rw[Sr _ hi];simp only[Ya he,hd,yg];rw[Nat.max_assoc]
 ·rw[Ke]at hI;exact⟨(a.1,a.2),by simp only[zR,Ca],hI⟩
theorem zIO {R:Type} {l:List Zd} (h:zL Zu l<=big) {b0:Bool} {f0:zq} {k:Bool×zq->Option R} (G:Option R->Prop)
  (hk: ∀x:Bool×zq,x.1=(b0|| !l.all Ve)->x.2.rules=f0.rules->(∀n:Nat,f0.depth=(n:Int)->l.all Ve=true->x.2.depth=((max n (mx (fun d=>QL d.value) l):Nat):Int))->G (k x)):
  G (zZ (fun(s8:(Bool×Int)×zq)=>
         bif decide (s8.1.2<(l.length:Int))then
          (geti l s8.1.2).bind fun y9=>
          (Nk y9.value).bind fun y10=>
          (zA (!(bif s8.1.1 then true else !(y10.2==0))) (Pk y9) (default:Int)).bind fun y11=>
          some (LO.again ((bif bif s8.1.1 then true else !(y10.2==0)then true else !(y11==0),w64 (s8.1.2+1)),(⟨s8.2.rules,if y10.1>s8.2.depth then y10.1 else s8.2.depth,s8.2.bad⟩:zq)))
         else
          some (LO.out (s8.1.1,s8.2)):(Bool×Int)×zq->Option (LO ((Bool×Int)×zq) (Bool×zq) R)) ((b0,0),f0) k):=by
 obtain⟨x,hx,h1,h2,h3⟩:=zFk (R:=R) h b0 f0;rw[CU hx];exact hk x h1 h2 h3
theorem zI6{X R:Type}{m:Option (LX X R)}{k:X->Option R}(G:Option R->Prop)(P:X->Prop)(h: ∃o,m=some (.out o)/\P o)(hk: ∀o,P o->G (k o)):G (zW m k):=by obtain⟨o,rfl,ho⟩:=h;exact hk o ho
theorem zJx(a b:Nat)(h:a+b<=big):decide (w64 ((a:Int)+(b:Int))>0)= !(decide (a=0)&&decide (b=0)):=by
 rw[Wn h];cases a with
 |zero=>cases b with
  |zero=>rfl
  |succ b=>exact Ma (by omega)
 |succ a=> rw[Ma (by omega),Na (show¬(a+1=0) by omega)];rfl
theorem EU{α β:Type}(l:List α)(m:List β)(h:l.length+m.length<=big):decide (w64 ((l.length:Int)+(m.length:Int))>0)= !(l.isEmpty&&m.isEmpty):=by rw[zJx _ _ h];cases l<;>cases m<;>simp
theorem zFE{l:List (List Str)}(hl:l.length<=big)(h: ∀n∈l,n.length<=big):qH l=some (!l.all jf):=by
 unfold qH NI;refine Fj (Gi l (fun c=> !jf c) hl (fun i hi=> ?_) ?_) ((Ii _ _).trans (Jo _ _))
 ·have:KA l[i]=some (!jf l[i]):=by unfold KA;simp only[gK (h _ (Ga hi)),za,Aa]
  simp only[zO hi,Da,zN hi,za,Aa,this]
 ·simp only[zR,Ca]
def DR(l:List zK)(y:zq):Prop:=y.rules=(Oe l:Int)/\y.bad= !(l.all qh)/\(l.all qh=true->y.depth=(mx Xe l:Int))
theorem zFF{l:List zK}{i:Nat}(hi:i<l.length):Oe (l.take (i+1))=Oe (l.take i)+numR l[i]:=by rw[Yx,Yx,Jk numR hi]
theorem dV(l:List zK)(i:Nat):Oe (l.take i)<=Oe l:=by rw[Yx,Yx];exact Du numR l i
theorem eY{l:List zK}(h:zL zF l<=big): ∃y,Ni l=some y/\DR l y:=by
 refine Ck M5 (fun l=>zL zF l) (fun l=>zL zF l<=big) DR (fun S l hl hS=> ?_) h;have hlen:=Zy Ki l;have hnl:=NT l;unfold Xp;refine Ls (A:=zq) l.length (fun i a=>((i:Int),a)) (fun i a=>a.rules=(Oe (l.take i):Int)/\a.bad= !((l.take i).all qh)/\((l.take i).all qh=true->a.depth=(mx Xe (l.take i):Int))) _ (a0:=⟨0,0,false⟩) rfl
  ⟨by simp[Oe],by simp,fun _=>by simp[mx]⟩ (fun i a hi hI=> .inl ?_) (fun a hI=> .inl ?_)
 ·obtain⟨i1,i2,i3⟩:=hI;have hm:=ZF (f:=zF) (Ga hi);have ht:=zFF hi;have ht2:=dV l (i+1);have hnr:=iJ l[i];have hz:=ng l[i];have hcp:=Lx l[i].cond;have hls:=Zy qD l[i].selectors;have hld:=Zy Rh l[i].decls;have hlr:=Zy Ki l[i].rules;have hrd:=JK l[i].rules;obtain⟨hn1,hn2⟩:=Wv l[i].names;obtain⟨f,hf1,hf2,hf3,hf4⟩:=hS l[i].rules (by omega) (by omega);have hnames:=zFE (l:=l[i].names) (by omega) (fun n hn=>by have:=(hn2 n hn).1;omega);obtain⟨told,htold1,htold2⟩:=fK (c:=l[i].cond) (by omega);have e32:decide ((l[i].decls.length:Int)>32)= !decide (l[i].decls.length<=32):=Df _ 32;have e64:decide ((l[i].names.length:Int)>64)= !decide (l[i].names.length<=64):=Df _ 64;have hsh:=YE l[i];have hde:=TE l[i];have hw1:w64 (f.rules+1)=((numR l[i]:Nat):Int):=by rw[hf2,hnr,ni (by omega),Ed]
  have hw2:w64 (a.rules+((numR l[i]:Nat):Int))=((Oe (l.take (i+1)):Nat):Int):=by rw[i1,Wn (by omega),ht]
  -- what is to be shown of a round
  have fin: ∀(o:(Int×Bool)×zq×zq),o.2.1=⟨((Oe (l.take (i+1)):Nat):Int),a.depth,a.bad⟩->o.1.2= !(qh l[i])->(qh l[i]=true-> ∃e n:Nat,o.1.1=(e:Int)/\w64 (o.2.2.depth+1)=(n:Int)/\max n e=Xe l[i])->
    ∃a':zq,(some (LO.again (w64 ((i:Int)+1),(⟨o.2.1.rules,if o.1.1>(if w64 (o.2.2.depth+1)>o.2.1.depth then w64 (o.2.2.depth+1)else o.2.1.depth)then o.1.1 else if w64 (o.2.2.depth+1)>o.2.1.depth then w64 (o.2.2.depth+1)else o.2.1.depth,bif o.2.1.bad then true else o.1.2⟩:zq))):Option (LO (Int×zq) zq zq))=some (.again (((i+1:Nat):Int),a'))/\
     (a'.rules=(Oe (l.take (i+1)):Int)/\a'.bad= !((l.take (i+1)).all qh)/\((l.take (i+1)).all qh=true->a'.depth=(mx Xe (l.take (i+1)):Int))):=by
   intro o ho1 ho2 ho3;rw[zH hi (show l.length<=big by omega)];refine⟨_,rfl,?_,?_,fun hall=> ?_⟩
   ·simp only[ho1]
   ·simp only[ho1];rw[Ro qh hi,i2,ho2];cases (l.take i).all qh<;>cases qh l[i]<;>rfl
   ·rw[Ro qh hi,Fa]at hall;obtain⟨e,n,h1,h2,h3⟩:=ho3 hall.2;have hd:=i3 hall.1;simp only[ho1];rw[Sr _ hi,h1,h2,hd,yg,yg,<-h3,Nat.max_assoc]
  simp only[zO hi,Da,zN hi,za,Aa,hf1,hnames];refine zI6 (fun(q:Option (LO (Int×zq) zq zq))=> ∃a':zq,q=some (LO.again (((i+1:Nat):Int),a'))/\(a'.rules=(Oe (l.take (i+1)):Int)/\a'.bad= !((l.take (i+1)).all qh)/\((l.take (i+1)).all qh=true->a'.depth=(mx Xe (l.take (i+1)):Int))))
   (fun o=>o.2.1=⟨((Oe (l.take (i+1)):Nat):Int),a.depth,a.bad⟩/\o.1.2= !(qh l[i])/\(qh l[i]=true-> ∃e n:Nat,o.1.1=(e:Int)/\w64 (o.2.2.depth+1)=(n:Int)/\max n e=Xe l[i])) ?_ (fun o ho=>fin o ho.1 ho.2.1 ho.2.2)
  simp only[ZA,iK,zqB (show zL zm l[i].selectors<=big by omega),p9 (show zL zm l[i].selectors<=big by omega),Aa,
   iY (show zG (zD l[i].cond)<=big by omega),zoq (show zG (zD l[i].cond)<=big by omega),zk5 (show zG (zD l[i].cond)<=big by omega),htold1,zP,e32,e64,hw1,hw2,hf3,
   EU l[i].selectors l[i].decls (by omega),EU l[i].names l[i].rules (by omega),KS,wQ,ut,bne]
  unfold Nq Sq at hsh;unfold Ui at hde
  -- the depth of the rules in it
  have hdeep:l[i].rules.all qh=true->w64 (f.depth+1)=((mx Xe l[i].rules+1:Nat):Int):=fun ha=>by rw[hf4 ha,ni (by omega)]
  have hnone:l[i].selectors.isEmpty=true->l[i].decls.isEmpty=true->selL l[i].selectors=0/\mx (fun d=>QL d.value) l[i].decls=0:=fun h1 h2=>by rw[Md.1 h1,Md.1 h2];exact⟨by rw[selL],rfl⟩
  by_cases k1:l[i].kind=1
  ·simp only[k1,Int.reduceBEq,Da,Ca]at hsh hde ⊢;refine zIO (l:=l[i].decls) (by omega) (fun(q:Option (LX ((Int×Bool)×zq×zq) (LO (Int×zq) zq zq)))=> ∃o,q=some (LX.out o)/\(o.2.1=⟨((Oe (l.take (i+1)):Nat):Int),a.depth,a.bad⟩/\o.1.2= !(qh l[i])/\(qh l[i]=true-> ∃e n:Nat,o.1.1=(e:Int)/\w64 (o.2.2.depth+1)=(n:Int)/\max n e=Xe l[i]))) (fun x h1 h2 h3=>⟨_,rfl,rfl,?_,fun hok=> ?_⟩)
   ·simp only[h1,hsh];cases l[i].rules.all qh<;>cases l[i].names.all jf<;>simp only[Ta,Ra,Da,Ca]<;>cases selS l[i].selectors==0<;>cases decide (l[i].decls.length<=32)<;>cases uf l[i].cond<;>cases l[i].names.isEmpty<;>cases l[i].rules.isEmpty<;>cases l[i].decls.all Ve<;>rfl
   ·rw[hok]at hsh;have hsh:=hsh.symm;simp only[Fa]at hsh;have hdl:=oF l[i].decls;refine⟨selL l[i].selectors,max (mx Xe l[i].rules) (mx (fun d=>QL d.value) l[i].decls)+1,rfl,?_,by rw[hde];omega⟩;simp only[h3 _ (hf4 hsh.2.2) hsh.1.2.2.2.2.2];rw[ni (by omega)]
  have b1:=Ea.2 k1;rw[b1]at hsh ⊢;simp only[Ca]at hsh ⊢;by_cases k2:l[i].kind=2
  ·simp only[k2,Int.reduceBEq,Da,Ca]at hsh hde ⊢;refine⟨_,rfl,rfl,?_,fun hok=> ?_⟩
   ·simp only[hsh];cases l[i].rules.all qh<;>cases l[i].names.all jf<;>cases l[i].selectors.isEmpty<;>cases l[i].decls.isEmpty<;>cases l[i].names.isEmpty<;>cases si l[i].cond<;>rfl
   ·rw[hok]at hsh;have hsh:=hsh.symm;simp only[Fa]at hsh;obtain⟨g1,g2⟩:=hnone hsh.1.1.1 hsh.1.1.2;refine⟨bif askB l[i].cond then 1 else 0,_,?_,hdeep hsh.2.2,by rw[hde,g1,g2];cases askB l[i].cond<;>simp only[Da,Ca]<;>omega⟩;cases askB l[i].cond<;>rfl
  have b2:=Ea.2 k2;rw[b2]at hsh hde ⊢;simp only[Ca]at hsh hde ⊢;by_cases k3:l[i].kind=3
  ·simp only[k3,Int.reduceBEq,Da,Ca]at hsh hde ⊢;refine⟨_,rfl,rfl,?_,fun hok=> ?_⟩
   ·simp only[hsh];cases l[i].rules.all qh<;>cases l[i].names.all jf<;>cases l[i].selectors.isEmpty<;>cases l[i].decls.isEmpty<;>cases l[i].names.isEmpty<;>cases Ik l[i].cond<;>rfl
   ·rw[hok]at hsh;have hsh:=hsh.symm;simp only[Fa]at hsh;obtain⟨g1,g2⟩:=hnone hsh.1.1.1 hsh.1.1.2;have hsup:supC l[i].cond=true:=by have:=hsh.1.2.2;unfold Ik at this;rw[Fa]at this;exact this.1
    refine⟨ae l[i].cond,_,htold2 hsup,hdeep hsh.2.2,by rw[hde,g1,g2];omega⟩
  have b3:=Ea.2 k3;rw[b3]at hsh hde ⊢;simp only[Ca]at hsh hde ⊢;by_cases k4:l[i].kind=4
  ·simp only[k4,Int.reduceBEq,Da,Ca]at hsh hde ⊢;refine⟨_,rfl,rfl,?_,fun hok=> ?_⟩
   ·simp only[hsh];cases l[i].rules.all qh<;>cases l[i].names.all jf<;>cases l[i].selectors.isEmpty<;>cases l[i].decls.isEmpty<;>cases decide (l[i].names.length<=1)<;>cases uf l[i].cond<;>rfl
   ·rw[hok]at hsh;have hsh:=hsh.symm;simp only[Fa]at hsh;obtain⟨g1,g2⟩:=hnone hsh.1.1.1 hsh.1.1.2;exact⟨0,_,rfl,hdeep hsh.2.2,by rw[hde,g1,g2];omega⟩
  have b4:=Ea.2 k4;rw[b4]at hsh ⊢;simp only[Ca]at hsh ⊢;by_cases k5:l[i].kind=5
  ·simp only[k5,Int.reduceBEq,Da,Ca]at hsh hde ⊢;refine⟨_,rfl,rfl,?_,fun hok=> ?_⟩
   ·simp only[hsh];have hn1:decide ((l[i].names.length:Int)<1)=l[i].names.isEmpty:=ut _;cases l[i].rules.all qh<;>cases l[i].names.all jf<;>cases l[i].selectors.isEmpty<;>cases l[i].decls.isEmpty<;>cases l[i].names.isEmpty<;>cases decide (l[i].names.length<=64)<;>cases l[i].rules.isEmpty<;>cases uf l[i].cond<;>rfl
   ·exact⟨0,0,rfl,rfl,by rw[hde];rfl⟩
  have b5:=Ea.2 k5;rw[b5]at hsh ⊢;simp only[Ca]at hsh ⊢;refine⟨_,rfl,rfl,by simp only[hsh];rfl,fun hok=> ?_⟩;rw[hok]at hsh;cases hsh
 ·rw[Ke]at hI;exact⟨a,by simp only[zR,Ca],a,rfl,hI⟩
theorem gY{l:List zK}(h:zL zF l<=big):Tz l=some (bif df l then 0 else 8):=by
 obtain⟨y,h1,h2,h3,h4⟩:=eY h;have e64:decide ((Oe l:Int)>64)= !decide (Oe l<=64):=Df _ 64;have e16:decide ((mx Xe l:Int)>16)= !decide (mx Xe l<=16):=Df _ 16;unfold Tz df;simp only[h1,za,Aa,h2,h3,e64];cases hs:l.all qh with
 |false=>cases decide (Oe l<=64)<;>rfl
 |true=> rw[h4 hs,e16];cases decide (Oe l<=64)<;>cases decide (mx Xe l<=16)<;>rfl
theorem xh{X R:Type}{step:Int->Option (LO Int X R)}{k:X->Option R}(n:Nat)(x:X)(h: ∀i,i<n->step (i:Int)=some (.again ((i+1:Nat):Int)))(hf:step (n:Int)=some (.out x)):zZ step 0 k=k x:=by
 refine(Dk (List.replicate n ()) (fun i (_:Unit)=>(i:Int)) (fun v (_:Unit)=>some (.again ())) (fun _=>some (.out x)) (a:=()) rfl (fun i a hi=> ?_) (fun a=> ?_) (r:= .out x) ?_)
 ·rw[h i (by simpa using hi)];rfl
 ·rw[List.length_replicate,hf];rfl
 ·rw[Lj (fun a v=>a) (fun v a=>rfl)]
theorem zKW{α R:Type}{step:Int×List α->Option (LO (Int×List α) (List α) R)}{k:List α->Option R}(l:List α)(h: ∀i,i<l.length->step ((i:Int),l)=some (.again (((i+1:Nat):Int),l)))(hf:step ((l.length:Int),l)=some (.out l)):
  zZ step (0,l) k=k l:=by
 refine(Dk l (fun i (_:Unit)=>((i:Int),l)) (fun v (_:Unit)=>some (.again ())) (fun _=>some (.out l)) (a:=()) rfl (fun i a hi=> ?_) (fun a=> ?_) (r:= .out l) ?_)
 ·rw[h i hi];rfl
 ·rw[hf];rfl
 ·rw[Lj (fun a v=>a) (fun v a=>rfl)]
theorem zJ7{R:Type}(x:Option R):both x x=x:=by unfold both;rw[Ya rfl]
theorem SE{α:Type}(l:List α)(n:Nat)(h:(0+l.length)*n<=140737488355328):(bif l.isEmpty then both (some []) (need (Zo 0 l.length n)<|some l)else need (Zo 0 l.length n)<|some l)=some l:=by
 rw[Dj h];cases l with
 |nil=>exact zJ7 _
 |cons v r=>rfl
theorem set_self{α:Type}(l:List α)(i:Nat)(h:i<l.length)(y:α)(hy:y=l[i]):l.set i y=l:=by subst hy;exact List.set_getElem_self h
theorem nn(i:Nat):decide ((0:Int)<=(i:Int))=true:=Ma (by omega)
theorem zKs(v:ze):(⟨v.token,v.list⟩:ze)=v:=by cases v;rfl
theorem MS(v:Zd):(⟨v.name,v.value,v.important⟩:Zd)=v:=by cases v;rfl
theorem zKq(v:zf):(⟨v.lead,v.parts,v.combs⟩:zf)=v:=by cases v;rfl
theorem zKp(v:zI):(⟨v.tag,v.simples⟩:zI)=v:=by cases v;rfl
theorem zKr(v:zw):(⟨v.kind,v.name,v.op,v.value,v.fold,v.anb,v.of_,v.list⟩:zw)=v:=by cases v;rfl
theorem zMl{a:List ze}(h:szL a<=big):Pi (a,a)=some true:=by
 refine Zx (fun x:List ze×List ze=>szL x.1) (fun x=>szL x.1<=big/\x.1=x.2) (fun x=>true) (fun S x hl hS=> ?_) (show szL (a,a).1<=big/\(a,a).1=(a,a).2 from⟨h,rfl⟩);obtain⟨l,l'⟩:=x;obtain⟨hl,he⟩:=hl;simp only at hl hS he;subst he;unfold Lu;have hlen:=Xg l;have hne:((l.length:Int) != (l.length:Int))=false:=by simp
 simp only[hne,Ca];refine xh l.length () (fun i hi=> ?_) ?_
 ·have hsz:=Oh (Ga hi);have hv2:=Ah l[i];have hs1:szL l[i].list<=big:=by omega
  have hs2:szL l[i].list<szL l:=by omega
  have hSq:S (l[i].list,l[i].list)=some true:=hS (l[i].list,l[i].list) ⟨hs1,rfl⟩ hs2;simp[hi,zN hi,hSq,zH hi (by omega)]
 ·simp only[zR,Ca]
theorem nQ{d:Zd}(h:zL Zp d.value<=big):Vk (d,d)=some true:=by unfold Vk;have:=Mh d.value;have e1:(d.name==d.name)=true:=Ic _;have e2:(d.important==d.important)=true:=Ic _;simp only[e1,e2,Da,Zm,zMl (show szL d.value<=big by omega),za,Aa]
theorem zMm{l:List Zd}(h:zL Zu l<=big):Xt (l,l)=some true:=by
 unfold Xt;have hlen:=Zy Rh l;have hne:((l.length:Int) != (l.length:Int))=false:=by simp
 simp only[hne,Ca];refine xh l.length () (fun i hi=> ?_) ?_
 ·have hsz:=ZF (f:=Zu) (Ga hi);have hv2:=Qg l[i];have h1:Vk (l[i],l[i])=some true:=nQ (by omega);simp[hi,zN hi,h1,zH hi (by omega)]
 ·simp only[zR,Ca]
theorem zL9{c:zo}(h:zG (zD c)<=big):QJ (c,c)=some true:=by
 refine Zx (fun x:zo×zo=>zG (zD x.1)) (fun x=>zG (zD x.1)<=big/\x.1=x.2) (fun x=>true) (fun S x hl hS=> ?_) (show zG (zD (c,c).1)<=big/\(c,c).1=(c,c).2 from⟨h,rfl⟩);obtain⟨c,c'⟩:=x;obtain⟨hl,he⟩:=hl;simp only at hl hS he;subst he;unfold Ju;have hlen:=qB c;have hd:=Wt c;rw[Qg]at hd;have e1:(c.kind != c.kind)=false:=by simp
 have e2:(c.name==c.name)=true:=Ic _;have e3:(c.num != c.num)=false:=by simp
 have e4:((c.list.length:Int) != (c.list.length:Int))=false:=by simp
 simp only[e1,e2,e3,e4,Ca,Ta,Ra,Zm,nQ (show zL Zp c.decl.value<=big by omega),za,Aa];refine xh c.list.length () (fun i hi=> ?_) ?_
 ·have hsz:=qA (Ga hi);have hSq:S (c.list[i],c.list[i])=some true:=hS (c.list[i],c.list[i]) ⟨by show zG (zD c.list[i])<=big;omega,rfl⟩ hsz;simp[hi,zN hi,hSq,zH hi (by omega),ZA]
 ·simp only[zR,Ca]
theorem zMn{l:List zf}(h:zL zm l<=big):ZG (l,l)=some true:=by
 refine Zx (fun x:List zf×List zf=>zL zm x.1) (fun x=>zL zm x.1<=big/\x.1=x.2) (fun x=>true) (fun S x hl hS=> ?_) (show zL zm (l,l).1<=big/\(l,l).1=(l,l).2 from⟨h,rfl⟩);obtain⟨l,l'⟩:=x;obtain⟨hl,he⟩:=hl;simp only at hl hS he;subst he;unfold bz;have hlen:=Zy qD l;have hne:((l.length:Int) != (l.length:Int))=false:=by simp
 simp only[hne,Ca];have hsimp: ∀q:List zw,zL z8 q<zL zm l->iC S (q,q)=some true:=by
  intro q hq;unfold iC;have hq1:=Zy Ti q;have hne:((q.length:Int) != (q.length:Int))=false:=by simp
  simp only[hne,Ca];refine xh q.length () (fun i hi=> ?_) ?_
  ·have hsz:=ZF (f:=z8) (Ga hi);have hv2:=qZ q[i];have h1:S (q[i].list,q[i].list)=some true:=hS (q[i].list,q[i].list) ⟨by show zL zm q[i].list<=big;omega,rfl⟩ (by show zL zm q[i].list<_;omega);simp only[Ma (show(i:Int)<(q.length:Int) by omega),Da,zN hi,za,Aa,Np,Ic,Bool.and_self,Ta,Ra,Zm,h1,Ca,zH hi (by omega)]
  ·simp only[zR,Ca]
 refine xh l.length () (fun i hi=> ?_) ?_
 ·have hsz:=ZF (f:=zm) (Ga hi);have hv2:=Qb l[i];have hlp:=Zy Qk l[i].parts;have h1:Gz S (l[i],l[i])=some true:=by
   unfold Gz;have e1:(l[i].lead != l[i].lead)=false:=by simp
   have e2:((l[i].parts.length:Int) != (l[i].parts.length:Int))=false:=by simp
   have e3:(l[i].combs==l[i].combs)=true:=Ic _;simp only[e1,e2,e3,Ca,Ta];refine xh l[i].parts.length () (fun j hj=> ?_) ?_
   ·have hsz2:=ZF (f:=zU) (Ga hj);have hv3:=qE l[i].parts[j];have h1:=hsimp l[i].parts[j].simples (by omega);simp[hj,zN hj,h1,zH hj (by omega),za]
   ·simp only[zR,Ca]
  have eta:(⟨l[i].lead,l[i].parts,l[i].combs⟩:zf)=l[i]:=by cases l[i];rfl
  simp[hi,zN hi,eta,h1,zH hi (by omega),za]
 ·simp only[zR,Ca]
theorem zMo{l:List (List Str)}(hl:l.length<=big)(h: ∀n∈l,n.length<=big):bu (l,l)=some true:=by
 unfold bu;have hne:((l.length:Int) != (l.length:Int))=false:=by simp
 simp only[hne,Ca];refine xh l.length () (fun i hi=> ?_) ?_
 ·have h2:=h l[i] (Ga hi);have hne:((l[i].length:Int) != (l[i].length:Int))=false:=by simp
  simp only[Ma (show(i:Int)<(l.length:Int) by omega),Da,zN hi,za,Aa,hne,Ca];refine(xh l[i].length () (fun j hj=> ?_) ?_).trans ?_
  ·simp[hj,zN hj,zH hj h2]
  ·simp only[zR,Ca]
  ·rw[zH hi hl]
 ·simp only[zR,Ca]
theorem Jj{α R:Type}{step:Int×List α->Option (LO (Int×List α) (List α) R)}{k:List α->Option R}(l:List α)(h: ∀i (hi:i<l.length),step ((i:Int),l.take i)=some (.again (((i+1:Nat):Int),l.take i++[l[i]])))(hf:step ((l.length:Int),l)=some (.out l)):
  zZ step (0,[]) k=k l:=by
 refine(Dk l (fun i (_:Unit)=>((i:Int),l.take i)) (fun v (_:Unit)=>some (.again ())) (fun _=>some (.out l)) (a:=()) rfl (fun i a hi=> ?_) (fun a=> ?_) (r:= .out l) ?_)
 ·rw[h i hi,<-List.take_succ_eq_append_getElem hi];rfl
 ·rw[Ke,hf];rfl
 ·rw[Lj (fun a v=>a) (fun v a=>rfl)]
theorem Cj{α:Type}{l:List α}{i n:Nat}(hi:i<l.length)(h:l.length*n<=140737488355328):Zo (l.take i).length 1 n=true:=
 Dj (Kb (Cb _ (by rw[Bd];omega)) h)
theorem CO{l:List ze}(h:szL l<=big):ZC l=some l:=by
 refine Zx (fun l=>szL l) (fun l=>szL l<=big) (fun l=>l) (fun S l hl hS=> ?_) h;unfold tC;have hlen:=Xg l;refine Jj l (fun i hi=> ?_) ?_
 ·have hsz:=Oh (Ga hi);have hv2:=Ah l[i];have h1:S l[i].list=some l[i].list:=hS l[i].list (by omega) (by omega);simp only[zO hi,Da,zN hi,za,Aa,h1,Cj hi (show l.length*80<=140737488355328 by unfold big at hl;omega),Z8,zH hi (show l.length<=big by omega),zKs]
 ·simp only[zR,Ca]
theorem VY{l:List Zd}(h:zL Zu l<=big):au l=some l:=by
 unfold au;have hlen:=Zy Rh l;refine Jj l (fun i hi=> ?_) ?_
 ·have hsz:=ZF (f:=Zu) (Ga hi);have hv2:=Qg l[i];have hs:=Mh l[i].value;have h1:ZC l[i].value=some l[i].value:=CO (by omega);simp only[zO hi,Da,zN hi,za,Aa,h1,Cj hi (show l.length*48<=140737488355328 by unfold big at h;omega),Z8,zH hi (show l.length<=big by omega),MS]
 ·simp only[zR,Ca]
theorem zAK{c:zo}(h:zG (zD c)<=big):qo c=some c:=by
 refine Zx (fun c=>zG (zD c)) (fun c=>zG (zD c)<=big) (fun l=>l) (fun S c hl hS=> ?_) h;unfold xB;have hlen:=qB c;have hd:=Wt c;rw[Qg]at hd;have hs:=Mh c.decl.value;have h0:ZC c.decl.value=some c.decl.value:=CO (by omega);simp only[za,h0,Aa];refine(Jj c.list (fun i hi=> ?_) ?_).trans (congrArg some (by rw[MS,ZA]))
 ·have hsz:=qA (Ga hi);have h1:S c.list[i]=some c.list[i]:=hS c.list[i] (by omega) hsz;simp only[zO hi,Da,zN hi,Aa,ZA,h1,Cj hi (show c.list.length*104<=140737488355328 by unfold big at hl;omega),Z8,zH hi (show c.list.length<=big by omega)]
 ·simp only[zR,Ca]
theorem zpD{l:List zf}(h:zL zm l<=big):Zz l=some l:=by
 refine Zx (fun l=>zL zm l) (fun l=>zL zm l<=big) (fun l=>l) (fun S l hl hS=> ?_) h;unfold QW;have hlen:=Zy qD l;refine Jj l (fun i hi=> ?_) ?_
 ·have hsz:=ZF (f:=zm) (Ga hi);have hv2:=Qb l[i];have hlp:=Zy Qk l[i].parts;have hmm:gH l[i].combs=some l[i].combs:=SE l[i].combs 1 (by unfold big at hl;omega);simp only[zO hi,Da,zN hi,za,Aa,hmm];refine(Jj l[i].parts (fun j hj=> ?_) ?_).trans ?_
  ·have hsz2:=ZF (f:=zU) (Ga hj);have hv3:=qE l[i].parts[j];have hls:=Zy Ti l[i].parts[j].simples;have hcs:sH l[i].parts[j].simples=some l[i].parts[j].simples:=SE l[i].parts[j].simples 104 (by unfold big at hl;omega);simp only[zO hj,Da,zN hj,Aa,hcs];refine(zKW l[i].parts[j].simples (fun m hm=> ?_) ?_).trans ?_
   ·have hsz3:=ZF (f:=z8) (Ga hm);have hv4:=qZ l[i].parts[j].simples[m];have h1:S l[i].parts[j].simples[m].list=some l[i].parts[j].simples[m].list:=hS _ (by omega) (by omega);simp only[zO hm,Da,nn,Bool.and_self,Z8,La hm,Aa,h1,ic,zH hm (show l[i].parts[j].simples.length<=big by omega)];rw[set_self _ m hm _ (zKr _)]
   ·simp only[zR,Ca]
   ·rw[Cj hj (show l[i].parts.length*40<=140737488355328 by unfold big at hl;omega),Z8,zH hj (show l[i].parts.length<=big by omega),zKp]
  ·simp only[zR,Ca]
  ·rw[Cj hi (show l.length*56<=140737488355328 by unfold big at hl;omega),Z8,zH hi (show l.length<=big by omega),zKq]
 ·simp only[zR,Ca]
theorem nG{l:List zK}(h:zL zF l<=big):ZW l=some l:=by
 refine Zx (fun l=>zL zF l) (fun l=>zL zF l<=big) (fun l=>l) (fun S l hl hS=> ?_) h;unfold XC;have hlen:=Zy Ki l;refine Jj l (fun i hi=> ?_) ?_
 ·have hsz:=ZF (f:=zF) (Ga hi);have hv2:=ng l[i];have hn:=Wv l[i].names;have h1:Zz l[i].selectors=some l[i].selectors:=zpD (by omega);have h2:au l[i].decls=some l[i].decls:=VY (by omega);have h3:qo l[i].cond=some l[i].cond:=zAK (by omega);have h4:S l[i].rules=some l[i].rules:=hS _ (by omega) (by omega);have hnl:l[i].names.length<=big:=by omega
  simp only[zO hi,Da,zN hi,za,Aa,ZA,h1,h2,h3];refine(Jj l[i].names (fun j hj=> ?_) ?_).trans ?_
  ·have h5:=(hn.2 _ (Ga hj)).1;have hc:slices_Clone_string l[i].names[j]=some l[i].names[j]:=SE l[i].names[j] 16 (by unfold big at hl;omega);simp only[zO hj,Da,zN hj,Aa,hc,Cj hj (show l[i].names.length*24<=140737488355328 by unfold big at hnl;omega),Z8,zH hj hnl]
  ·simp only[zR,Ca]
  ·simp only[h4,Aa,Cj hi (show l.length*208<=140737488355328 by unfold big at hl;omega),Z8,zH hi (show l.length<=big by omega),ZA,Ns]
 ·simp only[zR,Ca]
theorem zMa{S:List zK×List zK->Option Bool}{r:zK}(h:zG (zF r)<=big)(hS:S (r.rules,r.rules)=some true):Dz S (r,r)=some true:=by unfold Dz;have hv2:=ng r;have hn:=Wv r.names;have e1:(r.kind==r.kind)=true:=Ic _;have g1:ZG (r.selectors,r.selectors)=some true:=zMn (by omega);have g2:Xt (r.decls,r.decls)=some true:=zMm (by omega);have g3:QJ (r.cond,r.cond)=some true:=zL9 (by omega);have g4:bu (r.names,r.names)=some true:=zMo (by omega) (fun n hm=>by have:=(hn.2 n hm).1;omega);simp only[e1,Zm,g1,za,Aa,Da,g2,ZA,g3,g4,hS]
theorem zLg{l:List zK}(h:zL zF l<=big):qJ (l,l)=some true:=by
 refine Zx (fun x:List zK×List zK=>zL zF x.1) (fun x=>zL zF x.1<=big/\x.1=x.2) (fun x=>true) (fun S x hl hS=> ?_) (show zL zF (l,l).1<=big/\(l,l).1=(l,l).2 from⟨h,rfl⟩);obtain⟨l,l'⟩:=x;obtain⟨hl,he⟩:=hl;simp only at hl hS he;subst he;unfold LA;have hlen:=Zy Ki l;have hne:((l.length:Int) != (l.length:Int))=false:=by simp
 simp only[hne,Ca];refine xh l.length () (fun i hi=> ?_) ?_
 ·have hm:=ZF (f:=zF) (Ga hi);have hv:=ng l[i];have g:=zMa (S:=S) (r:=l[i]) (by omega) (hS (l[i].rules,l[i].rules) ⟨by show zL zF l[i].rules<=big;omega,rfl⟩ (by show zL zF l[i].rules<zL zF l;omega));simp only[Ma (show(i:Int)<(l.length:Int) by omega),Da,zN hi,za,Aa,ZA,Ns,g,Ta,Ca,zH hi (show l.length<=big by omega)]
 ·simp only[zR,Ca]
theorem UU{l:List zK}(h:zL zF l<=big):ol ⟨l⟩=some (bif df l then 0 else 8):=by unfold ol;simp only[gY h,za,Aa]
theorem zK7{a n:Int}(h: ¬(0<=a/\a<n)):(bif decide (a<0)then true else decide (a>=n))=true:=by
 by_cases h0:a<0
 ·rw[Ma h0];rfl
 ·rw[Na h0,Ca];exact Ma (by omega)
end Go.Lv.VT
