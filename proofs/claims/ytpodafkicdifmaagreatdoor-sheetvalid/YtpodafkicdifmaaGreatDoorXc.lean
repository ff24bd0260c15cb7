/- Selectors: the reference's checks, whole; how many there are. -/
import Derived.Test.YtpodafkicdifmaaGreatDoorXb
import Derived.Test.YtpodafkicdifmaaGreatDoorXa
import Derived.Test.YtpodafkicdifmaaGreatDoorMo
import Derived.KernelRfl
set_option linter.unusedSimpArgs false
set_option linter.unusedVariables false
namespace Go.Lv.VT
section
variable {S:zm×Zo×Bool->Option Bool} {N:Nat} (hS: ∀z,okR z->zt (zh z.1)<N->S z=some (fR z)) (hN:N<=big)
include hS hN
theorem Y0{c:zO}(hx:zt (z8 c)<=N){d:Nat}(hd:d<=3)(h:Bool):Xz S (c,⟨(d:Int),h⟩)=some (Qp c d h):=by
 have hz:=Qu c;have hlen:=ZZ Ap c.simples;have e64:decide ((c.simples.length:Int)>64)= !decide (c.simples.length<=64):=Xg _ 64;rw[LK];unfold Xz UA tagS;have hl:zU (fun(s2:Int)=>
    bif decide (s2<(c.simples.length:Int))then
     za (geti c.simples s2) fun y3=>
     za (Iz S ((⟨y3.kind,y3.name,y3.op,y3.value,y3.fold,y3.anb,y3.of_,y3.list⟩:zI),⟨(d:Int),h⟩)) fun y4=>
     bif !y4 then
      some (LO.ret false)
     else
      some (LO.again (w64 (s2+1)))
    else
     some (LO.out ())) 0 (fun _=>some true)=some (c.simples.all fun x=>Oi x d h):=by
  refine(qc c.simples (fun x=>bif Oi x d h then none else some false) () (fun i hi=> ?_) ?_).trans ?_
  ·have hm:=qV (f:=zW) (Ja hi);simp only[Zb hi,Ca,zN hi,za,Aa,Qb,zDy hS hN (show zt (zW c.simples[i])<=N by omega) hd h,zK hi (show c.simples.length<=big by omega)];cases Oi c.simples[i] d h<;>rfl
  ·simp only[Ze,Ba]
  ·rw[Ci];cases c.simples.all fun x=>Oi x d h<;>rfl
 simp only[BK (show c.tag.length<=big by omega),zQ,za,Aa,e64,ZH]at hl ⊢;rw[hl];cases c.tag==[]<;>cases c.tag==[42]<;>cases Ll c.tag<;>cases decide (c.simples.length<=64)<;>cases c.simples.isEmpty<;>rfl
end
theorem zJ4{α β:Type}(p:α->Bool)(q:β->Bool): ∀(l:List α) (m:List β),m.length+1=l.length->
  ((∀i (h:i<l.length),p l[i]=true/\(∀(h':i - 1<m.length),0<i->q m[i - 1]=true))↔(l.all p=true/\m.all q=true)):=by
 intro l m hlm;simp only[Rb];constructor
 ·intro hh;refine⟨fun v hv=> ?_,fun v hv=> ?_⟩
  ·obtain⟨i,hi,rfl⟩:=Gf hv;exact(hh i hi).1
  ·obtain⟨i,hi,rfl⟩:=Gf hv;exact(hh (i+1) (by omega)).2 (by omega) (by omega)
 ·rintro⟨h1,h2⟩ i hi;exact⟨h1 _ (Ja hi),fun h' _=>h2 _ (Ja h')⟩
theorem zGv{c:zm}{d:Nat}{h b:Bool}(hc:zt (zh c)<=big)(hd:d<=3):Zv (c,⟨(d:Int),h⟩,b)=some (Dg c d h b):=by
 refine ZP (fun z=>zt (zh z.1)) okR fR (fun S z hz hS=> ?_) (x:=(c,⟨(d:Int),h⟩,b)) ⟨hc,d,hd,rfl⟩;obtain⟨c,⟨dp,h⟩,b⟩:=z;obtain⟨hc,d,hd,he⟩:=hz;have he:dp=(d:Int):=he;subst he;have hc:zt (zh c)<=big:=hc;have hzc:=Sk c;have hlen:=ZZ Jn c.parts;show _=some (Dg c ((d:Int).toNat) h b);rw[Ib,jI];unfold fF Bj;have e1:decide (c.lead>4)= !decide (c.lead<=4):=by
  by_cases hh:c.lead<=4
  ·rw[Ga hh,Ua (by omega)];rfl
  ·rw[Ua hh,Ga (by omega)];rfl
 have e3:decide ((c.parts.length:Int)>64)= !decide (c.parts.length<=64):=Xg _ 64;have e4:((c.lead != 0)==b)=(b==(c.lead != 0)):=by cases b<;>cases (c.lead != 0)<;>rfl
 simp only[e1,e3,e4,ZH,Cf];cases hp:c.parts with
 |nil=>simp
 |cons p ps=>
  rw[<-hp];have hne:c.parts.isEmpty=false:=by rw[hp];rfl
  have hpos:0<c.parts.length:=by rw[hp];simp
  have e2:((c.combs.length:Int) != w64 ((c.parts.length:Int) - 1))= !decide (c.combs.length+1=c.parts.length):=by
   have:w64 ((c.parts.length:Int) - 1)=((c.parts.length - 1:Nat):Int):=by rw[w64,ZY (by omega) (by unfold big at hc;omega)];omega
   rw[this];by_cases hh:c.combs.length+1=c.parts.length
   ·rw[Ga hh];simp;omega
   ·rw[Ua hh];simp;omega
  rw[e2,hne];cases hlm:decide (c.combs.length+1=c.parts.length)with
  |false=>cases (b==(c.lead != 0))<;>cases decide (c.lead<=4)<;>cases decide (c.parts.length<=64)<;>rfl
  |true=>
   have hlm:=Fb hlm;have hl:zU (fun(s1:Int)=>
    bif decide (s1<(c.parts.length:Int))then
     za (geti c.parts s1) fun y2=>
     za (Xz S ((⟨y2.tag,y2.simples⟩:zO),⟨(d:Int),h⟩)) fun y3=>
     za (zD (decide (s1>0)&& !(!y3)) (geti c.combs (w64 (s1 - 1))) (default:UInt8)) fun y4=>
     za (zD (!(decide ((y4.toNat:Int)<1))&&(decide (s1>0)&& !(!y3))) (geti c.combs (w64 (s1 - 1))) (default:UInt8)) fun y5=>
     bif bif !y3 then true else bif decide (s1>0)then bif decide ((y4.toNat:Int)<1)then true else decide ((y5.toNat:Int)>4)else false then
      some (LO.ret false)
     else
      some (LO.again (w64 (s1+1)))
    else
     some (LO.out ())) 0 (fun _=>some true)=some (c.combs.all Ii&&c.parts.all fun x=>Qp x d h):=by
    refine(gy c.parts.length (fun i=>Qp (c.parts.getD i default) d h&&(i==0||Ii (c.combs.getD (i - 1) 0))) false (fun i hi=> ?_) ?_).trans ?_
    ·have hm:=qV (f:=z8) (Ja hi);have hgd:c.parts.getD i default=c.parts[i]:=by simp[hi]
     simp only[Zb hi,Ca,zN hi,za,Aa,bR,Y0 (N:=zt (zh c)) hS hc (show zt (z8 c.parts[i])<=zt (zh c) by omega) hd,zK hi (show c.parts.length<=big by omega),hgd];cases i with
     |zero=>cases Qp c.parts[0] d h<;>rfl
     |succ i=>
      have hi2:i<c.combs.length:=by omega
      have g0:decide (((i+1:Nat):Int)>0)=true:=Ga (by omega);have g3:w64 (((i+1:Nat):Int) - 1)=(i:Int):=by rw[w64,ZY (by omega) (by unfold big at hc;omega)];omega
      have g4:c.combs.getD (i+1 - 1) 0=c.combs[i]:=by simp[hi2]
      have g1:decide ((c.combs[i].toNat:Int)<1)= !decide (1<=c.combs[i].toNat):=by
       by_cases hh:1<=c.combs[i].toNat
       ·rw[Ga hh,Ua (by omega)];rfl
       ·rw[Ua hh,Ga (by omega)];rfl
      have g2:decide ((c.combs[i].toNat:Int)>4)= !decide (c.combs[i].toNat<=4):=Xg _ 4;rw[g0,g3,g4,zN hi2];cases Qp c.parts[i+1] d h with
      |false=>rfl
      |true=> simp only[aa,Xa,Sb,Ya,Zd,Aa,Ba,Ca,g1,zQ,g2];unfold Ii;cases h1:decide (1<=c.combs[i].toNat)<;>cases h2:decide (c.combs[i].toNat<=4)<;>simp[h2,g2]<;>omega
    ·simp only[Ze,Ba]
    ·have:(List.range c.parts.length).all (fun i=>Qp (c.parts.getD i default) d h&&(i==0||Ii (c.combs.getD (i - 1) 0)))=(c.combs.all Ii&&c.parts.all fun x=>Qp x d h):=by
      rw[Xe,Ea,and_comm,<-zJ4 _ _ _ _ hlm,Rb];constructor
      ·intro hh i hi;have:=hh i (Ed.2 hi);rw[Ea,jc]at this;refine⟨by have h1:=this.1;simpa [hi] using h1,fun h' h0=> ?_⟩;rcases this.2 with h2|h2
       ·rw[Cb]at h2;omega
       ·simpa [h'] using h2
      ·intro hh i hi;have hi:=Ed.1 hi;obtain⟨h1,h2⟩:=hh i hi;rw[Ea,jc];refine⟨by simpa [hi] using h1,?_⟩;by_cases h0:i=0
       ·exact .inl (by simp[h0])
       ·have h':i - 1<c.combs.length:=by omega
        exact .inr (by have:=h2 h' (by omega);simpa [h'] using this)
     rw[this];cases (c.combs.all Ii&&c.parts.all fun x=>Qp x d h)<;>rfl
   simp only[Cf]at hl;rw[hl];cases (b==(c.lead != 0))<;>cases decide (c.lead<=4)<;>cases decide (c.parts.length<=64)<;>rfl
theorem Yq {α R:Type} {step:Int×Int->Option (LO (Int×Int) Int R)} {k:Int->Option R} (l:List α) (f:α->Nat) (a0 M:Nat) (hb:a0+(l.map f).sum<=M)
  (hg: ∀(i a:Nat) (h:i<l.length),a+f l[i]<=M->step ((a:Int),(i:Int))=some (.again (((a+f l[i]:Nat):Int),((i+1:Nat):Int))))
  (hf: ∀a:Nat,step ((a:Int),(l.length:Int))=some (.out (a:Int))):zU step ((a0:Int),0) k=k ((a0+(l.map f).sum:Nat):Int):=by
 have key: ∀(m:List α) (i a:Nat),l.drop i=m->i<=l.length->a+(m.map f).sum<=M-> ∃n,Z6 step n ((a:Int),(i:Int))=some (.out ((a+(m.map f).sum:Nat):Int)):=by
  intro m
  induction m with
  |nil=>
   intro i a hd hi _;have:i=l.length:=by have:=Yc.1 hd;omega
   subst this;exact⟨1,by simp only[Z6,hf];simp⟩
  |cons v m ih=>
   intro i a hd hi hM;have hlt:i<l.length:=by
    rcases Xd i l.length with h|h
    ·exact h
    ·rw[Jf h]at hd;cases hd
   have hv:l[i]=v:=by have:=ma hlt;rw[hd]at this;injection this with h1 _;exact h1.symm
   rw[Oc,Ue]at hM ⊢;have hs:=hg i a hlt (by rw[hv];omega);rw[hv]at hs;obtain⟨n,hn⟩:=ih (i+1) (a+f v) (by rw[ma hlt]at hd;injection hd) (by omega) (by omega);refine⟨n+1,?_⟩;simp only[Z6,hs];rw[hn,Ef]
 obtain⟨n,hn⟩:=key l 0 a0 rfl (by omega) hb;replace hn:Z6 step n ((a0:Int),0)=_:=hn;rw[qD (oh hn)];rfl
mutual
/-- How many complex ones there are, in all. -/
def numL:List zm->Nat
 |[]=>0
 |⟨_,parts,_⟩::r=>1+numQ parts+numL r
def numQ:List zO->Nat
 |[]=>0
 |⟨_,simples⟩::r=>numI simples+numQ r
def numI:List zI->Nat
 |[]=>0
 |⟨_,_,_,_,_,_,_,list⟩::r=>numL list+numI r
end
theorem DX(l:List zI):numI l=(l.map fun x=>numL x.list).sum:=by
 induction l with
 |nil=>rw[numI];rfl
 |cons x l ih=>obtain⟨⟩:=x;rw[numI,ih];rfl
theorem AX(l:List zO):numQ l=(l.map fun x=>numI x.simples).sum:=by
 induction l with
 |nil=>rw[numQ];rfl
 |cons x l ih=>obtain⟨⟩:=x;rw[numQ,ih];rfl
theorem BX(l:List zm):numL l=l.length+(l.map fun x=>numQ x.parts).sum:=by
 induction l with
 |nil=>rw[numL];rfl
 |cons x l ih=>obtain⟨⟩:=x;rw[numL,ih,Oc,Ue,Fa];dsimp only;omega
mutual
theorem MB: ∀l:List zm,numL l<=zL zh l
 |[]=>by rw[numL];exact Ra _
 |⟨a,parts,b⟩::r=>by rw[numL,Z5,Sk];have:=xW parts;have:=MB r;show 1+numQ parts+numL r<=3+zL z8 parts+b.length+_;omega
theorem xW: ∀l:List zO,numQ l<=zL z8 l
 |[]=>by rw[numQ];exact Ra _
 |⟨a,simples⟩::r=>by rw[numQ,Z5,Qu];have:=CX simples;have:=xW r;show numI simples+numQ r<=2+a.length+zL zW simples+_;omega
theorem CX: ∀l:List zI,numI l<=zL zW l
 |[]=>by rw[numI];exact Ra _
 |⟨a,b,c,d,e,f,g,list⟩::r=>by rw[numI,Z5,QV];have:=MB list;have:=CX r;show numL list+numI r<=9+b.length+d.length+zL zh list+_;omega
end
theorem iT{l:List zm}(h:zL zh l<=big):Ql l=some (numL l:Int):=by
 refine ZP (fun l=>zL zh l) (fun l=>zL zh l<=big) (fun l=>(numL l:Int)) (fun S l hl hS=> ?_) h;unfold lF;have hn:=MB l;have hlen:=ZZ Qt l;rw[BX]at hn ⊢;refine(Yq l (fun x=>numQ x.parts) l.length big (by omega) (fun i a hi ha=> ?_) (fun a=> ?_)).trans rfl
 ·have hm:=qV (f:=zh) (Ja hi);have hz:=Sk l[i];have hlen2:=ZZ Jn l[i].parts;simp only[Zb hi,Ca,zN hi,za,Aa,zK hi (show l.length<=big by omega)];rw[AX]at ha ⊢;refine(Yq l[i].parts (fun x=>numI x.simples) a big ha (fun j b hj hb=> ?_) (fun a=> ?_)).trans rfl
  ·have hm2:=qV (f:=z8) (Ja hj);have hz2:=Qu l[i].parts[j];have hlen3:=ZZ Ap l[i].parts[j].simples;simp only[Zb hj,Ca,zN hj,Aa,zK hj (show l[i].parts.length<=big by omega)];rw[DX]at hb ⊢;refine(Yq l[i].parts[j].simples (fun x=>numL x.list) b big hb (fun m c hm3 hc=> ?_) (fun a=> ?_)).trans rfl
   ·have hm4:=qV (f:=zW) (Ja hm3);have hz3:=QV l[i].parts[j].simples[m];simp only[Zb hm3,Ca,zN hm3,Aa,zK hm3 (show l[i].parts[j].simples.length<=big by omega)];rw[hS _ (by show zL zh l[i].parts[j].simples[m].list<=big;omega) (by show zL zh l[i].parts[j].simples[m].list<zL zh l;omega)];simp only[Aa,Et hc]
   ·simp only[Ze,Ba]
  ·simp only[Ze,Ba]
 ·simp only[Ze,Ba]
theorem zsb{l:List zm}(h:zL zh l<=big):Pn l=some (numL l:Int):=by
 refine ZP (fun l=>zL zh l) (fun l=>zL zh l<=big) (fun l=>(numL l:Int)) (fun S l hl hS=> ?_) h;unfold BG;have hn:=MB l;have hlen:=ZZ Qt l;rw[BX]at hn ⊢;refine(Yq l (fun x=>numQ x.parts) l.length big (by omega) (fun i a hi ha=> ?_) (fun a=> ?_)).trans rfl
 ·have hm:=qV (f:=zh) (Ja hi);have hz:=Sk l[i];have hlen2:=ZZ Jn l[i].parts;simp only[Zb hi,Ca,zN hi,za,Aa,zK hi (show l.length<=big by omega)];rw[AX]at ha ⊢;refine(Yq l[i].parts (fun x=>numI x.simples) a big ha (fun j b hj hb=> ?_) (fun a=> ?_)).trans rfl
  ·have hm2:=qV (f:=z8) (Ja hj);have hz2:=Qu l[i].parts[j];have hlen3:=ZZ Ap l[i].parts[j].simples;simp only[Zb hj,Ca,zN hj,Aa,zK hj (show l[i].parts.length<=big by omega)];rw[DX]at hb ⊢;refine(Yq l[i].parts[j].simples (fun x=>numL x.list) b big hb (fun m c hm3 hc=> ?_) (fun a=> ?_)).trans rfl
   ·have hm4:=qV (f:=zW) (Ja hm3);have hz3:=QV l[i].parts[j].simples[m];simp only[Zb hm3,Ca,zN hm3,Aa,zK hm3 (show l[i].parts[j].simples.length<=big by omega)];rw[hS _ (by show zL zh l[i].parts[j].simples[m].list<=big;omega) (by show zL zh l[i].parts[j].simples[m].list<zL zh l;omega)];simp only[Aa,Et hc]
   ·simp only[Ze,Ba]
  ·simp only[Ze,Ba]
 ·simp only[Ze,Ba]
def selS(l:List zm):Int:=bif l.isEmpty|| !(l.all fun c=>Dg c 0 false false)then 8 else bif decide (numL l<=64)then 0 else 4
theorem zp0{l:List zm}(h:zL zh l<=big):bF l=some (selS l):=by
 have hlen:=ZZ Qt l;have e64:decide ((numL l:Int)>64)= !decide (numL l<=64):=Xg _ 64;have hc:qM l=some (!l.all fun c=>Dg c 0 false false):=by
  unfold qM dL;refine Dl (ni l (fun x=> !Dg x 0 false false) (by omega) (fun i hi=> ?_) ?_) ((Jk _ _).trans (Pq _ _))
  ·have hm:=qV (f:=zh) (Ja hi);simp only[Zb hi,Ca,zN hi,za,Aa,xK,iy];have:=mQ (c:=l[i]) (d:=0) (h:=false) (b:=false) (by omega) (by omega);simp only[Int.natCast_zero]at this;rw[this];rfl
  ·simp only[Ze,Ba]
 unfold bF selS;simp only[hc,iT h,zQ,za,Aa,ZH,e64];cases l.isEmpty<;>cases l.all (fun c=>Dg c 0 false false)<;>cases decide (numL l<=64)<;>rfl
theorem ztZ{l:List zm}(h:zL zh l<=big):sD l=some (selS l):=by
 have hlen:=ZZ Qt l;have e64:decide ((numL l:Int)>64)= !decide (numL l<=64):=Xg _ 64;have hc:VD l=some ((l.all fun c=>Dg c 0 false false)&& !l.isEmpty):=by
  unfold VD;refine(qc l (fun c=>bif Dg c 0 false false then none else some false) () (fun i hi=> ?_) ?_).trans ?_
  ·have hm:=qV (f:=zh) (Ja hi);simp only[Zb hi,Ca,zN hi,za,Aa,iy,zK hi (show l.length<=big by omega)];have:=zGv (c:=l[i]) (d:=0) (h:=false) (b:=false) (by omega) (by omega);simp only[Int.natCast_zero]at this;rw[this];simp only[Aa];cases Dg l[i] 0 false false<;>rfl
  ·simp only[Ze,Ba]
  ·rw[Ci,nk];cases l.all fun c=>Dg c 0 false false<;>rfl
 unfold sD selS;simp only[hc,zsb h,za,Aa,e64];cases l.isEmpty<;>cases l.all (fun c=>Dg c 0 false false)<;>cases decide (numL l<=64)<;>rfl
mutual
def numR:zM->Nat
 |⟨_,_,_,_,_,l⟩=>1+ql l
def ql:List zM->Nat
 |[]=>0
 |r::l=>numR r+ql l
end
theorem Tq(r:zM):numR r=1+ql r.rules:=by obtain⟨⟩:=r;rw[numR]
theorem oC(l:List zM):ql l=(l.map numR).sum:=by
 induction l with
 |nil=>rw[ql];rfl
 |cons c l ih=>rw[ql,ih];rfl
theorem OZ: ∀l:List zM,ql l<=zL zB l:=by
 have key: ∀(n:Nat) (l:List zM),zL zB l<n->ql l<=zL zB l:=by
  intro n
  induction n with
  |zero=>intro l h;omega
  |succ n ih=>
   intro l
   induction l with
   |nil=>intro _;rw[ql];exact Ra _
   |cons v l ihl=> intro h;rw[Z5]at h ⊢;rw[ql,Tq];have hz:=Rj v;have h1:=ih v.rules (by omega);have h2:=ihl (by omega);omega
 exact fun l=>key _ l (jd _)
theorem zFP(l:List zM):ql l=l.length+(l.map fun r=>ql r.rules).sum:=by
 induction l with
 |nil=>rw[ql];rfl
 |cons r l ih=>rw[ql,ih,Tq,Oc,Ue,Fa];omega
theorem fT{l:List zM}(h:zL zB l<=big):QP l=some (ql l:Int):=by
 refine ZP (fun l=>zL zB l) (fun l=>zL zB l<=big) (fun l=>(ql l:Int)) (fun S l hl hS=> ?_) h;unfold VF;have hn:=OZ l;have hlen:=ZZ El l;rw[zFP]at hn ⊢;refine(Yq l (fun r=>ql r.rules) l.length big (by omega) (fun i a hi ha=> ?_) (fun a=> ?_)).trans rfl
 ·have hm:=qV (f:=zB) (Ja hi);have hz:=Rj l[i];simp only[Zb hi,Ca,zN hi,za,Aa,zK hi (show l.length<=big by omega),hS l[i].rules (show zL zB l[i].rules<=big by omega) (show zL zB l[i].rules<zL zB l by omega),Et ha]
 ·simp only[Ze,Ba]
theorem iM(l:List (List Str)):l.length<=zL (fun l:List Str=>[.sl (l.map fun y=>[.str y])]) l/\ ∀n∈l,n.length<=zL (fun l:List Str=>[.sl (l.map fun y=>[.str y])]) l/\ ∀s∈n,s.length<=zL (fun l:List Str=>[.sl (l.map fun y=>[.str y])]) l:=by
 have h1: ∀n:List Str,n.length<=zL (fun y:Str=>[.str y]) n:=ZZ (fun y=>by simp[zt,bPV]);have h2: ∀n:List Str,zt [.sl (n.map fun y=>[.str y])]=1+zL (fun y:Str=>[.str y]) n:=dN;refine⟨ZZ (fun v=>by rw[h2];omega) l,fun n hn=> ?_⟩;have hm:=qV (f:=fun l:List Str=>[.sl (l.map fun y=>[.str y])]) hn;have h3:=h2 n;have h4:=h1 n;refine⟨by omega,fun s hs=> ?_⟩;have h5:=qV (f:=fun y:Str=>[.str y]) hs;have h6:zt [PV.str s]=1+s.length\/zt [PV.str s]=s.length:=by simp only[zt,bPV];omega
 omega
theorem yw {α A S X R:Type} {step:S->Option (LO S X R)} {k:X->Option R} (l:List α) (f:A->α->A) (st:A->Nat->S) (out:A->X) {s0:S} {a0:A} (h0:s0=st a0 0)
  (hg: ∀(i:Nat) (a:A) (h:i<l.length),step (st a i)=some (.again (st (f a l[i]) (i+1))))
  (hf: ∀a:A,step (st a l.length)=some (.out (out a))):zU step s0 k=k (out (l.foldl f a0)):=by
 have key: ∀(m:List α) (i:Nat) (a:A),l.drop i=m->i<=l.length-> ∃n,Z6 step n (st a i)=some (.out (out (m.foldl f a))):=by
  intro m
  induction m with
  |nil=>
   intro i a hd hi;have:i=l.length:=by have:=Yc.1 hd;omega
   subst this;exact⟨1,by simp only[Z6,hf,List.foldl_nil]⟩
  |cons v m ih=>
   intro i a hd hi;have hlt:i<l.length:=by
    rcases Xd i l.length with h|h
    ·exact h
    ·rw[Jf h]at hd;cases hd
   have hv:l[i]=v:=by have:=ma hlt;rw[hd]at this;injection this with h1 _;exact h1.symm
   have hs:=hg i a hlt;rw[hv]at hs;obtain⟨n,hn⟩:=ih (i+1) (f a v) (by rw[ma hlt]at hd;injection hd) (by omega);refine⟨n+1,?_⟩;simp only[Z6,hs];rw[hn,Ld]
 obtain⟨n,hn⟩:=key l 0 a0 rfl (by omega);rw[h0,qD (oh hn)];rfl
theorem SC{α:Type}(p:α->Bool): ∀(l:List α) (b:Bool),l.foldl (fun b v=>b||p v) b=(b||l.any p)
 |[],b=>by simp
 |v::l,b=>by rw[Ld,SC p l,Pf,Bool.or_assoc]
def Ms(x:zI):Bool:=(x.kind==9||x.kind==10)&&(!x.of_&&(x.anb.a==0&&x.anb.b==1))
def innS(x:zI):Bool:=x.kind==3||(decide (9<=x.kind)&& !Ms x)
mutual
def selL:List zm->Nat
 |[]=>0
 |⟨_,parts,_⟩::r=>max (selP parts) (selL r)
def selP:List zO->Nat
 |[]=>0
 |⟨_,simples⟩::r=>max (selI simples) (selP r)
def selI:List zI->Nat
 |[]=>0
 |⟨k,n,o,v,f,a,w,list⟩::r=>max (bif innS ⟨k,n,o,v,f,a,w,list⟩then 1+selL list else 0) (selI r)
end
def oneI(x:zI):Nat:=bif innS x then 1+selL x.list else 0
theorem dW(l:List zI):selI l=mx oneI l:=by
 induction l with
 |nil=>rw[selI];rfl
 |cons x l ih=>obtain⟨⟩:=x;rw[selI,ih];rfl
theorem YW(l:List zO):selP l=mx (fun x=>selI x.simples) l:=by
 induction l with
 |nil=>rw[selP];rfl
 |cons x l ih=>obtain⟨⟩:=x;rw[selP,ih];rfl
theorem aW(l:List zm):selL l=mx (fun x=>selP x.parts) l:=by
 induction l with
 |nil=>rw[selL];rfl
 |cons x l ih=>obtain⟨⟩:=x;rw[selL,ih];rfl
mutual
theorem dw: ∀l:List zm,selL l<=zL zh l
 |[]=>by rw[selL];exact Ra _
 |⟨a,parts,b⟩::r=>by rw[selL,Z5,Sk];have:=XW parts;have:=dw r;show max (selP parts) (selL r)<=3+zL z8 parts+b.length+_;omega
theorem XW: ∀l:List zO,selP l<=zL z8 l
 |[]=>by rw[selP];exact Ra _
 |⟨a,simples⟩::r=>by rw[selP,Z5,Qu];have:=bW simples;have:=XW r;show max (selI simples) (selP r)<=2+a.length+zL zW simples+_;omega
theorem bW: ∀l:List zI,selI l<=zL zW l
 |[]=>by rw[selI];exact Ra _
 |⟨a,b,c,d,e,f,g,list⟩::r=>by rw[selI,Z5,QV];have:=dw list;have:=bW r;show max (bif innS ⟨a,b,c,d,e,f,g,list⟩then 1+selL list else 0) (selI r)<=9+b.length+d.length+zL zh list+_;cases innS ⟨a,b,c,d,e,f,g,list⟩<;>simp only[Ca,Ba]<;>omega
end
theorem DZ(x:zI):(bif bif bif x.kind==9 then true else x.kind==10 then !x.of_ else false then x.anb.a==0&&(x.anb.b==1&&true)else false)=Ms x:=by unfold Ms;cases x.kind==9<;>cases x.kind==10<;>cases x.of_<;>cases x.anb.a==0<;>cases x.anb.b==1<;>rfl
theorem zt0(x:zI):vJ x=some (Ms x):=congrArg some (DZ x)
theorem zIn(x:zI):(bif x.kind==3 then true else bif decide (x.kind>=9)then !(bif bif bif x.kind==9 then true else x.kind==10 then !x.of_ else false then x.anb.a==0&&(x.anb.b==1&&true)else false)else false)=innS x:=by rw[DZ];unfold innS;show(bif x.kind==3 then true else bif decide (9<=x.kind)then !Ms x else false)=_;cases x.kind==3<;>cases decide (9<=x.kind)<;>rfl
theorem zoY{l:List zm}(h:zL zh l<=big):Qm l=some (selL l:Int):=by
 refine ZP (fun l=>zL zh l) (fun l=>zL zh l<=big) (fun l=>(selL l:Int)) (fun S l hl hS=> ?_) h;have hlen:=ZZ Qt l;unfold NG;refine(Ym l (fun x=>selP x.parts) (fun a i=>((a:Int),(i:Int))) (fun a=>(a:Int)) (a0:=0) rfl (fun i a hi=> ?_) (fun a=> ?_)).trans (by rw[aW,Nat.zero_max])
 ·have hm:=qV (f:=zh) (Ja hi);have hz:=Sk l[i];have hlen2:=ZZ Jn l[i].parts;simp only[Zb hi,Ca,zN hi,za,Aa,zK hi (show l.length<=big by omega)];refine(Ym l[i].parts (fun x=>selI x.simples) (fun a i=>((a:Int),(i:Int))) (fun a=>(a:Int)) (a0:=a) rfl (fun j b hj=> ?_) (fun a=> ?_)).trans (by rw[YW])
  ·have hm2:=qV (f:=z8) (Ja hj);have hz2:=Qu l[i].parts[j];have hlen3:=ZZ Ap l[i].parts[j].simples;simp only[Zb hj,Ca,zN hj,Aa,zK hj (show l[i].parts.length<=big by omega)];refine(Ym l[i].parts[j].simples oneI (fun a i=>((a:Int),(i:Int))) (fun a=>(a:Int)) (a0:=b) rfl (fun n c hn=> ?_) (fun a=> ?_)).trans (by rw[dW])
   ·have hm3:=qV (f:=zW) (Ja hn);have hz3:=QV l[i].parts[j].simples[n];have hle:=dw l[i].parts[j].simples[n].list;simp only[Zb hn,Ca,zN hn,Aa,zK hn (show l[i].parts[j].simples.length<=big by omega)];have hs:=hS l[i].parts[j].simples[n].list (by show zL zh l[i].parts[j].simples[n].list<=big;omega) (by show zL zh l[i].parts[j].simples[n].list<zL zh l;omega);have hw:=Um (n:=selL l[i].parts[j].simples[n].list) (by omega);simp only[zIn,hs,Aa,hw];have hone:oneI l[i].parts[j].simples[n]=bif innS l[i].parts[j].simples[n]then 1+selL l[i].parts[j].simples[n].list else 0:=rfl;rw[hone];cases innS l[i].parts[j].simples[n]with
    |true=>simp only[Ca,zH,Ij,zK hn (show l[i].parts[j].simples.length<=big by omega)];rw[Te 1]
    |false=>simp only[Ba,zH,Nat.max_zero,zK hn (show l[i].parts[j].simples.length<=big by omega)]
   ·simp only[Ze,Ba]
  ·simp only[Ze,Ba]
 ·simp only[Ze,Ba]
theorem zoR{l:List zm}(h:zL zh l<=big):Qk l=some (selL l:Int):=by
 refine ZP (fun l=>zL zh l) (fun l=>zL zh l<=big) (fun l=>(selL l:Int)) (fun S l hl hS=> ?_) h;have hlen:=ZZ Qt l;unfold OG;refine(Ym l (fun x=>selP x.parts) (fun a i=>((a:Int),(i:Int))) (fun a=>(a:Int)) (a0:=0) rfl (fun i a hi=> ?_) (fun a=> ?_)).trans (by rw[aW,Nat.zero_max])
 ·have hm:=qV (f:=zh) (Ja hi);have hz:=Sk l[i];have hlen2:=ZZ Jn l[i].parts;simp only[Zb hi,Ca,zN hi,za,Aa,zK hi (show l.length<=big by omega)];refine(Ym l[i].parts (fun x=>selI x.simples) (fun a i=>((a:Int),(i:Int))) (fun a=>(a:Int)) (a0:=a) rfl (fun j b hj=> ?_) (fun a=> ?_)).trans (by rw[YW])
  ·have hm2:=qV (f:=z8) (Ja hj);have hz2:=Qu l[i].parts[j];have hlen3:=ZZ Ap l[i].parts[j].simples;simp only[Zb hj,Ca,zN hj,Aa,zK hj (show l[i].parts.length<=big by omega)];refine(Ym l[i].parts[j].simples oneI (fun a i=>((a:Int),(i:Int))) (fun a=>(a:Int)) (a0:=b) rfl (fun n c hn=> ?_) (fun a=> ?_)).trans (by rw[dW])
   ·have hm3:=qV (f:=zW) (Ja hn);have hz3:=QV l[i].parts[j].simples[n];have hle:=dw l[i].parts[j].simples[n].list;simp only[Zb hn,Ca,zN hn,Aa,zK hn (show l[i].parts[j].simples.length<=big by omega)];have hs:=hS l[i].parts[j].simples[n].list (by show zL zh l[i].parts[j].simples[n].list<=big;omega) (by show zL zh l[i].parts[j].simples[n].list<zL zh l;omega);have hw:=xH (n:=selL l[i].parts[j].simples[n].list) (by omega);have hinn:(bif l[i].parts[j].simples[n].kind==3 then true else bif decide ((bif !(l[i].parts[j].simples[n].kind==3)then l[i].parts[j].simples[n]else(default:zI)).kind>=9)then !(bif decide ((bif !(l[i].parts[j].simples[n].kind==3)then l[i].parts[j].simples[n]else(default:zI)).kind>=9)&& !(l[i].parts[j].simples[n].kind==3)then Ms (bif decide ((bif !(l[i].parts[j].simples[n].kind==3)then l[i].parts[j].simples[n]else(default:zI)).kind>=9)&& !(l[i].parts[j].simples[n].kind==3)then l[i].parts[j].simples[n]else(default:zI))else default)else false)=innS l[i].parts[j].simples[n]:=by
     unfold innS;cases hk:l[i].parts[j].simples[n].kind==3 with
     |true=>rfl
     |false=>
      simp only[Ca,Ba,Xa,Sb,ic];show(bif decide (9<=l[i].parts[j].simples[n].kind)then _ else _)=(decide (9<=l[i].parts[j].simples[n].kind)&&_);cases h9:decide (9<=l[i].parts[j].simples[n].kind)with
      |false=>rfl
      |true=> have h9':decide (l[i].parts[j].simples[n].kind>=9)=true:=h9;simp only[h9',Ca,Ya]
    simp only[zQ,Aa,Qb,zt0,hinn,hs,hw];have hone:oneI l[i].parts[j].simples[n]=bif innS l[i].parts[j].simples[n]then 1+selL l[i].parts[j].simples[n].list else 0:=rfl;rw[hone];cases innS l[i].parts[j].simples[n]with
    |true=>simp only[Ca,zH,Ij,zK hn (show l[i].parts[j].simples.length<=big by omega)];rw[Te 1]
    |false=>simp only[Ba,zH,Nat.max_zero,zK hn (show l[i].parts[j].simples.length<=big by omega)]
   ·simp only[Ze,Ba]
  ·simp only[Ze,Ba]
 ·simp only[Ze,Ba]
mutual
def askB:zw->Bool
 |⟨k,_,_,_,l⟩=>(k==5||k==6)||aA l
def aA:List zw->Bool
 |[]=>false
 |c::r=>askB c||aA r
end
theorem Ro(c:zw):askB c=((c.kind==5||c.kind==6)||c.list.any askB):=by
 have: ∀l:List zw,aA l=l.any askB:=by
  intro l
  induction l with
  |nil=>rw[aA];rfl
  |cons c l ih=>rw[aA,ih];rfl
 obtain⟨k,n,m,d,l⟩:=c;rw[askB,this]
def bN(b:Bool):Int:=bif b then 1 else 0
theorem zt7{c:zw}(h:zt (zk c)<=big):Bn c=some (bN (askB c)):=by
 refine ZP (fun c=>zt (zk c)) (fun c=>zt (zk c)<=big) (fun c=>bN (askB c)) (fun S c hc hS=> ?_) h;have hlen:=Qz c;have hj: ∀{R:Type} (k:Int->Option R),Zh (X:=Int) (bif bif c.kind==5 then true else c.kind==6 then some (LX.out 1)else some (LX.out 0)) k=k (bN (c.kind==5||c.kind==6)):=by intro R k;cases c.kind==5<;>cases c.kind==6<;>rfl
 unfold TF;rw[hj];refine(yw c.list (fun b y=>b||askB y) (fun b i=>(bN b,(i:Int))) bN (a0:=(c.kind==5||c.kind==6)) rfl (fun i b hi=> ?_) (fun b=> ?_)).trans (by rw[SC,<-Ro])
 ·have hm:=Qv (Ja hi);simp only[Zb hi,Ca,zN hi,za,Aa,Zq,hS c.list[i] (show zt (zk c.list[i])<=big by omega) hm,zK hi (show c.list.length<=big by omega)];cases b<;>cases askB c.list[i]<;>rfl
 ·simp only[Ze,Ba]
def unw(c:zw):zw:=match c.list with
 |[y]=>bif c.kind==3 then y else c
 |_=>c
def askR(c:zw):Bool:=c.list.any fun y=>(unw y).list.any fun z=>z.kind != 4
theorem zNg(c:zw)(R:Type)(a:Int)(k:Int×zw->Option R):Zh (X:=Int×zw) (
       bif bif c.kind==3 then(c.list.length:Int)==1 else false then
        (geti c.list 0).bind fun y4=>
        some (LX.out (a,y4))
       else
        some (LX.out (a,c))) k=k (a,unw c):=by
 unfold unw;cases hl:c.list with
 |nil=>cases c.kind==3<;>rfl
 |cons y r=>
  cases r with
  |nil=>cases c.kind==3<;>rfl
  |cons z r=>rw[mO];cases c.kind==3<;>rfl
theorem zLH{c:zw}(h:zt (zk c)<=big):(unw c).list.length<=big:=by
 have:=Qz c;unfold unw;split
 ·rename_i y hl;have:=Qv (c:=c) (y:=y) (by rw[hl];exact Pb);have:=Qz y;cases c.kind==3<;>simp only[Ca,Ba]<;>omega
 ·omega
theorem zGs{l:List zw}(hl:l.length<=big)(h: ∀c∈l,zt (zk c)<=big):zU (fun(s2:Int×Int)=>
    bif decide (s2.2<(l.length:Int))then
     (geti l s2.2).bind fun y3=>
     Zh (X:=Int×zw) (
       bif bif y3.kind==3 then(y3.list.length:Int)==1 else false then
        (geti y3.list 0).bind fun y4=>
        some (LX.out (s2.1,y4))
       else
        some (LX.out (s2.1,y3))) fun j5=>
     zU (fun(s6:Int×Int)=>
       bif decide (s6.2<(j5.2.list.length:Int))then
        Zh (X:=Int×Int) (
          (geti j5.2.list s6.2).bind fun y7=>
          bif y7.kind != 4 then
           some (LX.out (1,s6.2))
          else
           some (LX.out (s6.1,s6.2))) fun j8=>
        some (LO.again (j8.1,w64 (j8.2+1)))
       else
        some (LO.out s6.1):Int×Int->Option (LO (Int×Int) (Int) _)) (j5.1,0) fun o9=>
     some (LO.again (o9,w64 (s2.2+1)))
    else
     some (LO.out s2.1):Int×Int->Option (LO (Int×Int) (Int) _)) (0,0) (fun o10=>some o10)=some (bN (l.any fun y=>(unw y).list.any fun z=>z.kind != 4)):=by
 refine(yw l (fun b y=>b||(unw y).list.any fun z=>z.kind != 4) (fun b i=>(bN b,(i:Int))) bN (a0:=false) rfl (fun i b hi=> ?_) (fun b=> ?_)).trans (by rw[SC,ic])
 ·have hb:=h _ (Ja hi);have hul:=zLH hb;simp only[Zb hi,Ca,zN hi,Aa,zK hi hl];rw[zNg];refine(yw (unw l[i]).list (fun b (z:zw)=>b||z.kind != 4) (fun b i=>(bN b,(i:Int))) bN (a0:=b) rfl (fun j d hj=> ?_) (fun b=> ?_)).trans (by rw[SC])
  ·simp only[Zb hj,Ca,zN hj,Aa];cases (unw l[i]).list[j].kind != 4 with
   |true=>simp only[Ca,zH,zK hj hul,Bool.or_true];rfl
   |false=>simp only[Ba,zH,zK hj hul,Sd]
  ·simp only[Ze,Ba]
 ·simp only[Ze,Ba]
theorem wI{α:Type}{p q:α->Bool}: ∀{l:List α},(∀v∈l,p v=q v)->l.any p=l.any q
 |[],_=>rfl
 |x::l,h=>by rw[Pf,Pf,h x Pb,wI fun v hv=>h v (Lb _ hv)]
theorem zIs{b:Bool}{y:zw}(h:ng b y=true):askB y=(y.kind != 4):=by
 unfold ng at h;rw[Ea]at h;have hl:y.list=[]:=ae.1 h.1;rw[Ro,hl,List.any_nil,Sd,bne];have h2:=h.2;rw[Ea]at h2;have h3:=h2.2;simp only[jc,Ea,Cb]at h3;rcases h3 with⟨_,h4,_⟩|⟨h5|h6,_⟩
 ·rw[h4];rfl
 ·rw[h5];rfl
 ·rw[h6];rfl
theorem zC6{l:List zw}(h:Uq l=true): ∀y∈l,askB y=(y.kind != 4):=by intro y hy;obtain⟨i,hi,rfl⟩:=List.mem_iff_getElem.1 hy;unfold Uq at h;have:=Rb.1 h i (by simpa using hi);simp only[je,Va hi,Option.getD_some]at this;exact zIs this
theorem uO{c:zw}(h:di c=true):askB c=c.list.any fun z=>z.kind != 4:=by unfold di at h;simp only[Ea,Cb]at h;rw[Ro,h.1];show((false||false)||_)=_;rw[Jg,ic];exact wI (zC6 h.2.2.2)
theorem zHr{c:zw}(h:Vg c=true):askB c=(unw c).list.any fun z=>z.kind != 4:=by
 unfold Vg at h;unfold unw;cases h3:c.kind==3 with
 |false=>
  rw[h3,Ba]at h;have:=uO h;split
  ·rw[Ba];exact this
  ·exact this
 |true=>
  rw[h3,Ca,Ea]at h;have h2:=h.2;split at h2
  ·rename_i y hl;simp only[hl,Ca];rw[Ea]at h2;rw[Ro,Cb.1 h3,hl,Pf,List.any_nil,Sd,uO h2.1];rfl
  ·cases h2
theorem zDd{c:zw}(h:uk c=true):askB c=askR c:=by
 unfold uk at h;rw[Ea,jc,Ea,Ea,Ea,Ea,Cb,Cb]at h;unfold askR;rw[Ro];rcases h.2 with⟨h1,h2⟩|⟨h1,h2⟩
 ·rw[h1,ae.1 h2];rfl
 ·rw[h1];show((false||false)||_)=_;rw[Jg,ic];exact wI fun y hy=>zHr (Rb.1 h2.2.2 y hy)
def kv(r:zM):Bool:=r.selectors.isEmpty&&r.decls.isEmpty
def Cj(r:zM):Bool:=
 bif r.kind==1 then(selS r.selectors==0)&&(decide (r.decls.length<=32)&&(Rh r.cond&&(r.names.isEmpty&&(r.rules.isEmpty&&r.decls.all Tf))))
 else bif r.kind==2 then kv r&&(r.names.isEmpty&&uk r.cond)
 else bif r.kind==3 then kv r&&(r.names.isEmpty&&Ik r.cond)
 else bif r.kind==4 then kv r&&(decide (r.names.length<=1)&&Rh r.cond)
 else bif r.kind==5 then kv r&&(!r.names.isEmpty&&(decide (r.names.length<=64)&&(r.rules.isEmpty&&Rh r.cond)))
 else false
mutual
def qj:zM->Bool
 |⟨k,s,d,c,n,l⟩=>Cj ⟨k,s,d,c,n,l⟩&&(n.all Mg&&Yw l)
def Yw:List zM->Bool
 |[]=>true
 |r::l=>qj r&&Yw l
end
theorem zA7(l:List zM):Yw l=l.all qj:=by
 induction l with
 |nil=>rw[Yw];rfl
 |cons c l ih=>rw[Yw,ih];rfl
theorem Vu(r:zM):qj r=(Cj r&&(r.names.all Mg&&r.rules.all qj)):=by obtain⟨k,s,d,c,n,l⟩:=r;rw[qj,zA7]
def Dj(r:zM):Nat:=bif r.kind==3 then Vf r.cond else bif r.kind==2 then(bif askB r.cond then 1 else 0)else 0
mutual
def QY:zM->Nat
 |⟨k,s,d,c,n,l⟩=>bif k==5 then 0 else max (1+max (Pw l) (mx (fun d=>Za d.value) d)) (max (selL s) (Dj ⟨k,s,d,c,n,l⟩))
def Pw:List zM->Nat
 |[]=>0
 |r::l=>max (QY r) (Pw l)
end
theorem zEC(l:List zM):Pw l=mx QY l:=by
 induction l with
 |nil=>rw[Pw];rfl
 |cons c l ih=>rw[Pw,ih];rfl
theorem Tx(r:zM):QY r=bif r.kind==5 then 0 else max (1+max (mx QY r.rules) (mx (fun d=>Za d.value) r.decls)) (max (selL r.selectors) (Dj r)):=by obtain⟨k,s,d,c,n,l⟩:=r;rw[QY,zEC]
theorem mx_z{α:Type}{f:α->Nat}{g:α->List PV}: ∀{l:List α},(∀v∈l,f v<=zt (g v))->mx f l<=zL g l
 |[],_=>Ra _
 |v::l,h=>by rw[mx,Z5];have:=h v Pb;have:=mx_z (l:=l) (f:=f) (g:=g) fun w hw=>h w (Lb _ hw);omega
theorem aJ(l:List Zx):mx (fun d=>Za d.value) l<=zL Zz l:=
 mx_z fun d _=>by have:=jm d.value;have:=xh d.value;have:=QK d;omega
theorem zHM(r:zM):Dj r<=1+zt (zk r.cond):=by have:=WC r.cond;unfold Dj;cases r.kind==3<;>cases r.kind==2<;>cases askB r.cond<;>simp only[Ca,Ba]<;>omega
theorem yO{r y:zM}(h:y∈r.rules):zt (zB y)<zt (zB r):=by have hz:=Rj r;have:=qV (f:=zB) h;omega
theorem zHX: ∀r:zM,QY r<=zt (zB r):=by
 have key: ∀(n:Nat) (r:zM),zt (zB r)<n->QY r<=zt (zB r):=by
  intro n
  induction n with
  |zero=>intro c h;omega
  |succ n ih=> intro r h;have hz:=Rj r;have h1:mx QY r.rules<=zL zB r.rules:=mx_z fun y hy=>ih y (by have:=yO hy;omega);have h2:=aJ r.decls;have h3:=dw r.selectors;have h4:=zHM r;rw[Tx];cases r.kind==5<;>simp only[Ca,Ba]<;>omega
 exact fun c=>key _ c (jd _)
theorem kQ(l:List zM):mx QY l<=zL zB l:=mx_z fun y _=>zHX y
theorem Wx(r:zM):(⟨r.kind,r.selectors,r.decls,r.cond,r.names,r.rules⟩:zM)=r:=by cases r;rfl
def szP:List (List zb)->Nat
 |[]=>0
 |l::r=>1+szL l+szP r
theorem jW{v:List zb}: ∀{l:List (List zb)},v∈l->szL v<=szP l
 |[],h=>by cases h
 |x::l,h=>by
  rw[szP];rcases Kb.1 h with rfl|h
  ·omega
  ·have:=jW h;omega
theorem kW: ∀(l:List (List zb)),l.length<=szP l
 |[]=>Ta _
 |v::r=>by rw[szP,Fa];have:=kW r;omega
theorem zD2{R:Type}(x:Option R):both x x=x:=by unfold both;rw[Ka rfl]
theorem zHI{l:List zb}(h:szL l<=big):dG l=some l:=by
 unfold dG;have hlen:=Fh l;unfold big at h;have hap:ZE 0 l.length 80=true:=qI (by omega);cases l with
 |nil=>simp only[hap,zD2,ZX,List.isEmpty_nil,Ca]
 |cons v r=>simp only[hap,ZX,List.isEmpty_cons,Ba]
theorem kN{l:List zb}(h:szL l<=big):Gl l=some l:=by
 refine ZP (fun l=>szL l) (fun l=>szL l<=big) (fun l=>l) (fun S l hl hS=> ?_) h;unfold xD;have hlen:=Fh l;simp only[za,zHI hl,Aa];refine(fq l (fun i (a:List zb)=>((i:Int),a)) (fun v a=>some (.again a)) (fun a=>some (.out a)) (fun i a=>a=l) (a:=l) rfl rfl (fun i a hi hI=> ?_) (fun a hI=> ?_) (r:= .out l) ?_)
 ·subst hI;have hsz:=Bl (Ja hi);have hv2:=Mi a[i];refine⟨?_,fun a' ha=>by cases ha;rfl⟩;have h1:S a[i].list=some a[i].list:=hS a[i].list (by omega) (by omega);have h2:decide ((0:Int)<=(i:Int))=true:=Ga (by omega);have h3:a[i]? =some a[i]:=Va hi;have h4:a.set i ⟨a[i].token,a[i].list⟩=a:=by
   have:(⟨a[i].token,a[i].list⟩:zb)=a[i]:=by cases a[i];rfl
   rw[this,List.set_getElem_self]
  simp only[Zb hi,h2,Bool.and_self,Ca,ZX,Ib,h3,Aa,h1,h4,zK hi (by omega),Ac]
 ·subst hI;simp only[Ze,Ba];rfl
 ·rw[vo (fun a v=>a) (fun v a=>rfl)];congr 2;clear hl hS hlen h;generalize l=b at*;have: ∀(m b:List zb),m.foldl (fun a _=>a) b=b:=by
   intro m
   induction m with
   |nil=>intro b;rfl
   |cons v m ih=>intro b;exact ih b
  exact this _ _
theorem wG{l:List zb}{i:Nat}(h:i<l.length):Az ((i:Int),l)=some (isSp l[i]):=by unfold Az;simp only[za,zN h,Aa];rfl
theorem uC{l:List zb}(h:szL l<=big):Ju l=some (if errS l=0 then(trimS l,0)else([],errS l)):=by
 unfold Ju;have hlen:=Fh l;simp only[za,Br h,Aa];by_cases h1:errS l=0
 ·rw[Ka h1];have hne:(errS l != 0)=false:=by simp[h1]
  simp only[hne,Ba];have hdl:=List.Sublist.length_le (jb isSp (l:=l));have hdd:=cB isSp l;refine(qD (r:= .out ((l.length - (l.dropWhile isSp).length:Nat):Int)) (Qq (fun s=> ∃k:Nat,s=(k:Int)/\k<=l.length/\(l.drop k).dropWhile isSp=l.dropWhile isSp) (fun s=>l.length - s.toNat) _ (fun s hs=> ?_) ⟨0,rfl,Ra _,rfl⟩)).trans ?_
  ·obtain⟨k,rfl,hk,he⟩:=hs;by_cases hlt:k<l.length
   ·rw[ma hlt,Kc]at he;have hw:=zK hlt (by unfold big at h ⊢;omega);cases hv:isSp l[k]with
    |true=> rw[Ka hv]at he;refine .inl ⟨((k+1:Nat):Int),?_,⟨k+1,rfl,hlt,he⟩,by omega⟩;simp only[Zb hlt,Zd,wG hlt,Aa,hv,Ca,hw]
    |false=>
     rw[Ha (by rw[hv];simp)]at he;refine .inr (.inl ⟨(k:Int),?_,?_⟩)
     ·simp only[Zb hlt,Zd,wG hlt,Aa,hv,Ca,Ba]
     ·rw[<-he];congr 1;simp;omega
   ·have hkk:k=l.length:=by omega
    subst hkk;rw[List.drop_length]at he;refine .inr (.inl ⟨(l.length:Int),?_,?_⟩)
    ·simp only[Ze,ZM,Aa,Ba]
    ·rw[<-he];simp
  ·rw[zm8];generalize hf:l.length - (l.dropWhile isSp).length=f at hdd;have hfl:f<=l.length:=by omega
   generalize l.dropWhile isSp=d at hdd;subst hdd;refine(qD (r:= .out ((f+(trimB (l.drop f)).length:Nat):Int)) (Qq (fun s=> ∃m:Nat,s=(m:Int)/\f<=m/\m<=l.length/\trimB ((l.take m).drop f)=trimB (l.drop f)) (fun s=>s.toNat) _ (fun s hs=> ?_) ⟨l.length,rfl,hfl,Ta _,by rw[Ie]⟩)).trans ?_
   ·obtain⟨m,rfl,hm1,hm2,he⟩:=hs;by_cases hlt:f<m
    ·have hm:m - 1<l.length:=by omega
     have hsn:(l.take m).drop f=(l.take (m - 1)).drop f++[l[m - 1]]:=by
      have:l.take m=l.take (m - 1)++[l[m - 1]]:=by
       have:=Rc hm
       rwa [show m - 1+1=m by omega]at this
      rw[this,mg (by rw[Fe];omega)]
     rw[hsn,uq]at he;have h2:decide ((f:Int)<(m:Int))=true:=Ga (by omega);have hw:w64 ((m:Int) - 1)=((m - 1:Nat):Int):=by rw[w64,ZY (by omega) (by unfold big at h;omega)];omega
     cases hv:isSp l[m - 1]with
     |true=> rw[Ka hv]at he;refine .inl ⟨((m - 1:Nat):Int),?_,⟨m - 1,rfl,by omega,by omega,he⟩,by omega⟩;simp only[h2,Zd,hw,wG hm,Aa,hv,Ca]
     |false=>
      rw[Ha (by rw[hv];simp)]at he;refine .inr (.inl ⟨(m:Int),?_,?_⟩)
      ·simp only[h2,Zd,hw,wG hm,Aa,hv,Ca,Ba]
      ·rw[<-he];congr 1;simp;omega
    ·have hmm:m=f:=by omega
     subst hmm;have h2:decide ((m:Int)<(m:Int))=false:=Ua (by omega);refine .inr (.inl ⟨(m:Int),?_,?_⟩)
     ·simp only[h2,ZM,Aa,Ba]
     ·rw[Jf (by rw[Fe];omega),zHg]at he;rw[<-he];simp
   ·rw[zm8];have htl:=List.Sublist.length_le (Ul (l.drop f));rw[Yb]at htl;have hcut:List.drop f (List.take (f+(trimB (l.drop f)).length) l)=trimB (l.drop f):=by
     rw[List.drop_take];have: ∀d:List zb,d.take (trimB d).length=trimB d:=by intro d;unfold trimB;rw[List.length_reverse];have h3:=cB isSp d.reverse;have h4:=List.Sublist.length_le (jb isSp (l:=d.reverse));rw[List.length_reverse]at h3 h4;rw[<-h3,List.drop_reverse,List.reverse_reverse];congr 1;simp
     have e:=this (l.drop f);rw[show f+(trimB (l.drop f)).length - f=(trimB (l.drop f)).length by omega];exact e
    have hneed:(decide ((0:Int)<=(f:Int))&&(decide ((f:Int)<=((f+(trimB (l.drop f)).length:Nat):Int))&&(decide (((f+(trimB (l.drop f)).length:Nat):Int)<=((f+(trimB (l.drop f)).length:Nat):Int))&&decide (((f+(trimB (l.drop f)).length:Nat):Int)<=(l.length:Int))))&&decide True)=true:=by simp only[Ea,ja];refine⟨?_,trivial⟩;omega
    have hts:trimS l=trimB (l.drop f):=by unfold trimS;rw[<-cB isSp l,hf]
    simp only[hneed,ZX,Ib,hcut,kN (Db (Al ((Ul _).trans (Ri _ _))) h),Aa,hts]
 ·rw[Ha h1];have hne:(errS l != 0)=true:=by simp[h1]
  simp only[hne,Ca]
def Cg(k:Int)(a:List (List zb)×List zb)(v:zb):List (List zb)×List zb:=
 if v.token.kind==k then(a.1++[a.2],[])else(a.1,a.2++[v])
def Fg(k:Int)(l:List zb):List (List zb)×List zb:=l.foldl (Cg k) ([],[])
def Ng(k:Int)(l:List zb):List (List zb):=(Fg k l).1++[(Fg k l).2]
theorem zCP{k:Int}{l:List zb}{i:Nat}(h:i<l.length):Fg k (l.take (i+1))=Cg k (Fg k (l.take i)) l[i]:=by unfold Fg;rw[Rc h,List.foldl_append];rfl
theorem dQ(a b:List (List zb)):szP (a++b)=szP a+szP b:=by
 induction a with
 |nil=>simp[szP]
 |cons x a ih=>simp only[Ab,szP,ih];omega
theorem sJ(a b:List zb):szL (a++b)=szL a+szL b:=by
 induction a with
 |nil=>simp[szL]
 |cons x a ih=>simp only[Ab,szL,ih];omega
theorem FC(k:Int): ∀(l:List zb) (a:List (List zb)×List zb),szP (l.foldl (Cg k) a).1+szL (l.foldl (Cg k) a).2<=szP a.1+szL a.2+szL l/\(l.foldl (Cg k) a).1.length<=a.1.length+l.length/\(l.foldl (Cg k) a).2.length<=a.2.length+l.length
 |[],a=>by simp[szL]
 |v::l,a=>by
  rw[Ld];obtain⟨h1,h2,h3⟩:=FC k l (Cg k a v);have hv:=Mi v;have:szP (Cg k a v).1+szL (Cg k a v).2<=szP a.1+szL a.2+szV v/\(Cg k a v).1.length<=a.1.length+1/\(Cg k a v).2.length<=a.2.length+1:=by
   unfold Cg;split
   ·simp only[dQ,szP,szL,Ma,Fa,Eb];omega
   ·simp only[sJ,szL,Ma,Fa,Eb];omega
  rw[szL,Fa];omega
theorem zHR(k:Int)(l:List zb):szP (Ng k l)<=szL l+1:=by obtain⟨h1,_,_⟩:=FC k l ([],[]);unfold Ng Fg;rw[dQ,szP,szP];have e1:szP ([]:List (List zb))=0:=rfl;have e2:szL ([]:List zb)=0:=rfl;simp only[e1,e2]at h1;omega
theorem bD{l:List zb}{k:Int}(h:szL l<=big):Cr (l,k)=some (if errS l=0 then(if k<1\/24<k then([],2)else(Ng k l,0))else([],errS l)):=by
 unfold Cr;have hlen:=Fh l;simp only[za,Br h,Aa];by_cases h1:errS l=0
 ·have hne:(errS l != 0)=false:=by simp[h1]
  rw[Ka h1];simp only[hne,Ba,VX];by_cases h2:k<1\/24<k
  ·have:(decide (k<1)||decide (k>24))=true:=by simpa using h2
   rw[Ka h2,this];rfl
  ·have:(decide (k<1)||decide (k>24))=false:=by rw[Bf];exact⟨Ua (by omega),Ua (by omega)⟩
   rw[Ha h2,this];simp only[Ba];refine(qD (r:= .out (((l.length - (Fg k l).2.length:Nat):Int),(Fg k l).1)) (Qq (fun s=> ∃i from_:Nat,s=(((from_:Int),(i:Int)),(Fg k (l.take i)).1)/\from_<=i/\i<=l.length/\(Fg k (l.take i)).2=(l.take i).drop from_) (fun s=>l.length - s.1.2.toNat) _ (fun s hs=> ?_) ⟨0,0,by simp[Fg],Ta _,Ra _,by simp[Fg]⟩)).trans ?_
   ·obtain⟨i,fr,rfl,hfi,hil,he⟩:=hs;by_cases hi:i<l.length
    ·refine .inl ?_;have hw:=zK hi (by unfold big at h ⊢;omega);have hpt:=zCP (k:=k) hi;have htk:l.take (i+1)=l.take i++[l[i]]:=Rc hi;unfold Cg at hpt;simp only[Zb hi,Ca,zN hi,Aa];cases hv:(l[i].token.kind==k)with
     |true=>
      rw[Ka hv]at hpt;have hn:(decide ((0:Int)<=(fr:Int))&&(decide ((fr:Int)<=(i:Int))&&(decide ((i:Int)<=(i:Int))&&decide ((i:Int)<=(l.length:Int))))&&decide True)=true:=by simp only[Ea,ja];refine⟨?_,trivial⟩;omega
      have hsz:szL (List.drop fr (List.take i l))<=big:=Db (Al ((Ri _ _).trans (List.take_sublist _ _))) h;have hpl:=(FC k (l.take i) ([],[])).2.1;have hap:ZE (Fg k (l.take i)).1.length 1 24=true:=qI (by
       unfold Fg;have:=List.length_take_le i l;unfold big at h;simp only[Eb]at hpl;omega)
      refine⟨((((i+1:Nat):Int),((i+1:Nat):Int)),(Fg k (l.take (i+1))).1),?_,⟨i+1,i+1,rfl,Ta _,hi,?_⟩,?_⟩
      ·simp only[Ca,hn,ZX,Ib,kN hsz,Aa,hap,hw,zH,hpt,he]
      ·rw[hpt];simp
      ·simp only[Ib];omega
     |false=>
      rw[Ha (by rw[hv];simp)]at hpt;refine⟨(((fr:Int),((i+1:Nat):Int)),(Fg k (l.take (i+1))).1),?_,⟨i+1,fr,rfl,by omega,hi,?_⟩,?_⟩
      ·simp only[Ba,zH,hw,hpt]
      ·rw[hpt,htk,he,mg (by rw[Fe];omega)]
      ·simp only[Ib];omega
    ·have hil:i=l.length:=by omega
     subst hil;rw[Ie]at he ⊢;refine .inr (.inl ⟨((fr:Int),(Fg k l).1),by simp only[Ze,Ba],?_⟩);rw[he,Yb];congr 2;omega
   ·rw[zm8]
    -- the last part is behind
    have key: ∀(m:List zb) (a:List (List zb)×List zb) (p:List zb),a.2<:+p->(m.foldl (Cg k) a).2<:+p++m:=by
     intro m
     induction m with
     |nil=>intro a p h;simpa using h
     |cons v m ih=>
      intro a p h;rw[Ld];have:(Cg k a v).2<:+p++[v]:=by
       unfold Cg;split
       ·exact List.nil_suffix
       ·obtain⟨q,hq⟩:=h;exact⟨q,by rw[<-hq,Jb]⟩
      have:=ih _ _ this
      rwa [Jb]at this
    have hsuf:=key l ([],[]) [] (Je _);rw[Bc]at hsuf;have hdr:List.drop (l.length - (Fg k l).2.length) l=(Fg k l).2:=by unfold Fg;exact(List.suffix_iff_eq_drop.1 hsuf).symm
    have hsz:szL (Fg k l).2<=big:=by have:=Al hsuf.sublist;unfold Fg;omega
    have hle:(Fg k l).2.length<=l.length:=by unfold Fg;exact hsuf.length_le
    have hn:(decide ((0:Int)<=((l.length - (Fg k l).2.length:Nat):Int))&&decide (((l.length - (Fg k l).2.length:Nat):Int)<=(l.length:Int)))=true:=by simp only[Ea,ja];omega
    have hpl:=(FC k l ([],[])).2.1;have hap:ZE (Fg k l).1.length 1 24=true:=qI (by
     unfold Fg;unfold big at h;simp only[Eb]at hpl;omega)
    simp only[hn,ZX,Ib,hdr,kN hsz,Aa,hap];rfl
 ·have h2:(errS l != 0)=true:=Df.2 h1;rw[Ha h1];simp only[h2,Ca]
set_option maxRecDepth 100000
inductive Cuts (k:Int):List zb->List (List zb)->Prop
 |one (p:List zb) (h: ∀x∈p,(x.token.kind==k)=false):Cuts k p [p]
 |more (p:List zb) (s:zb) (v:List zb) (ps:List (List zb)) (h: ∀x∈p,(x.token.kind==k)=false) (hs:(s.token.kind==k)=true) (hc:Cuts k v ps):Cuts k (p++s::v) (p::ps)
theorem KO(k:Int): ∀(l:List zb) (d:List (List zb)) (c:List zb),(∀x∈c,(x.token.kind==k)=false)-> ∃qs,(l.foldl (Cg k) (d,c)).1++[(l.foldl (Cg k) (d,c)).2]=d++qs/\Cuts k (c++l) qs
 |[],d,c,h=>⟨[c],rfl,by rw[Xb];exact .one c h⟩
 |v::l,d,c,h=>by
  rw[Ld];cases hv:v.token.kind==k with
  |true=>
   obtain⟨qs,h1,h2⟩:=KO k l (d++[c]) [] (fun x hx=>by cases hx);refine⟨c::qs,?_, .more c v l qs h hv h2⟩;rw[show Cg k (d,c) v=(d++[c],[]) by unfold Cg;rw[Ka hv],h1,Jb];rfl
  |false=>
   obtain⟨qs,h1,h2⟩:=KO k l d (c++[v]) (fun x hx=>by
    rcases Ec.1 hx with hx|hx
    ·exact h x hx
    ·rw[Ic.1 hx];exact hv)
   refine⟨qs,?_,by rw[Jb]at h2;exact h2⟩;rw[show Cg k (d,c) v=(d,c++[v]) by unfold Cg;rw[Ha (by rw[hv];decide)],h1]
theorem PX(k:Int)(l:List zb):Cuts k l (Ng k l):=by obtain⟨qs,h1,h2⟩:=KO k l [] [] (fun x hx=>by cases hx);have:Ng k l=qs:=h1;rw[this];exact h2
theorem XY{k:Int}{v:List zb}{ps:List (List zb)}(h:Cuts k v ps):0<ps.length:=by cases h<;>simp
theorem uQ(d:List zb): ∃r,d=trimB d++r/\(∀x∈r,isSp x=true)/\(trimB d=[]\/ ∃t v,trimB d=t++[v]/\isSp v=false):=by
 induction hn:d.length generalizing d with
 |zero=>
  obtain rfl:=Ag.1 hn;exact⟨[],rfl,fun x hx=>(by cases hx), .inl rfl⟩
 |succ n ih=>
  rcases Bp d with rfl|⟨t,v,rfl⟩
  ·cases hn
  ·rw[uq];cases hv:isSp v with
   |true=>
    rw[Ka rfl];obtain⟨r,h1,h2,h3⟩:=ih t (by rw[Ma]at hn;simpa using hn);refine⟨r++[v],by rw[<-Jb,<-h1],fun x hx=> ?_,h3⟩;rcases Ec.1 hx with hx|hx
    ·exact h2 x hx
    ·rw[Ic.1 hx];exact hv
   |false=> rw[Ha (by decide)];exact⟨[],(Xb _).symm,fun x hx=>(by cases hx), .inr ⟨t,v,rfl,hv⟩⟩
theorem OJ: ∀(v:List zb),∃a,v=a++v.dropWhile isSp/\(∀x∈a,isSp x=true)/\ ∀x b,v.dropWhile isSp=x::b->isSp x=false
 |[]=>⟨[],rfl,fun x hx=>(by cases hx),fun x b h=>(by cases h)⟩
 |y::v=>by
  obtain⟨a,h1,h2,h3⟩:=OJ v;cases hy:isSp y with
  |true=>
   rw[List.dropWhile_cons_of_pos hy];refine⟨y::a,by rw[Ab,<-h1],fun x hx=> ?_,h3⟩;rcases Kb.1 hx with rfl|hx
   ·exact hy
   ·exact h2 x hx
  |false=> rw[List.dropWhile_cons_of_neg (by rw[hy];decide)];exact⟨[],rfl,fun x hx=>(by cases hx),fun x b h=>(by cases h;exact hy)⟩
theorem yI{x:zb}: ∀{l:List zb},x∈l->Mh x<=Za l
 |[],h=>by cases h
 |y::l,h=>by
  rw[Za];rcases Kb.1 h with rfl|h
  ·omega
  ·have:=yI h;omega
theorem QX{a b:List zb}(h:a.Sublist b):Za a<=Za b:=by
 induction h with
 |slnil=>exact Ta _
 |cons v _ ih=>rw[Za];omega
 |cons_cons v _ ih=>rw[Za,Za];omega
theorem rJ(v:List zb):(trimS v).Sublist v:=(Ul _).trans (jb _)
theorem zI3(l:List zI)(x:zI):selI (l++[x])=max (selI l) (oneI x):=by
 induction l with
 |nil=>obtain⟨⟩:=x;rw[Bc,selI,selI,selI];exact Nat.max_comm ..
 |cons a l ih=>obtain⟨⟩:=a;rw[Ab,selI,selI,ih];omega
theorem zI6(l:List zO)(x:zO):selP (l++[x])=max (selP l) (selI x.simples):=by
 induction l with
 |nil=>obtain⟨⟩:=x;rw[Bc,selP,selP,selP];exact Nat.max_comm ..
 |cons a l ih=>obtain⟨⟩:=a;rw[Ab,selP,selP,ih];omega
theorem zI5(l:List zm)(x:zm):selL (l++[x])=max (selL l) (selP x.parts):=by
 induction l with
 |nil=>obtain⟨⟩:=x;rw[Bc,selL,selL,selL];exact Nat.max_comm ..
 |cons a l ih=>obtain⟨⟩:=a;rw[Ab,selL,selL,ih];omega
theorem bO(x:zI):oneI x<=1+selL x.list:=by unfold oneI;cases innS x<;>simp only[Ca,Ba]<;>omega
theorem Rx{v:zb}(h:Zf v.token.kind≠0):Mh v=1+Za v.list:=by rw[VC,Ha h]
theorem eT(l:List Str)(x:Str)(h:l.length<=big):slices_Index_string (l,x)=some (idxS (fun v=>x==v) l):=by
 unfold slices_Index_string;refine ni l (fun v=>x==v) h (fun i hi=> ?_) ?_
 ·simp only[Zb hi,Ca,zN hi,za,Aa]
 ·simp only[Ze,Ba]
theorem zS(x:zI):zt (zW x)=9+x.name.length+x.value.length+zL zh x.list:=QV x
theorem zHs{v:List zb}(hz:zL zA v<=big):Has (BF v) fun y=>zt (zW y.1)<=9+2*zL zA v/\y.1.list=[]:=by
 have hv:v.length<=big:=Db (zLen v) hz;have tl: ∀n,(ig v n).text.length<=big:=fun n=>Db (Hq v n) hz;have fin: ∀(k:Int) (n m:Nat) (o:Int) (f:Bool),zt (zW ⟨k,lowS (ig v n).text,o,(ig v m).text,f,⟨0,0⟩,false,[]⟩)<=9+2*zL zA v/\([]:List zm)=[]:=fun k n m o f=>by refine⟨?_,rfl⟩;rw[zS];have:=Hq v n;have:=Hq v m;have:=Yp (ig v n).text;simp only[Dh];omega
 have fin0: ∀(k:Int) (n:Nat) (o:Int) (f:Bool),zt (zW ⟨k,lowS (ig v n).text,o,[],f,⟨0,0⟩,false,[]⟩)<=9+2*zL zA v/\([]:List zm)=[]:=fun k n o f=>by refine⟨?_,rfl⟩;rw[zS];have:=Hq v n;have:=Yp (ig v n).text;simp only[Dh,Eb];omega
 unfold BF;refine bSp (n:=0) hv (by omega) fun _ a _ ha=> ?_;refine bPk0 hv (by omega) ?_;refine bLow (tl a) ?_;refine bPk0 hv (by omega) ?_;refine Has.bif (fun _=>Has.some (fin0 ..)) fun hk=> ?_;have hla:a<v.length:=Gu fun e=>by(try dsimp only at hk);rw[e]at hk;cases hk
 dsimp only;rw[at1 hv (n:=a) (by omega)];refine bSp hv (by omega) fun _ b _ hb=> ?_;refine Has.eqb (bB ..) ?_;refine Has.bif (fun _=>Has.some (fin0 ..)) fun _=> ?_;refine Has.join (P:=fun j=> ∃m:Nat,m<=v.length+1/\j.2.1=⟨v,(m:Int)⟩/\ ∃o:Int,j.2.2=(3,lowS (ig v a).text,o,[],false,0,0,false)) ?_ fun j hj=> ?_
 ·refine bBy hv (by omega) ?_ fun hlt=> ?_
  ·refine Has.bif (fun h=>nomatch h) fun _=> ?_;refine bPk0 hv (by omega) ?_;refine Has.bind (P:=fun _=>True) ?_ fun i _=> ?_
   ·exact Has.need (Ga (by show(5:Nat)<_;decide)) (Has.some trivial)
   ·refine Has.bif (fun _=>Has.some (fin0 ..)) fun hk=> ?_;have hlb:b<v.length:=Gu fun e=>by(try dsimp only at hk);rw[e]at hk;cases hk
    dsimp only;rw[at1 hv (n:=b) (by omega)];refine bBy hv (by omega) ?_ fun hlt=> ?_
    ·exact Has.bif (fun _=>Has.some (fin0 ..)) fun h=>nomatch h
    ·exact Has.bif (fun h=>nomatch h) fun _=>Has.some ⟨b+2,by omega,rfl,_,rfl⟩
  ·refine Has.bif (fun _=>Has.some ⟨b+1,by omega,rfl,_,rfl⟩) fun h=>nomatch h
 ·obtain⟨j1,j2,j3⟩:=j;obtain⟨m,hm,e1,o,e2⟩:=hj;have e1:j2=_:=e1;have e2:j3=_:=e2;subst e1 e2;dsimp only;refine bSp hv (by omega) fun _ c _ hc=> ?_;refine bPk0 hv (by omega) ?_;refine Has.bif (fun _=>Has.some (fin0 ..)) fun hk=> ?_;have hlc:c<v.length:=Gu fun e=>by(try dsimp only at hk);rw[e]at hk;cases hk
  dsimp only;rw[at1 hv (n:=c) (by omega)];refine bSp hv (by omega) fun _ d _ hd=> ?_;refine bPk0 hv (by omega) ?_;refine Has.bif (fun hk=> ?_) fun _=> ?_
  ·have hld:d<v.length:=Dn hk (by decide);dsimp only;rw[at1 hv (n:=d) (by omega)];refine bSp hv (by omega) fun _ e _ he=> ?_;refine Has.eqb (oo (tl d) (by decide)) ?_;refine Has.eqb (bB ..) ?_;refine Has.bind (P:=fun _=>True) (Has.cond (fun _=>Has.of (oo (tl d) (by decide)) trivial) fun _=>trivial) fun _ _=> ?_;exact Has.some (fin ..)
  ·exact Has.eqb (bB ..)<|Has.some (fin ..)
theorem zJq{s:Str}(h:s.length<=big):Has (yE s) fun y=>zt (zW y.1)=9/\(y.2=true->oneI y.1=0):=by
 have fin: ∀(k:Int) (a:VAnb),zt (zW ⟨k,[],0,[],false,a,false,[]⟩)=9:=fun k a=>by rw[zS];rfl
 unfold yE;refine bLow h ?_;refine Has.bif (fun _=>Has.some ⟨fin ..,fun _=>rfl⟩) fun _=>Has.bif (fun _=>Has.some ⟨fin ..,fun _=>rfl⟩) fun _=> ?_;refine Has.eqb (show Tz ()=some _ from rfl) ?_;refine bLow h ?_;refine Has.bind (P:=fun _=>True) ?_ fun i _=>Has.some ⟨fin ..,fun hb=> ?_⟩
 rotate_left
 ·have h0:0<=i/\i<5:=by
   cases h1:decide (i>=0)with
   |false=>rw[h1]at hb;cases hb
   |true=>rw[h1]at hb;exact⟨Fb h1,Fb hb⟩
  have:i=0\/i=1\/i=2\/i=3\/i=4:=by omega
  rcases this with rfl|rfl|rfl|rfl|rfl<;>rfl
 exact Has.of (eT _ _ (by decide)) trivial
def okT(l:List zf):Prop:= ∀t∈l,t.text.length<=big/\t.unit.length<=big
theorem UI{l:List zf}(h:okT l)(n:Nat):okT (l.drop n):=fun t ht=>h t (List.mem_of_mem_drop ht)
theorem RI{l:List zf}{β:Type}{Q:β->Prop}{f:zf->Option β}(h:l≠[])(g: ∀t∈l,Has (f t) Q):Has (za (geti l 0) f) Q:=by
 cases l with
 |nil=>exact absurd rfl h
 |cons a r=>exact Has.eqb (show geti (a::r) 0=some a from rfl) (g a (Pb ..))
theorem Vt{α:Type}{l:List α}(h:l≠[]):decide (1<=(l.length:Int))=true:=by have:=Ih.2 h;exact Ga (by omega)
theorem KD{l:List zf}(h:okT l):Has (qZ ⟨l⟩) fun y=>okT y.l:=by
 unfold qZ;refine Has.loop (fun s=>okT s.l) (fun s=>s.l.length) (P:=fun s=>okT s.l) h (fun⟨l⟩ hs=> ?_) fun x hx=>Has.some hx;cases l with
 |nil=>exact Has.of (y:=LO.out (⟨[]⟩:zY)) rfl hs
 |cons a r=> refine Has.eqb (y:=a) (by rw[nk];rfl) ?_;refine Has.bif (fun _=> ?_) fun _=>Has.some hs;refine Has.need (Vt (by simp)) (Has.some ⟨UI hs 1,?_⟩);show(List.drop 1 (a::r)).length<(a::r).length;simp
theorem sH{l:List zf}(h:okT l)(k:Int):Has (Tv (k,⟨l⟩)) fun y=>okT y.2.l/\y.1.1.text.length<=big/\y.1.1.unit.length<=big:=by
 unfold Tv;cases l with
 |nil=>exact Has.of (y:=((⟨0,[],0,[],false⟩,false),(⟨[]⟩:zY))) rfl ⟨h,by decide,by decide⟩
 |cons a r=> refine Has.eqb (y:=a) (by rw[ZH];rfl) ?_;refine Has.bif (fun _=>Has.some ⟨h,Ra _,Ra _⟩) fun _=> ?_;refine RI (by simp) fun t ht=> ?_;exact Has.need (Vt (by simp)) (Has.some ⟨UI h 1,h t ht⟩)
theorem bQ{l:List zf}(h:okT l):Has (kz ⟨l⟩) fun y=>okT y.2.l:=by unfold kz;exact Has.bind (sH h 10) fun y hy=>Has.some hy.1
theorem IY{l:List zf}(h:okT l):Has (dz ⟨l⟩) fun y=>okT y.2.l:=by
 unfold dz;cases l with
 |nil=>exact Has.of (y:=(0,(⟨[]⟩:zY))) rfl h
 |cons a r=> refine Has.eqb (y:=a) (by rw[ZH];rfl) ?_;refine Has.bif (fun _=>Has.some h) fun _=> ?_;refine RI (by simp) fun t ht=> ?_;refine Has.bind (P:=fun _=>True) (Has.need (Ga (by show(3:Nat)<_;decide)) (Has.some trivial)) fun _ _=> ?_;refine RI (by simp) fun u hu=> ?_;refine Has.bind (P:=fun _=>True) (Has.cond (fun _=>Has.of (show geti (a::r) 0=some a from rfl) trivial) fun _=>trivial) fun _ _=> ?_;exact Has.bif (fun _=>Has.need (Vt (by simp)) (Has.some (UI h 1))) fun _=>Has.some h
theorem X6(s p:Str):stringslite_HasPrefix (s,p)=some (p.isPrefixOf s):=by
 have h:=Tp s p;unfold strings_HasPrefix at h;dsimp only at h;cases hx:stringslite_HasPrefix (s,p)with
 |none=>rw[hx]at h;cases h
 |some y=>rw[hx]at h;exact h
theorem aC(s p:Str):Has (strings_CutPrefix (s,p)) fun y=>y.1.length<=s.length/\(y.2=true->s=p++y.1):=by
 unfold strings_CutPrefix stringslite_CutPrefix;refine Has.bind (P:=fun y=>y.1.length<=s.length/\(y.2=true->s=p++y.1)) ?_ fun y hy=>Has.some hy;refine Has.eqb (X6 s p) ?_;refine Has.bif (fun _=>Has.some ⟨Ta _,fun h=>nomatch h⟩) fun h=> ?_;have hp:p<+:s:=by rw[Bool.not_eq_false']at h;exact af.1 h
 have hl:=hp.length_le;refine Has.need (by rw[Ea,ja,ja];dsimp only;omega) (Has.some ⟨by dsimp only;rw[Yb];omega,fun _=> ?_⟩);obtain⟨t,rfl⟩:=hp;dsimp only;rw[List.drop_left]
theorem PN{p:UInt8->Bool}: ∀{l:Str},l.dropWhile p=[]-> ∀b∈l,p b=true
 |[],_,b,hb=>by cases hb
 |a::r,h,b,hb=>by
  rw[Kc]at h;cases ha:p a with
  |false=>rw[ha]at h;cases h
  |true=>
   rw[ha,Ka rfl]at h;rcases Kb.1 hb with rfl|hb
   ·exact ha
   ·exact PN h b hb
theorem dw_head{p:UInt8->Bool}: ∀{l:Str} {a:UInt8} {r:Str},l.dropWhile p=a::r->p a=false
 |[],_,_,h=>by cases h
 |c::l,a,r,h=>by
  rw[Kc]at h;cases hc:p c with
  |true=>rw[hc,Ka rfl]at h;exact dw_head h
  |false=> rw[hc,Ha (by decide)]at h;injection h with h1 _;rw[<-h1];exact hc
theorem zJg{p:UInt8->Bool}{l:Str}(h:((l.reverse.dropWhile p).reverse).dropWhile p=[]): ∀b∈l,p b=true:=by
 have h1:=PN h;cases hD:l.reverse.dropWhile p with
 |nil=>exact fun b hb=>PN hD b (List.mem_reverse.2 hb)
 |cons a r=> have h2:=h1 a (by rw[hD];simp);rw[dw_head hD]at h2;cases h2
theorem RQ: ∀(l:Str) (M acc:Nat),(∀b∈l,48<=b.toNat/\b.toNat<=57)->oU (Lib.parseUintM M acc l)=false
 |[],M,acc,_=>by unfold Lib.parseUintM;rfl
 |c::r,M,acc,h=>by
  unfold Lib.parseUintM;rw[Ka (h c (Pb ..))];split
  ·rfl
  ·split
   ·rfl
   ·exact RQ r M _ fun b hb=>h b (Lb _ hb)
theorem zF9{d:Str}(hl:d.length<=big)(h0:d≠[])(h: ∀b∈d,48<=b.toNat/\b.toNat<=57):Has (uw (d,10,64)) fun _=>True:=by
 unfold uw;refine Has.need (by simp only[decide_true,Ya];exact Ga (by unfold big at hl;omega)) ?_;have hs:oU (Lib.parseIntB 64 d)=false:=by
  cases d with
  |nil=>exact absurd rfl h0
  |cons c r=>
   have hc:=h c (Pb ..);have:=RQ (c::r) (2 ^ 64 - 1) 0 h;have e:Lib.parseUintB 64 (if c.toNat=43\/c.toNat=45 then r else c::r)=Lib.parseUintM (2 ^ 64 - 1) 0 (c::r):=by rw[Ha (by omega)];unfold Lib.parseUintB;rw[Ha (by simp)]
   unfold Lib.parseIntB;dsimp only;rw[e];split
   ·rename_i e;rw[e]at this;cases this
   ·rfl
   ·split
    ·rfl
    ·split
     ·rfl
     ·rfl
 dsimp only;cases hp:Lib.parseIntB 64 d with
 |ok v=>exact Has.some trivial
 |range=>exact Has.some trivial
 |_=>rw[hp]at hs;cases hs
theorem XQ{s:Str}(hs:s.length<=big){l:List zf}(h:okT l):Has (xz (s,⟨l⟩)) fun y=>okT y.2.l:=by
 unfold xz;refine Has.join (P:=fun j=>okT j.2.l) ?_ fun j hj=> ?_
 ·refine Has.bif (fun _=>Has.some h) fun h45=>Has.bif (fun _=> ?_) fun _=> ?_
  ·refine Has.bind (aC s [45]) fun⟨d,is⟩ hd=> ?_;refine Has.bind (P:=fun z=>z=[]->is=true-> ∀b∈d,48<=b.toNat/\b.toNat<=57) (Has.cond (fun hc=> ?_) fun hc _ hi=> ?_) fun z hz=> ?_
   ·have hdl:=hd.1;refine Has.need (by
     rw[Ea,Ea];exact⟨⟨Ga (by dsimp only at *; unfold big at hs;omega),(show short [48,49,50,51,52,53,54,55,56,57]=true by decide)⟩,(show Oh [48,49,50,51,52,53,54,55,56,57]=true by decide)⟩) (Has.some fun hn _ b hb=> ?_)
    have:=zJg (p:=([48,49,50,51,52,53,54,55,56,57]:Str).contains) hn b hb;simp only[List.contains_eq_mem,ja,Kb,Ye,or_false]at this;rcases this with rfl|rfl|rfl|rfl|rfl|rfl|rfl|rfl|rfl|rfl<;>decide
   ·subst hi;cases hc
   ·refine Has.bif (fun _=>Has.some h) fun hf=> ?_;have hi:is=true:=by cases is<;>first|rfl|cases hf
    have hzn:z=[]:=by subst hi;replace hf:(!(z==[]))=false:=hf;rw[Bool.not_eq_false']at hf;exact Cb.1 hf
    have hdl:=hd.1;have hd2:=hd.2 hi;dsimp only at hdl hd2;refine Has.bind (zF9 (d:=d) (by omega) (fun e=> ?_) (hz hzn hi)) fun y _=> ?_
    ·rw[hd2,e]at h45;cases h45
    ·exact Has.join (P:=fun _=>True) (Has.bif (fun _=>Has.some trivial) fun _=>Has.some trivial) fun _ _=>Has.some h
  ·refine Has.bind (KD h) fun⟨l'⟩ hl'=> ?_;exact Has.bif (fun _=>Has.some hl') fun _=>Has.bind (IY hl') fun y hy=>Has.some hy
 ·obtain⟨j1,⟨j2⟩⟩:=j;refine Has.bind (KD hj) fun⟨l'⟩ hl'=> ?_;exact Has.bind (bQ hl') fun y hy=>Has.bif (fun _=>Has.some hy) fun _=>Has.some hy
theorem zGp{l:List zf}(h:okT l):Has (bG ⟨l⟩) fun y=>okT y.2.l:=by
 unfold bG;refine Has.bind (bQ h) fun⟨⟨n,is⟩,⟨l1⟩⟩ h1=> ?_;refine Has.bif (fun _=>Has.some h1) fun _=> ?_;refine Has.bind (sH h1 12) fun⟨⟨t,is2⟩,⟨l2⟩⟩ ⟨h2,ht⟩=> ?_;refine Has.bif (fun _=> ?_) fun _=> ?_
 ·refine bLow ht.2 ?_;refine Has.bind (aC _ _) fun⟨d,i3⟩ hd=> ?_;refine Has.bif (fun _=>Has.some h2) fun _=> ?_;exact Has.bind (XQ (by have:=hd.1;rw[Yp]at this;dsimp only at *; omega) h2) fun y hy=>Has.some hy
 ·refine Has.bind (IY h2) fun⟨sg,⟨l3⟩⟩ h3=> ?_;refine Has.bind (sH h3 1) fun⟨⟨t4,is4⟩,⟨l4⟩⟩ ⟨h4,ht4⟩=> ?_;refine Has.bif (fun _=>Has.some h4) fun _=> ?_;refine bLow ht4.1 ?_;have hll:=Yp t4.text;refine Has.join (P:=fun j=>okT j.2.1.l/\j.1.1.length<=big) ?_ fun⟨⟨j1,j2⟩,⟨j3⟩,j4⟩ ⟨hj,hjl⟩=> ?_
  ·refine Has.bif (fun _=> ?_) fun _=>Has.some ⟨h4,by dsimp only at *; omega⟩;refine Has.bif (fun _=>Has.some h4) fun _=>Has.bif (fun _=>Has.some h4) fun _=> ?_;refine Has.bind (aC _ _) fun⟨d,i5⟩ hd=> ?_;exact Has.bif (fun _=>Has.some ⟨h4,by have:=hd.1;dsimp only at *; omega⟩) fun _=>Has.some ⟨h4,by dsimp only at *; omega⟩
  ·refine Has.bind (aC _ _) fun⟨d,i5⟩ hd=> ?_;refine Has.bif (fun _=>Has.some hj) fun _=> ?_;exact Has.bind (XQ (by have:=hd.1;dsimp only at *; omega) hj) fun y hy=>Has.some hy
theorem zJ5{l:List zf}(h:okT l):Has (bH l) fun _=>True:=by unfold bH;refine Has.bind (KD h) fun⟨l1⟩ h1=> ?_;refine Has.bind (zGp h1) fun⟨⟨a,f⟩,⟨l2⟩⟩ h2=> ?_;refine Has.bind (KD h2) fun⟨l3⟩ h3=> ?_;refine Has.bind (P:=fun _=>True) (Has.cond (fun _=>Has.of (dR _) trivial) fun _=>trivial) fun _ _=> ?_;exact Has.bif (fun _=>Has.some trivial) fun _=>Has.some trivial
mutual
theorem zLE: ∀(v:zb) (t:zf),t∈tokV v->t.text.length<=zt (zA v)/\t.unit.length<=zt (zA v)
 |⟨a,l⟩,t,h=>by
  have hz:=Xx ⟨a,l⟩;dsimp only at hz;rw[tokV]at h;rcases Kb.1 h with rfl|h
  ·omega
  ·split at h
   ·cases h
   ·rcases Ec.1 h with h|h
    ·have:=lN l t h;omega
    ·obtain rfl:=Ic.1 h;exact⟨Ra _,Ra _⟩
theorem lN: ∀(l:List zb) (t:zf),t∈tokL l->t.text.length<=zL zA l/\t.unit.length<=zL zA l
 |[],t,h=>by rw[tokL]at h;cases h
 |v::l,t,h=>by
  rw[tokL]at h;rw[Z5];rcases Ec.1 h with h|h
  ·have:=zLE v t h;omega
  ·have:=lN l t h;omega
end
theorem zLD{l:List zb}(h:zL zA l<=big):okT (tokL l):=fun t ht=>by have:=lN l t ht;omega
def Uj(p:zg):Prop:= ∃(d:Nat) (h:Bool),d<=3/\p=⟨(d:Int),h⟩
theorem vO{p:zg}(hp:Uj p)(k:Int):Has (QF (p,k)) fun y=>Uj y.1:=by
 obtain⟨d,h,hd,rfl⟩:=hp;refine Has.of (ER hd h k) ?_;cases hc:(d==3||h&&k==14)with
 |true=>exact⟨0,false,by decide,rfl⟩
 |false=> refine⟨d+1,_,?_,rfl⟩;rw[Bf]at hc;have:=Da.1 hc.1;omega
theorem RU(v:List zb)(n:Nat):zL zA (v.drop n)<=zL zA v:=Hw (Ri ..)
theorem zNM(v:List zb)(n:Nat):zL zA (v.take n)<=zL zA v:=Hw (List.take_sublist ..)
theorem UV(v:List zb)(h:zL zA v<=big):szL v<=big:=Db (xh v) h
theorem zC3{v:List zb}(hz:zL zA v<=big):Has (Qy v) fun i=> -1<=i/\i<v.length:=by
 have hv:v.length<=big:=Db (zLen v) hz;unfold Qy;refine Has.of (ni v (fun y=>y.token.kind==1&&(lowS y.token.text==lowS [111,102])) hv (fun i hi=> ?_) ?_) (wN _ _)
 ·have ht:v[i].token.text.length<=big:=by have:=Hq v i;rw[dx hi]at this;omega
  simp only[Zb hi,Ca,zN hi,za,Aa,dK,oo ht (show([111,102]:Str).length<=big by decide),zQ];cases v[i].token.kind==1<;>rfl
 ·simp only[Ze,Ba]
section
variable {S:List zb×zg×Bool×Bool->Option (List zm×Bool)} {N:Nat}
variable (hS: ∀(l:List zb) (p:zg) (a b:Bool),Uj p->zL zA l<N->Has (S (l,p,a,b)) fun y=>zL zh y.1<=3*zL zA l/\selL y.1<=Za l) (hN:N<=big)
include hS hN
theorem zK2{v:List zb}(hz:zL zA v<N){p:zg}(hp:Uj p)(k:Int):Has (Hr S (⟨k,[],0,[],false,⟨0,0⟩,false,[]⟩,v,p)) fun y=>zt (zW y.1)<=9+3*zL zA v/\oneI y.1<=1+Za v:=by
 have fin: ∀(a:VAnb) (o:Bool) (l:List zm),(zL zh l<=3*zL zA v/\selL l<=Za v)->zt (zW ⟨k,[],0,[],false,a,o,l⟩)<=9+3*zL zA v/\oneI ⟨k,[],0,[],false,a,o,l⟩<=1+Za v:=fun a o l ⟨hl,hd⟩=>by refine⟨?_,Db (bO _) (Nat.add_le_add_left hd 1)⟩;rw[zS];simp only[Eb];omega
 have z0:zL zh []<=3*zL zA v/\selL []<=Za v:=⟨Ra _,by rw[selL];exact Ra _⟩;unfold Hr;refine Has.bind (zC3 (v:=v) (by omega)) fun i hi=> ?_;refine Has.join (P:=fun j=>(∃m:Nat,j.1=v.take m)/\ ∃(o:Bool) (l:List zm),j.2.1=⟨k,[],0,[],false,⟨0,0⟩,o,l⟩/\(zL zh l<=3*zL zA v/\selL l<=Za v)) ?_ fun j hj=> ?_
 ·refine Has.bif (fun h=> ?_) fun _=>Has.some ⟨⟨v.length,(Ie ..).symm⟩,false,[],rfl,z0⟩;have h0:0<=i:=Fb h;obtain⟨n,rfl⟩: ∃n:Nat,i=(n:Int):=⟨i.toNat,by omega⟩;have hl:=zLen v;have e1:w64 ((n:Int)+1)=((n+1:Nat):Int):=Ui (by unfold big at *; omega);refine Has.bind (vO hp _) fun q hq=> ?_;refine Has.need (by dsimp only;rw[e1,Ea,ja,ja];omega) ?_;refine Has.bind (hS _ _ _ _ hq (Nat.lt_of_le_of_lt (RU ..) hz)) fun y hy=> ?_;refine Has.bif (fun _=>Has.some (fin _ _ _ z0)) fun _=> ?_;refine Has.need (by rw[Ea,ja,ja];dsimp only;omega) ?_;refine Has.some ⟨⟨n,rfl⟩,true,y.1,rfl,?_,Db hy.2 (QX (Ri ..))⟩;have:=RU v (w64 ((n:Int)+1)).toNat;have hy:zL zh y.1<=3*zL zA (List.drop (w64 ((n:Int)+1)).toNat v):=hy.1;omega
 ·obtain⟨j1,j2,j3⟩:=j;obtain⟨⟨m,e1⟩,o,l,e2,hl⟩:=hj;have e1:j1=_:=e1;have e2:j2=_:=e2;subst e1 e2;dsimp only;have h1:=zNM v m;refine Has.eqb (YR (UV _ (by omega))) ?_;refine Has.bif (fun _=>Has.some (fin _ _ _ hl)) fun he=> ?_;refine Has.bind (zJ5 ?_) fun z _=>Has.some (fin _ _ _ hl);by_cases h0:errS (v.take m)=0
  ·rw[Ka h0];exact zLD (by omega)
  ·rw[Ha h0];exact fun t ht=>nomatch ht
theorem zIe{s:Str}(hs:s.length<=big){v:List zb}(hz:zL zA v<N){p:zg}(hp:Uj p):Has (QE S (s,v,p)) fun y=>zt (zW y.1)<=9+3*zL zA v/\oneI y.1<=1+Za v:=by
 have fin: ∀(k:Int) (l:List zm),(zL zh l<=3*zL zA v/\selL l<=Za v)->zt (zW ⟨k,[],0,[],false,⟨0,0⟩,false,l⟩)<=9+3*zL zA v/\oneI ⟨k,[],0,[],false,⟨0,0⟩,false,l⟩<=1+Za v:=fun k l ⟨hl,hd⟩=>by refine⟨?_,Db (bO _) (Nat.add_le_add_left hd 1)⟩;rw[zS];simp only[Eb];omega
 have z0:zL zh []<=3*zL zA v/\selL []<=Za v:=⟨Ra _,by rw[selL];exact Ra _⟩;unfold QE;refine Has.eqb (show Tz ()=some _ from rfl) ?_;refine bLow hs ?_;refine Has.bind (P:=fun _=>True) (Has.of (eT _ _ (by decide)) trivial) fun i _=> ?_;refine Has.bif (fun _=>Has.some (fin _ _ z0)) fun _=> ?_;refine Has.bif (fun _=> ?_) fun _=> ?_
 ·refine Has.bind (zK2 hS hN hz hp _) fun y hy=>Has.some ?_;dsimp only;rw[Qb];exact hy
 ·refine Has.bind (vO hp _) fun q hq=> ?_;refine Has.bif (fun _=>Has.some (fin _ _ z0)) fun _=> ?_;exact Has.bind (hS _ _ _ _ hq hz) fun y hy=>Has.some (fin _ _ hy)
theorem zBa{v:List zb}(hz:zL zA v<=N){p:zg}(hp:Uj p){n:Nat}(hn:n<=v.length):
  Has (Z0 S (p,⟨v,(n:Int)⟩)) fun y=> ∃m:Nat,y.2=⟨v,(m:Int)⟩/\n<=m/\m<=v.length+2/\(y.1.2=true->m<=v.length/\zL zW y.1.1+6*y.1.1.length+3*zT v n<=3*zT v m/\selI y.1.1<=Za v):=by
 have hv:v.length<=big:=by have:=zLen v;omega
 have tl: ∀n,(ig v n).text.length<=big:=fun n=>by have:=Hq v n;omega
 unfold Z0;refine Has.loop (fun s=> ∃m:Nat,s.1=⟨v,(m:Int)⟩/\n<=m/\m<=v.length/\zL zW s.2+6*s.2.length+3*zT v n<=3*zT v m/\selI s.2<=Za v) (fun s=>v.length - s.1.at_.toNat) (P:=fun _=>False)
  ⟨n,rfl,Ta _,hn,by show 0+6*0+_<=_;omega,by rw[selI];exact Ra _⟩ (fun s ⟨m,e,h1,h2,h3,hsd⟩=> ?_) fun x hx=>hx.elim
 obtain⟨s1,l⟩:=s;have e:s1=_:=e;subst e;dsimp only at h3 hsd ⊢;refine bPk1 hv (by omega) ?_;refine Has.join (P:=fun j=> ∃m':Nat,j.2.1=⟨v,(m':Int)⟩/\m<m'/\m'<=v.length+2/\j.2.2.1=l/\(j.1=true->m'<=v.length/\zt (zW j.2.2.2)+6+3*zT v m<=3*zT v m'/\oneI j.2.2.2<=Za v)) ?_ fun j hj=> ?_
 ·refine bPk0 hv (by omega) ?_;have zs: ∀(k:Int) (s:Str),zt (zW ⟨k,s,0,[],false,⟨0,0⟩,false,[]⟩)=9+s.length:=fun k s=>by rw[zS];simp only[Dh,Eb];omega
  refine Has.bif (fun hk=> ?_) fun _=>Has.bif (fun hk=> ?_) fun _=>Has.bif (fun hk=> ?_) fun _=>Has.bif (fun hk=> ?_) fun _=> ?_
  ·have hl:=Dn hk (by decide);have:=ek hl;refine Has.some ⟨m+1,by dsimp only;rw[at1 hv (n:=m) (by omega)],by omega,by omega,rfl,fun _=>⟨hl,?_,Ra _⟩⟩;dsimp only;rw[zs];omega
  ·have hl:m<v.length:=Gu fun e=>by rw[e]at hk;cases hk
   refine Has.some ⟨m+2,by dsimp only;rw[at2 hv (n:=m) (by omega)],by omega,by omega,rfl,fun hf=> ?_⟩;have hl2:=Dn hf (by decide);have:=ek hl;have:=ek hl2;have e2:zT v (m+1+1)=zT v (m+2):=rfl;refine⟨hl2,?_,Ra _⟩;dsimp only;rw[zs];omega
  ·have hl:=Dn hk (by decide);have h4:=ek hl;have h5:=uj v (m+1);refine Has.bind (P:=fun y=>y=v[m].list) ?_ fun y hy=> ?_
   ·unfold Q7;dsimp only;rw[Int.add_zero,Tn (by unfold big at *; omega),zN hl];exact Has.some rfl
   ·subst hy;refine Has.bind (zHs (by omega)) fun y ⟨hy,hy2⟩=> ?_;refine Has.some ⟨m+1,by dsimp only;rw[at1 hv (n:=m) (by omega)],by omega,by omega,rfl,fun _=>⟨hl,?_,?_⟩⟩
    ·dsimp only;rw[Qb];omega
    ·dsimp only;rw[Qb];refine Db (bO _) ?_;rw[hy2,selL];have:=yI (Ja hl);rw[Rx (by rw[<-dx hl,Cb.1 hk];decide)]at this;omega
  ·have hl:=Dn hk (by decide);have h4:=ek hl;refine Has.join (P:=fun j=>j.2.1=⟨v,(m:Int)⟩/\(j.1=true->m+1<v.length/\zt (zW j.2.2)+6+3*zT v m<=3*zT v (m+2)/\oneI j.2.2<=Za v)) ?_ fun j hj=> ?_
   ·refine Has.bif (fun hk2=> ?_) fun _=>Has.bif (fun hk2=> ?_) fun _=>Has.some ⟨rfl,fun h=>nomatch h⟩
    ·have hl2:=Dn hk2 (by decide);have h5:=ek hl2;refine Has.bind (zJq (tl _)) fun y ⟨hy,hy2⟩=>Has.some ⟨rfl,fun ht=>⟨hl2,?_,?_⟩⟩
     ·dsimp only;rw[Qb];show _+6+3*zT v m<=3*zT v (m+1+1);omega
     ·dsimp only;rw[Qb,hy2 ht];exact Ra _
    ·have hl2:=Dn hk2 (by decide);have h5:=ek hl2;have h6:=uj v (m+1+1);refine Has.bind (P:=fun y=>y=v[m+1].list) ?_ fun y hy=> ?_
     ·unfold Q7;dsimp only;rw[at1 hv (n:=m) (by omega),zN hl2];exact Has.some rfl
     ·subst hy;refine Has.bind (zIe hS hN (tl _) (by omega) hp) fun y ⟨hy,hy2⟩=>Has.some ⟨rfl,fun _=>⟨hl2,?_,?_⟩⟩
      ·dsimp only;rw[Qb];show _+6+3*zT v m<=3*zT v (m+1+1);omega
      ·dsimp only;rw[Qb];refine Db hy2 ?_;have:=yI (Ja hl2);rw[Rx (by rw[<-dx hl2,Cb.1 hk2];decide)]at this;exact this
   ·obtain⟨j1,j2,j3⟩:=j;obtain⟨e,h5⟩:=hj;have e:j2=_:=e;subst e;refine Has.some ⟨m+2,by dsimp only;rw[at2 hv (n:=m) (by omega)],by omega,by omega,rfl,fun hf=> ?_⟩;have h6:=h5 hf;refine⟨by omega,?_⟩;dsimp only at h6 ⊢;rw[Qb];exact h6.2
  ·exact Has.some ⟨m,rfl,h1,by omega,fun _=>⟨h2,h3,hsd⟩⟩
 ·obtain⟨j1,j2,j3,j4⟩:=j;obtain⟨m',e,h4,h5,e2,h6⟩:=hj;have e:j2=_:=e;have e2:j3=_:=e2;subst e e2;refine Has.bif (fun _=>Has.some ⟨m',rfl,by omega,h5,fun h=>nomatch h⟩) fun hf=> ?_;have hf:j1=true:=by cases j1<;>first|rfl|cases hf
  obtain⟨h7,h8,h10⟩:=h6 hf;have h9:=uj v m';dsimp only at h3 h8 h10 hsd;refine Has.need (qI (by dsimp only;unfold big at *; omega)) ?_;refine Has.some ⟨⟨m',rfl,by omega,h7,?_,?_⟩,?_⟩
  ·dsimp only;rw[Qb,wh,Z5,Dh,Ma,Fa,Eb];omega
  ·dsimp only;rw[Qb,zI3];exact Nat.max_le.2 ⟨hsd,h10⟩
  ·show v.length - (m':Int).toNat<v.length - (m:Int).toNat;omega
end
end Go.Lv.VT
