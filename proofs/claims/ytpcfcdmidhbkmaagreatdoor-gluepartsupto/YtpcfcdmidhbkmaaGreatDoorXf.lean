/- Written text: no later part of it has the same tokens. -/
import Derived.Test.YtpcfcdmidhbkmaaGreatDoorXe
set_option linter.unusedSimpArgs false
set_option linter.unusedVariables false
namespace Go.Lv.VT
set_option maxRecDepth 100000
theorem tK: ∀{l r:Str},clsS l=some r-> ∃a,l=a++42::47::r
 |[],r,h=>by cases h
 |c::t,r,h=>by
  rw[clsS]at h;split at h
  ·rename_i hc;rw[Ba,Sa,Sa]at hc;injection h with h;cases t with
   |nil=>exact absurd hc.2 (by decide)
   |cons d t=> have hd:d=47:=hc.2;rw[hc.1,hd];subst h;exact⟨[],rfl⟩
  ·obtain⟨a,e⟩:=tK h;exact⟨c::a,by rw[e];rfl⟩
theorem PL(q:Str):cmtS q=q\/cmtS q=[]\/ ∃a,q=a++42::47::cmtS q:=by
  rw[qE];split
  ·rename_i hp;obtain⟨t,et⟩:=Uc.1 hp;have ed:q.drop 2=t:=by rw[<-et];rfl
   have el:q.length=t.length+2:=by rw[<-et];simp
   rw[ed];cases hc:clsS t with
   |none=>exact .inr (.inl rfl)
   |some r=>
    obtain⟨a,e⟩:=tK hc;have h2:=(Jh t hc).2;have hlt:r.length<q.length:=by omega
    right;rcases PL r with h|h|⟨b,h⟩
    ·right;show∃a',_=a'++42::47::cmtS r;rw[h];exact⟨[47,42]++a,by rw[<-et,e,Ia]⟩
    ·exact .inl h
    ·right;refine⟨[47,42]++a++42::47::b,?_⟩;show _=_++42::47::cmtS r;have e2:q=[47,42]++(a++42::47::(b++42::47::cmtS r)):=by rw[<-h,<-e,et]
     rw[e2];simp only[Ia,Ta,Ya]
  ·exact .inl rfl
termination_by q.length
decreasing_by
 all_goals omega
theorem Lx{R:Str}{ts:List zb}{L:List Cmt}(h:Can R ts L): ∀C∈L,(∃x,R=x++(C.s++(cmtW++C.A)))/\(∃Y,ts=Y++(C.P++C.ts))/\PcT C.s C.P/\zV C.A=C.ts/\(∀t∈C.P,t.kind≠5/\t.kind≠7/\t≠⟨9,[42],0,[],false⟩)/\Us R (cmtW++C.A):=by
 induction h with
 |nil=>intro C hC;cases hC
 |no s A P ts L hp hA ht hq ih=> intro C hC;obtain⟨⟨x,e1⟩,⟨Y,e2⟩,h3,h4,h5,h6⟩:=ih C hC;obtain⟨n,k,_⟩:=mi hp;exact⟨⟨s++x,by rw[e1,Ia]⟩,⟨P++Y,by rw[e2,Ia]⟩,h3,h4,h5,zy (k A).2.1 h6⟩
 |cmt s A P ts L hp hA hne h1 ih=>
  intro C hC;obtain⟨n,k,_⟩:=mi hp;rcases Bb.1 hC with rfl|hC
  ·exact⟨⟨[],rfl⟩,⟨[],rfl⟩,hp,ni hA,h1,(k _).2.1⟩
  ·obtain⟨⟨x,e1⟩,⟨Y,e2⟩,h3,h4,h5,h6⟩:=ih C hC;exact⟨⟨s++(cmtW++x),by rw[e1,Ia,Ia]⟩,⟨P++Y,by rw[e2,Ia]⟩,h3,h4,h5,zy (k _).2.1 (zy (Wt A).2.1 h6)⟩
theorem NT{s:Str}{P Y:List zb}(h:PcT s P)(e:P=Y++[⟨9,[47],0,[],false⟩]):s=[47]:=by
 cases h with
 |one t h hb hu=>
  have:t=⟨9,[47],0,[],false⟩:=by have:=congrArg List.getLast? e;simpa using this
  subst this;exact Ci 47
 |back=> have:=congrArg List.getLast? e;simp at this
 |url l m b h hl hm=> have:=congrArg List.getLast? e;rw[<-Ta,List.getLast?_append]at this;simp at this
theorem sV{A:Str}(h:atS A 0≠42):zV (42::42::47::A)=[⟨9,[42],0,[],false⟩,⟨9,[42],0,[],false⟩,⟨9,[47],0,[],false⟩]++zV A:=by
 have e1:([47,42]:Str).isPrefixOf (47::A)=false:=by
  cases A with
  |nil=>rfl
  |cons d A=> show((47:UInt8)==47&&((42==d)&&true))=false;have:((42:UInt8)==d)=false:=Da.2 fun e=>h e.symm;rw[this];rfl
 rw[Zb (zM (l:=42::42::47::A) rfl),show zt (42::42::47::A)=(⟨9,[42],0,[],false⟩,42::47::A)from rfl,
  Zb (zM (l:=42::47::A) rfl),show zt (42::47::A)=(⟨9,[42],0,[],false⟩,47::A)from rfl,
  Zb (zM (l:=47::A) e1),show zt (47::A)=(⟨9,[47],0,[],false⟩,A)from rfl]
 rfl
def Pos(L:List Cmt)(q:Str):Prop:=Out L q\/ ∃C∈L,q=42::42::47::C.A/\C.s.getLast? =some 42
def Emb(R:Str)(L:List Cmt):Prop:=Gd R/\ ∀C∈L,(∃x,R=x++(C.s++(cmtW++C.A)))/\PcT C.s C.P/\Us R (cmtW++C.A)
theorem Lt{R:Str}{ts:List zb}{L:List Cmt}(h:Can R ts L):Emb R L:=⟨Ui h,fun C hC=>by
 obtain⟨h1,_,h3,_,_,h6⟩:=Lx h C hC;exact⟨h1,h3,h6⟩⟩
theorem rE{R:Str}{L:List Cmt}(h:Emb R L){q:Str}(hu:Us R q)(hne:cmtS q≠q):Pos L (cmtS q):=by
 have hm:=h.2;rcases PL q with e|e|⟨a,e⟩
 ·exact absurd e hne
 ·rw[e];exact .inl fun C hC=>⟨by simp,by simp,by simp⟩
 ·by_cases hb: ∃C∈L,cmtS q=42::42::47::C.A
  ·obtain⟨C,hC,e4⟩:=hb;refine .inr ⟨C,hC,e4,?_⟩;obtain⟨⟨x,e1⟩,h3,_⟩:=hm C hC;obtain⟨b,e3⟩:=Xv hu;rw[e4]at e;have e5:(b++a++[42])++(47::42::42::47::C.A)=(x++C.s)++(47::42::42::47::C.A):=by
    have:R=b++(a++42::47::42::42::47::C.A):=by rw[<-e3,e]
    rw[Ia,Ia,Ia];rw[e1]at this;exact this.symm
   have e6:=Ie e5;have:=congrArg List.getLast? e6;rw[List.getLast?_append,List.getLast?_append]at this;obtain⟨d,t,e7⟩:=Za (Qz h3);rw[e7]at this ⊢;simpa using this.symm
  ·left;intro C hC;obtain⟨⟨x,e1⟩,h3,_⟩:=hm C hC;obtain⟨b,e3⟩:=Xv hu;generalize hq:cmtS q=q' at e hb;refine⟨fun e4=>hb ⟨C,hC,e4⟩,fun e4=> ?_,fun e4=> ?_⟩
   ·rw[e4]at e;have:b++(a++[42,47,42,47])++C.A=(x++C.s)++[47,42,42,47]++C.A:=by
     have:R=b++(a++42::47::42::47::C.A):=by rw[<-e3,e]
     rw[e1]at this;simpa using this.symm
    have:=Ie this;rw[<-Ia]at this;have:=(List.append_inj' this rfl).2;exact absurd this (by decide)
   ·rw[e4]at e;have:(b++a)++[42,47,47]++C.A=(x++C.s++[47])++[42,42,47]++C.A:=by
     have:R=b++(a++42::47::47::C.A):=by rw[<-e3,e]
     rw[e1]at this;simpa using this.symm
    have:=Ie this;have:=(List.append_inj' this rfl).2;exact absurd this (by decide)
theorem Vm{R:Str}{L:List Cmt}(h:Emb R L){c:UInt8}{r:Str}(hu:Us R (c::r))(hc:cmtS (c::r)=c::r)(ho:Out L (c::r))(hf:Qc (zt (c::r)).1):
  Us R (cmtS (zt (c::r)).2)/\Pos L (cmtS (zt (c::r)).2):=by
 have g:=qR hu h.1;obtain⟨k1,_⟩:=Cm g hf;have hlt:uN (zt (c::r)).2<uN (c::r):=Bh k1 fun e=>by have:=(Qs c r).length_le;rw[e,Ka]at this;omega
 have hm:=h.2;have ho2:Out L (zt (c::r)).2:=by
  intro C hC;obtain⟨_,_,hU⟩:=hm C hC;have key: ∀(d:UInt8),stB d=true->(zt (c::r)).2≠[]->Us R (d::(zt (c::r)).2)->c::r=d::(zt (c::r)).2:=fun d hd hn hR=>
   gW hd g hf hn (Vh hu hR (by rw[Zn _ (Xp hd).2.2.2.1];omega))
  have u1:Us R (42::42::47::C.A):=zy hU (ZA (c:=47) (by decide));have u2:Us R (42::47::C.A):=zy u1 (ZA (by decide));refine⟨fun e=> ?_,fun e=> ?_,fun e=> ?_⟩
  ·have:=key 47 rfl (by rw[e];simp) (by rw[e];exact hU);rw[e]at this;rw[this]at hc;have hl:=congrArg List.length hc;rw[show cmtS (47::42::42::47::C.A)=cmtS C.A by rw[qE];rfl]at hl;have:=(oh C.A).length_le;simp only[Ka]at hl;omega
  ·have:=key 42 rfl (by rw[e];simp) (by rw[e];exact u1);rw[e]at this;exact(ho C hC).1 this
  ·have:=key 42 rfl (by rw[e];simp) (by rw[e];exact u2);rw[e]at this;exact(ho C hC).2.1 this
 have uq:=zy hu k1;refine⟨zy uq (Ug _ (qR uq h.1)),?_⟩;by_cases he:cmtS (zt (c::r)).2=(zt (c::r)).2
 ·rw[he];exact .inl ho2
 ·exact rE h uq he
theorem bL(A:Str):cmtS (42::42::47::A)=42::42::47::A/\(zt (42::42::47::A)).1=⟨9,[42],0,[],false⟩:=⟨zM rfl,rfl⟩
theorem wC{R:Str}{ts:List zb}{L:List Cmt}(h:Can R ts L): ∀(P:List zb) {q q':Str},(∀t∈P,Qc t)->(∀t∈P.drop 1,t≠⟨9,[42],0,[],false⟩)->P≠[]->Us R q->cmtS q=q->Out L q->run q P q'->
  Us R (cmtS q')/\Pos L (cmtS q')/\uN q'<uN q
 |[],_,_,_,_,hn,_,_,_,_=>absurd rfl hn
 |t::P,q,q',hf,hst,_,hu,hc,ho,hr=>by
  obtain⟨c,r,h1,h2,h3⟩:=hr;rw[hc]at h1;subst h1;have hft:Qc (zt (c::r)).1:=by rw[h2];exact hf t (Xb ..)
  have g:=qR hu (Ui h);obtain⟨k1,_⟩:=Cm g hft;have hlt:uN (zt (c::r)).2<uN (c::r):=Bh k1 fun e=>by have:=(Qs c r).length_le;rw[e,Ka]at this;omega
  obtain⟨k2,k3⟩:=Vm (Lt h) hu hc ho hft;cases P with
  |nil=> rw[run]at h3;subst h3;exact⟨k2,k3,hlt⟩
  |cons t' P=>
   have hst': ∀u∈t'::P,u≠⟨9,[42],0,[],false⟩:=hst;have k3':Out L (cmtS (zt (c::r)).2):=by
    rcases k3 with k3|⟨C,hC,k3,_⟩
    ·exact k3
    ·exfalso;obtain⟨c',r',g1,g2,_⟩:=h3;rw[k3]at g1;have:=(bL C.A).2;rw[g1,g2]at this;exact hst' t' (Xb ..) this
   obtain⟨k4,k5,k6⟩:=wC h (t'::P) (fun u hu=>hf u (Fb _ hu)) (fun u hu=>hst' u (Cf hu)) (by simp) k2 (ZR _) k3' ((tC (by simp)).2 h3);have:=Uf (Ug _ (qR k1 g));exact⟨k4,k5,by omega⟩
theorem DJ{s:Str}{P:List zb}(h:PcT s P): ∀t∈P.drop 1,t≠⟨9,[42],0,[],false⟩:=by
 cases h with
 |one t h hb hu=>intro t ht;cases ht
 |back=>
  intro t ht;have:t=tkSp:=by simpa using ht
  subst this;intro e;cases e
 |url l m b h hl hm=> intro t ht e;subst e;cases b<;>simp at ht
theorem yK{R:Str}{ts ts1:List zb}{L:List Cmt}(h:Can R ts L)(e:ts=⟨9,[42],0,[],false⟩::ts1): ∃A,R=42::A/\Can A ts1 L:=by
 have k: ∀{s:Str} {P ts':List zb},PcT s P->P++ts'=⟨9,[42],0,[],false⟩::ts1->s=[42]/\P=[⟨9,[42],0,[],false⟩]/\ts'=ts1:=fun {s P ts'} hp e=>by
  cases hp with
  |one t h hb hu=> injection e with e1 e2;subst e1;exact⟨Ci 42,rfl,e2⟩
  |back=>injection e with e1 _;cases e1
  |url l m b h hl hm=>injection e with e1 _;cases e1
 cases h with
 |nil=>cases e
 |no s A P ts L hp hA ht hq=> obtain⟨rfl,_,rfl⟩:=k hp e;exact⟨A,rfl,hA⟩
 |cmt s A P ts L hp hA hne h1=> obtain⟨_,hP,_⟩:=k hp e;exact absurd rfl (h1 ⟨9,[42],0,[],false⟩ (by rw[hP];simp)).2.2
def NumIn:Prop:= ∀{s E:Str} {t:zb},PcT s [t]->(t.kind=10\/t.kind=11\/t.kind=12)->(zt (s++E)).1=t->uN E<=uN (zt (s++E)).2+1->Gd E->atS E 0≠10->(∀d y,digB d=true->E≠46::d::y)->
 ∀{c:UInt8} {r:Str},Us (s++E) (c::r)->uN E<uN (c::r)->uN (c::r)+2<=uN (s++E)->(zt (c::r)).1=t->uN (zt (c::r)).2+2<=uN E
theorem yA{s:Str}{P:List zb}(h:PcT s P)(x:Str):atS (s++x) 0≠10:=by obtain⟨c,r,e⟩:=Za (Qz h);intro h10;rw[e]at h10;have hc:c=10:=h10;have:=sO h (by rw[e,hc];rfl);rw[e,hc]at this;cases this
theorem II{A:Str}{ts:List zb}{L:List Cmt}(h:Can A ts L):atS A 0≠10:=by
 cases h with
 |nil=>decide
 |no s A P ts L hp hA ht hq=>exact yA hp A
 |cmt s A P ts L hp hA hne h1=>exact yA hp _
theorem zBc{s:Str}{P:List zb}(h:PcT s P){x y:Str}{d:UInt8}(hd:digB d=true)(e:s++x=46::d::y):s=[46]/\P=[⟨9,[46],0,[],false⟩]:=by
 have h46:atS s 0=46:=by obtain⟨c,r,e2⟩:=Za (Qz h);rw[e2]at e ⊢;injection e with e3 _
 cases h with
 |one t h hb hu=>
  have hp:PcT (txS t) [t]:= .one t h hb hu;rcases Iu hp with h1|⟨n,p,U,t',_,e2,_⟩|⟨c,r,e2,hc,_⟩|⟨c,e2,hdl⟩|⟨k,h1,h2,e2⟩|e2
  ·have:=Dj h1;rw[h46]at this;exact absurd this (by decide)
  ·obtain⟨c,r,e3,k1,_⟩:=Uk n p U;rw[e2,e3]at h46;rw[show c=46 from h46]at k1;exact absurd k1 (by decide)
  ·rw[e2]at h46;rcases hc with rfl|rfl|rfl<;>exact absurd h46 (by simp[atS])
  ·have hc:c=46:=by rw[e2]at h46;exact h46
   subst hc;refine⟨e2,?_⟩;have:=Xi hp;rw[e2,Zb (zM (l:=[46]) rfl),show zt [46]=(⟨9,[46],0,[],false⟩,[])from rfl,ZE (zM (l:=[]) rfl)]at this;exact this.symm
  ·rw[e2]at h46;rcases uk h1 h2 with rfl|rfl|rfl|rfl|rfl|rfl|rfl|rfl|rfl|rfl|rfl|rfl<;>exact absurd h46 (by decide)
  ·rw[e2]at h46;exact absurd h46 (by decide)
 |back=>exact absurd h46 (by decide)
 |url l m b h hl hm=> have:=Dj (bn (Jo hl) ((if b then [32]else [])++34::(encB quoB m++[34])));rw[h46]at this;exact absurd this (by decide)
theorem GI{A:Str}{ts:List zb}{L:List Cmt}(h:Can A ts L)(d:UInt8)(y:Str)(hd:digB d=true):A≠46::d::y:=by
 intro e;have ht:=ni h;have hk: ∀{s:Str} {P ts:List zb} {x:Str},PcT s P->s++x=46::d::y->zV (s++x)=P++ts->False:=fun hp e ht=>by
  obtain⟨_,rfl⟩:=zBc hp hd e;rw[e,Zb (zM (l:=46::d::y) rfl)]at ht;injection ht with ht _;have hn:zt (46::d::y)=zk (46::d::y):=by have hnb:nbS (46::d::y)=true:=hd;rw[Qk,Fa (by decide),Fa (by decide),show((46:UInt8)==35)=false from rfl,Lc,Fa (by decide),hnb,Ea rfl]
  rw[hn]at ht;rcases iN (46::d::y)with k|k|k<;>rw[ht]at k<;>cases k
 cases h with
 |nil=>cases e
 |no s A P ts L hp hA ht hq=>exact hk hp e ht
 |cmt s A P ts L hp hA hne h1=>exact hk hp e ht
theorem Om{R:Str}{ts:List zb}{L:List Cmt}(h:Can R ts L):cmtS R=R:=by
 cases h with
 |nil=>exact zM rfl
 |no s A P ts L hp hA ht hq=>exact zM hq
 |cmt s A P ts L hp hA hne h1=>exact zM (Dw hp _ (by show(47:UInt8)≠42;decide))
theorem aJ{R:Str}{ts:List zb}{L:List Cmt}(h:Can R ts L):Out L R:=by
 intro C hC;obtain⟨⟨x,e⟩,_,_⟩:=Lx h C hC;have hl:C.A.length+4<=R.length:=by rw[e];simp only[Ga,Ka,Gc];omega
 refine⟨fun e2=> ?_,fun e2=> ?_,fun e2=> ?_⟩<;>(rw[e2]at hl;simp only[Ka]at hl;omega)
theorem Ps(hnum:NumIn): ∀(n:Nat) {R:Str} {ts:List zb} {L:List Cmt},R.length<=n->Can R ts L-> ∀q:Str,Us R q->uN q+2<=uN R->cmtS q=q->Pos L q->zV q≠ts
 |0,R,ts,L,hl,hR,q,hu,hm,hc,ho=>by have:R=[]:=Kc.1 (by omega);subst this;rw[Mw]at hm;omega
 |n+1,R,ts,L,hl,hR,q,hu,hm,hc,ho=>by
  intro hT;have hgR:=Ui hR;rcases ho with ho|⟨C,hC,eq,hlast⟩
  rotate_left
  ·-- the end of a comment of R
   obtain⟨_,⟨Y,eY⟩,h3,h4,h5,hU⟩:=Lx hR C hC;by_cases h42:atS C.A 0=42
   ·obtain⟨d,A2,eA⟩:=Za (show C.A≠[] by intro e;rw[e]at h42;exact absurd h42 (by decide));have e1:zV q=⟨9,[42],0,[],false⟩::⟨9,[42],0,[],false⟩::zV (47::C.A):=by
     rw[eq,Zb (zM (l:=42::42::47::C.A) rfl),show zt (42::42::47::C.A)=(⟨9,[42],0,[],false⟩,42::47::C.A)from rfl,
      Zb (zM (l:=42::47::C.A) rfl),show zt (42::47::C.A)=(⟨9,[42],0,[],false⟩,47::C.A)from rfl]
    rw[hT]at e1;obtain⟨R1,eR1,hR1⟩:=yK hR e1;obtain⟨R2,eR2,hR2⟩:=yK hR1 rfl;have uR2:Us R R2:=by rw[eR1,eR2];exact zy (ZA (by decide)) (ZA (by decide))
    have nR:uN R=uN R2+2:=by rw[eR1,eR2,Zn _ (by decide),Zn _ (by decide)]
    have hd:d=42:=by rw[eA]at h42;exact h42
    have u47:Us R (47::C.A):=zy hU (zy (ZA (c:=47) (by decide)) (zy (ZA (c:=42) (by decide)) (ZA (c:=42) (by decide))));have hcm:cmtS (47::C.A)≠47::C.A:=fun e=>by have:=Al (47::C.A);rw[e,eA,hd]at this;exact absurd this (by show¬(([47,42]:Str).isPrefixOf (47::42::A2)=false);simp[List.isPrefixOf])
    have uc:=Ug (47::C.A) (qR u47 hgR);have n47:uN (47::C.A)=uN C.A+1:=Zn _ (by decide);have nU:=Uf hU;have n4:uN (cmtW++C.A)=4+uN C.A:=(Wt C.A).1;have nQ:=Bh uc hcm;have nq:uN q=uN C.A+3:=by rw[eq,Zn _ (by decide),Zn _ (by decide),Zn _ (by decide)]
    have ml:uN (cmtS (47::C.A))+2<=uN R2:=by omega
    exact Ps hnum n (by rw[eR1,eR2]at hl;simp only[Ka]at hl;omega) hR2 _ (Vh uR2 (zy u47 uc) (by omega)) ml (ZR _) (rE (Lt hR) u47 hcm) (ql _)
   ·rw[eq,sV h42,h4]at hT;rw[<-hT,<-Ia]at eY;have e8:=Ie eY;have e9: ∃Y',C.P=Y'++[⟨9,[47],0,[],false⟩]:=by
     have:=congrArg List.getLast? e8;obtain⟨p,us,eP⟩:=pc_P h3;rw[List.getLast?_append]at this;have hl:C.P.getLast? =some ⟨9,[47],0,[],false⟩:=by rw[eP]at this ⊢;simpa using this.symm
     obtain⟨Y',hY⟩:=List.getLast?_eq_some_iff.1 hl;exact⟨Y',hY⟩
    obtain⟨Y',e9⟩:=e9;rw[NT h3 e9]at hlast;exact absurd hlast (by decide)
  cases hR with
  |nil=>rw[Mw]at hm;omega
  |no s A P ts L hp hA ht hq=>
   have hR':Can (s++A) (P++ts) L:= .no s A P ts L hp hA ht hq;have hAt:=ni hA;have hsl:A.length<=n:=by have:=Ib.2 (Qz hp);rw[Ga]at hl;omega
   obtain⟨t0,us,eP⟩:=pc_P hp;have hPn:P≠[]:=by rw[eP];simp
   obtain⟨m,hcu,hm2⟩:=mi hp;obtain⟨c1,c2,_⟩:=hcu A;obtain⟨q',hr,hT'⟩:=Eu hT;have hfin:=Im hp;obtain⟨o1,o2,o3⟩:=wC hR' P hfin (DJ hp) hPn hu hc ho hr;have hgq:=qR hu hgR;obtain⟨w1,w2⟩:=pq hgq hfin hr;have hcount:q≠A:=fun e=>by rw[e,hAt]at hT;have:=congrArg List.length hT;rw[Ga]at this;exact hPn (Kc.1 (by omega))
   -- what is left is a later part of A
   have key:uN q'+2<=uN A:=by
    by_cases hle:uN q<=uN A
    ·have:=Bh (Vh c2 hu hle) hcount;omega
    ·rcases hm2 with hm2|⟨t,rfl,hk⟩
     ·rcases w2 with w2|⟨w2,w3⟩
      ·omega
      ·rw[w2,ZE (zM rfl)]at hT';have hA0:uN A=0:=by rw[LQ hA hT'.symm,Mw]
       omega
     ·-- a number
      have hft:Qc t:=hfin t (Sb.2 rfl);obtain⟨c,r,h1,h2,h3⟩:=hr;rw[hc]at h1;subst h1;rw[run]at h3
      -- what it leaves in R
      obtain⟨c0,r0,e0⟩:=Za (show s++A≠[] by intro e;exact Qz hp (Jc.1 e).1);have hn:(zt (s++A)).1=t/\zV (zt (s++A)).2=ts:=by rw[e0]at ht hq ⊢;rw[Zb (zM hq)]at ht;injection ht with a b;exact⟨a,b⟩
      have hr0:uN A<=uN (zt (s++A)).2+1:=by
       rcases ic (uN (zt (s++A)).2+1) (uN A)with hlt|hge
       ·exfalso;have hn':=hn;rw[e0]at hn' hlt;obtain⟨p1,p2⟩:=Vm (Lt hR') (c:=c0) (r:=r0) (by rw[e0];exact .refl _) (by rw[<-e0];exact Om hR') (by rw[<-e0];exact aJ hR') (by rw[hn'.1];exact hft);have p3:=Uf (Ug _ (qR (Cm (by rw[<-e0];exact hgR) (by rw[hn'.1];exact hft)).1 (by rw[<-e0];exact hgR)));exact Ps hnum n hsl hA _ (Vh c2 p1 (by omega)) (by omega) (ZR _) p2 (by rw[ql];exact hn'.2)
       ·exact hge
      have:=hnum hp hk hn.1 hr0 (Ui hA) (II hA) (fun d y hd=>GI hA d y hd) hu (by omega) hm h2;rw[h3]at this;exact this
   have:=Uf (Ug q' (qR w1 hgq));exact Ps hnum n hsl hA _ (Vh c2 o1 (by omega)) (by omega) (ZR _) o2 (by rw[ql];exact hT')
  |cmt s A P ts L hp hA hne h1=>
   have hR':Can (s++(cmtW++A)) (P++ts) (⟨s,P,A,ts⟩::L):= .cmt s A P ts L hp hA hne h1;have hAt:=ni hA;have hsl:A.length<=n:=by have:=Ib.2 (Qz hp);rw[Ga,Ga]at hl;omega
   obtain⟨t0,us,eP⟩:=pc_P hp;have hPn:P≠[]:=by rw[eP];simp
   obtain⟨m,hcu,hm2⟩:=mi hp;obtain⟨c1,c2,_⟩:=hcu (cmtW++A);obtain⟨d1,d2,_⟩:=Wt A;obtain⟨q',hr,hT'⟩:=Eu hT;have hfin:=Im hp;obtain⟨o1,o2,o3⟩:=wC hR' P hfin (DJ hp) hPn hu hc ho hr;have hgq:=qR hu hgR;obtain⟨w1,w2⟩:=pq hgq hfin hr;have hcount:q≠A:=fun e=>by rw[e,hAt]at hT;have:=congrArg List.length hT;rw[Ga]at this;exact hPn (Kc.1 (by omega))
   have key:uN q'+2<=uN A:=by
    by_cases hle:uN q<=uN (cmtW++A)
    ·have hE:=Vh c2 hu hle;obtain⟨n1,n2,n3⟩:=ho _ (Xb ..);have hA2:Us A q:=by
      cases hE with
      |refl=> exfalso;have hl2:=congrArg List.length hc;rw[show cmtS (cmtW++A)=cmtS A by rw[qE];rfl]at hl2;have:=(oh A).length_le;rw[Ga]at hl2;simp only[Ka,Gc]at hl2;omega
      |step _ _ _ hE=>
       rw[Oh _ (by decide)]at hE;cases hE with
       |refl=>exact absurd rfl n1
       |step _ _ _ hE=>
        rw[Oh _ (by decide)]at hE;cases hE with
        |refl=>exact absurd rfl n2
        |step _ _ _ hE=>
         rw[Oh _ (by decide)]at hE;cases hE with
         |refl=>exact absurd rfl n3
         |step _ _ _ hE=>rwa [Oh _ (by decide)]at hE
     have:=Bh hA2 hcount;omega
    ·exfalso
     -- a token within the piece does not pass the comment's slash
     have hone: ∃t,P=[t]:=by
      cases hp with
      |one t h hb hu=>exact⟨t,rfl⟩
      |back=>
       exfalso;have e2:uN ([92,10]++(cmtW++A))=uN (cmtW++A)+2:=by show uN (92::10::(cmtW++A))=_;rw[dh,show unS (92::10::(cmtW++A))=10::(cmtW++A)from rfl,Zn _ (by decide)]
       omega
      |url l m b h hl hm=> exfalso;exact(h1 ⟨5,m,0,[],false⟩ (by simp)).1 rfl
     obtain⟨t,rfl⟩:=hone;have hft:Qc t:=hfin t (Sb.2 rfl);obtain⟨k5,k7,_⟩:=h1 t (Sb.2 rfl);obtain⟨c,r,g1,g2,g3⟩:=hr;rw[hc]at g1;subst g1;rw[run]at g3;have hst:=JM (d:=47) rfl hgq (by rw[g2];exact hft) (by rw[g2];exact k5) (by rw[g2];exact k7) (y:=42::42::47::A) (Vh hu c2 (show uN (cmtW++A)<=uN (c::r) by omega)) (fun e=>by
      have:uN (cmtW++A)=uN (c::r):=by rw[<-e];rfl
      omega)
     rw[g3]at hst;have hst2:uN (cmtW++A)<=uN q':=Uf hst;rcases hm2 with hm2|⟨t',e',hk⟩
     ·rcases w2 with w2|⟨w2,w3⟩
      ·omega
      ·rw[w2]at hst2;rw[Mw]at hst2;omega
     ·injection e' with e' _;subst e';have hpn:=Es hp (bE A);obtain⟨c0,r0,e0⟩:=Za (show s++(cmtW++A)≠[] by intro e;exact Qz hp (Jc.1 e).1);have hn:zt (s++(cmtW++A))=(t,cmtW++A):=by obtain⟨c',r',f1,f2,f3⟩:=hpn;rw[Om hR']at f1;rw[run]at f3;rw[f1];exact Hf f2 f3
      have:=hnum hp hk (by rw[hn]) (by rw[hn];show uN (cmtW++A)<=uN (cmtW++A)+1;omega) (qR c2 hgR) (by show(47:UInt8)≠10;decide) (fun d y hd e=>by injection e with e _;exact absurd e (by decide)) hu (by omega) hm g2;rw[g3]at this;omega
   have:=Uf (Ug q' (qR w1 hgq));have o2':Pos L (cmtS q'):=by
    rcases o2 with o2|⟨C,hC,o2,o3⟩
    ·exact .inl fun C hC=>o2 C (Fb _ hC)
    ·rcases Bb.1 hC with rfl|hC
     ·exfalso;have:=congrArg uN o2;rw[Zn _ (by decide),Zn _ (by decide),Zn _ (by decide)]at this;have h9:=Uf (Ug q' (qR w1 hgq));simp only at this;omega
     ·exact .inr ⟨C,hC,o2,o3⟩
   exact Ps hnum n hsl hA _ (Vh (zy c2 d2) o1 (by omega)) (by omega) (ZR _) o2' (by rw[ql];exact hT')
theorem yM{c:UInt8}{r:Str}(h:(zt (c::r)).1.kind=10\/(zt (c::r)).1.kind=11\/(zt (c::r)).1.kind=12):zt (c::r)=zk (c::r)/\nbS (c::r)=true:=by
 have hb:brS c r=3:=by rw[<-Qu c r];rcases h with h|h|h<;>rw[h]<;>rfl
 exact⟨by rw[Zh,hb,Mg],br_3 hb⟩
theorem jK: ∀{w x q:Str},(∀b∈w,b≠92)->Us (w++x) q->(∃a z,w=a++z/\z≠[]/\q=z++x)\/Us x q
 |[],x,q,_,h=> .inr h
 |b::w,x,q,hw,h=>by
  cases h with
  |refl=>exact .inl ⟨[],b::w,rfl,by simp,rfl⟩
  |step _ _ _ h=>
   rw[Oh _ (hw b (Xb ..))]at h;rcases jK (fun b hb=>hw b (Fb _ hb)) h with⟨a,z,h1,h2,h3⟩|h'
   ·exact .inl ⟨b::a,z,by rw[h1];rfl,h2,h3⟩
   ·exact .inr h'
theorem Uw: ∀{w:Str} (x:Str),(∀b∈w,b≠92)->uN (w++x)=w.length+uN x
 |[],x,_=>by rw[Ya,Gc];omega
 |b::w,x,h=>by rw[Ta,Zn _ (h b (Xb ..)),Uw x (fun b hb=>h b (Fb _ hb)),Ka];omega
theorem Ov(n:Int)(p:Bool): ∀b∈numT n p,b≠92:=by
 obtain⟨d1,_,_⟩:=di (n.natAbs / 1000);have hp:=Um (n:=n) (p:=p);rw[Pj];have hd: ∀{l:Str},l.all digB=true-> ∀b∈l,b≠92:=fun h b hb=>by rintro rfl;have:=Ub.1 h 92 hb;exact absurd this (by decide)
 intro b hb;rcases Tc.1 hb with hb|hb
 ·unfold sgT at hb;split at hb
  ·rw[Sb]at hb;subst hb;decide
  ·cases hb
 ·rcases Tc.1 hb with hb|hb
  ·exact hd d1 b hb
  ·cases he:(partT (n.natAbs%1000) p).isEmpty with
   |true=>rw[he]at hb;cases hb
   |false=>
    rw[he]at hb;rcases Bb.1 hb with hb|hb
    ·subst hb;decide
    ·exact hd hp b hb
theorem Ut{l r:Str}(h:expS l=some r):Us l r/\uN r+2<=uN l:=by
 refine⟨oH h,?_⟩;obtain⟨h1,h2,rfl⟩:=Aj h;cases l with
 |nil=>rcases h1 with h1|h1<;>exact absurd h1 (by decide)
 |cons c l=>
  have hc:c≠92:=by rcases h1 with h1|h1<;>(rw[show c=_ from h1];decide)
  rw[Zn l hc];have h3:=Gz l;have h4:uN (past digB (unsign l))<uN (unsign l):=Bh (QR ah _) fun e=>by
   have h2':digB (atS (unsign l) 0)=true:=h2;cases hu:unsign l with
   |nil=>rw[hu]at h2';exact absurd h2' (by decide)
   |cons d m=> rw[hu,past,Ea (by rw[hu]at h2';exact h2')]at e;have:=congrArg List.length e;have h5:=(qB digB m).length_le;rw[Ka]at this;omega
  have:=Uf h3;show uN (past digB (unsign l))+2<=_;omega
theorem Tz{l:Str}(h:zx l≠(l,true)): ∃d y,digB d=true/\l=46::d::y/\zx l=(past digB (d::y),false):=by
 unfold zx at h ⊢;cases hc:atS l 0==46&&digB (atS l 1)with
 |false=>rw[hc]at h;exact absurd rfl h
 |true=>
  rw[Ba,Sa]at hc;cases l with
  |nil=>exact absurd hc.1 (by decide)
  |cons c l=>
   cases l with
   |nil=>exact absurd hc.2 (by show¬digB 0=true;decide)
   |cons d y=> have h1:c=46:=hc.1;subst h1;exact⟨d,y,hc.2,rfl,rfl⟩
theorem Fu{w:Str}(h:w.all digB=true)(x:Str):(w++x).takeWhile digB=w++x.takeWhile digB:=List.takeWhile_append_of_pos fun b hb=>Ub.1 h b hb
theorem YL: ∀(k n:Nat),QN k n<=n*10 ^ k
 |0,n=>by rw[QN,Nat.pow_zero,je];exact Va _
 |k+1,n=>by
  rw[QN];have e:n*10 ^ (k+1)=10*n*10 ^ k:=by rw[Jg,Kg 10 n,bf,Kg (10 ^ k) 10]
  split
  ·exact Vd _ (Bf (by omega))
  ·rw[e];exact ib (YL k _) (Db _ (Nat.min_le_right ..))
theorem sD(cap:Nat): ∀(l:Str) (n:Nat),capF cap n l<=valG n l
 |[],n=>Va _
 |c::l,n=>by show capF cap (min cap (decN n c)) l<=valG (decN n c) l;refine ib (sD cap l _) ?_;rw[Xk l (min cap (decN n c)),Xk l (decN n c)];exact Nat.add_le_add_right (Db _ (Nat.min_le_right ..)) _
theorem Sw: ∀(l:Str),l.all digB=true->valG 0 l<10 ^ l.length
 |[],_=>by show 0<10 ^ 0;decide
 |c::l,h=>by
  rw[Ic,Ba]at h;have h1:=Sw l h.2;have hc:c.toNat - 48<=9:=by have:=h.1;unfold digB at this;rw[Ba,Jb,Jb]at this;omega
  show valG (decN 0 c) l<_;rw[Xk l (decN 0 c),Ka,Jg];have:decN 0 c=c.toNat - 48:=by unfold decN;omega
  rw[this];have h2:(c.toNat - 48)*10 ^ l.length<=9*10 ^ l.length:=Db _ hc;omega
theorem mU{l:Str}(h:l.all digB=true)(n:Nat):(l.take n).all digB=true:=by rw[Ub]at h ⊢;exact fun b hb=>h b (Xe hb)
theorem gB{A:Str}(hA:A.all digB=true){k:Nat}(hk:k<=A.length):thoV A (3 - (k:Int))<10 ^ (A.length - k)*1000:=by
 have hpos: ∀m:Nat,0<10 ^ m:=fun m=>Bf (by omega);unfold thoV;by_cases h:(3 - (k:Int))<0
 ·rw[Ea h,show(3 - (k:Int)).toNat=0 by omega,QN];have hl:(A.take ((A.length:Int)+(3 - (k:Int))).toNat).length=A.length+3 - k:=by rw[Rc];omega
  have h1:=Sw _ (mU hA ((A.length:Int)+(3 - (k:Int))).toNat);rw[hl,show A.length+3 - k=(A.length - k)+3 by omega,Nat.pow_add]at h1;exact Nat.lt_of_le_of_lt (sD ..) h1
 ·rw[Fa h];have h1:=Sw A hA;refine Nat.lt_of_le_of_lt (YL _ _) (Nat.lt_of_le_of_lt (Db _ (sD ..)) ?_);have e:10 ^ (A.length - k)*1000=10 ^ A.length*10 ^ (3 - (k:Int)).toNat:=by rw[show(1000:Nat)=10 ^ 3 from rfl,<-Nat.pow_add,<-Nat.pow_add];congr 1;omega
  rw[e];exact Nat.mul_lt_mul_of_pos_right h1 (hpos _)
theorem vR: ∀(u:Nat),10 ^ ((Lib.decDigits u).length - 1)<=u\/u=0:=by
 intro u
 induction u using Nat.strongRecOn with
 |_ u ih=>
  rw[Lib.decDigits];by_cases h:u<10
  ·rw[dif_pos h];by_cases h0:u=0
   ·exact .inr h0
   ·left;show 10 ^ 0<=u;omega
  ·rw[dif_neg h];left;rcases ih (u / 10) (by omega)with h1|h1
   ·have hl:1<=(Lib.decDigits (u / 10)).length:=Ib.2 (di (u / 10)).2.2;rw[Ga,Ae,show(Lib.decDigits (u / 10)).length+1 - 1=((Lib.decDigits (u / 10)).length - 1)+1 by omega,Jg];have:=Db 10 h1;omega
   ·omega
theorem zAV: ∀n,n<10000->QN 3 n=n*1000:=by
 intro n hn;have hm:ag=1000000000000:=rfl;by_cases h0:n=0
 ·subst h0;rfl
 ·rw[QN,Fa (by omega),Nat.min_eq_right (by omega),QN,Fa (by omega),Nat.min_eq_right (by omega),QN,Fa (by omega),Nat.min_eq_right (by omega),QN];omega
theorem BD(l:Str):(zk l).1.num=(numP l).val:=by
 unfold zk;split
 ·rfl
 ·split<;>rfl
theorem Wx{l:Str}(h:(zk l).1.kind=10):(zk l).2=(zo l).1/\(zk l).1.flag=(zo l).2:=by
 unfold zk at h ⊢;split
 ·rename_i h1;rw[Ea h1]at h;cases h
 ·rename_i h1;rw[Fa h1]at h;split
  ·rename_i h2;rw[Ea h2]at h;cases h
  ·exact⟨rfl,rfl⟩
theorem DD{l:Str}(h:(zk l).1.kind=12):(zk l).2=(zg (zo l).1).2/\(zk l).1.unit=(zg (zo l).1).1/\(zk l).1.flag=(zo l).2:=by
 unfold zk at h ⊢;split
 ·exact⟨rfl,rfl,rfl⟩
 ·rename_i h1;rw[Fa h1]at h;split at h<;>cases h
theorem IL{x:Str}(h:zx x=(x,true)):dotP x=none:=by have:=(kM x).2;rw[h]at this;exact Option.isNone_iff_eq_none.1 this.symm
theorem Dz{x:Str}(h:expS x=none):expP x=none:=by unfold expP;rw[Q6.1 h];rfl
theorem rz{x:Str}{d:UInt8}{y:Str}(hd:digB d=true)(hx:x=46::d::y){e:Str}(he:e=past digB (d::y)\/expS (past digB (d::y))=some e):uN e+2<=uN x:=by
 have h1:=Uf (QR ah y);have e1:past digB (d::y)=past digB y:=by rw[past,Ea hd]
 have hd92:d≠92:=by rintro rfl;exact absurd hd (by decide)
 rw[hx,Zn _ (by decide),Zn _ hd92];rcases he with rfl|he
 ·rw[e1];omega
 ·have:=(Ut he).2;rw[e1]at this;omega
theorem xL{s:Str}{P:List zb}{t:zb}(h:PcT s P)(e:P=[t]):Qc t/\s=txS t:=by
 cases h with
 |one t' h hb hu=> injection e with e _;subst e;exact⟨h,rfl⟩
 |back=>cases e
 |url l m b h hl hm=> exfalso;have:=congrArg List.length e;cases b<;>simp at this
theorem DV{b:Bool}{P:Str}{Fo:Option Str}(h:Fo=if b then none else some P):(Fo=none->b=true)/\(∀f,Fo=some f->f=P/\b=false):=by
 subst h;cases b with
 |true=>exact⟨fun _=>rfl,fun f h=>(by rw[Ea rfl]at h;cases h)⟩
 |false=>exact⟨fun h=>(by rw[Fa (by decide)]at h;cases h),fun f h=>(by rw[Fa (by decide)]at h;exact⟨(Option.some.inj h).symm,rfl⟩)⟩
def Mr(t:zb)(p:Bool)(U:Str):Prop:=(U=[]/\t.kind=10)\/(U=[37]/\t.kind=11/\p=false)\/(U=Qb t.unit/\t.kind=12/\t.unit≠[]/\Zc t.unit=true)
theorem fK{n:Int}{p:Bool}{U E Y:Str}{t:zb}(hU:Mr t p U)(hYd:U++E=Y)(hn0:(zk (numT n p++Y)).1=t)(hr0:uN E<=uN (zk (numT n p++Y)).2+1)(gY:Gd Y):
  expS (past digB Y)=none/\((partT (n.natAbs%1000) p).isEmpty=true\/t.kind≠10->zx (past digB Y)=(past digB Y,true))/\uN Y<=uN (past digB Y)+1/\(t.kind≠10->past digB Y=Y)/\(t.kind=10->Y=E):=by
 rcases hU with⟨hU,h10k⟩|⟨hU,h11,_⟩|⟨hU,h12,h0,hnn⟩
 ·have hYE:Y=E:=by rw[<-hYd,hU];rfl
  obtain⟨k1,_⟩:=Wx (l:=numT n p++Y) (by rw[hn0];exact h10k);rw[k1]at hr0;have hp1:=Uf (QR ah Y);cases he:(partT (n.natAbs%1000) p).isEmpty with
  |true=>
   rw[bi he]at hr0;have hw1:zx (past digB Y)=(past digB Y,true):=Cc fun hne=>by
    obtain⟨d,y,hd,hx,hwx⟩:=Tz hne;rw[hwx]at hr0;simp only at hr0;cases hexp:expS (past digB (d::y))with
    |none=> rw[hexp]at hr0;have:=rz hd hx (.inl rfl);simp only at hr0;rw[hYE]at hp1 this;omega
    |some e=> rw[hexp]at hr0;have:=rz hd hx (.inr hexp);simp only at hr0;rw[hYE]at hp1 this;omega
   rw[hw1]at hr0;simp only at hr0;cases hexp:expS (past digB Y)with
   |none=> rw[hexp]at hr0;simp only at hr0;exact⟨rfl,fun _=>hw1,by rw[hYE]at hr0 ⊢;exact hr0,fun h=>absurd h10k h,fun _=>hYE⟩
   |some e=> exfalso;rw[hexp]at hr0;have:=(Ut hexp).2;simp only at hr0;rw[hYE]at hp1 this;omega
  |false=>
   rw[Ti he]at hr0;cases hexp:expS (past digB Y)with
   |none=>
    rw[hexp]at hr0;simp only at hr0;exact⟨rfl,fun h=>h.elim (fun h=>(by cases h)) (fun h=>absurd h10k h),by rw[hYE]at hr0 ⊢;exact hr0,fun h=>absurd h10k h,fun _=>hYE⟩
   |some e=> exfalso;rw[hexp]at hr0;have:=(Ut hexp).2;simp only at hr0;rw[hYE]at hp1 this;omega
 ·have hY37:Y=37::E:=by rw[<-hYd,hU];rfl
  obtain⟨k1,k2,k3⟩:=XI E;rw[hY37,k1];exact⟨k3,fun _=>k2,by omega,fun _=>rfl,fun h=>by rw[h11]at h;cases h⟩
 ·have hYu:Y=Qb t.unit++E:=by rw[<-hYd,hU]
  obtain⟨k1,k2⟩:=Tt (Yk h0 hnn) E;rw[<-hYu]at k1 k2;rw[k1];refine⟨?_,fun _=>k2,by omega,fun _=>rfl,fun h=>by rw[h12]at h;cases h⟩;cases hexp:expS Y with
  |none=>rfl
  |some e=>
   exfalso;have hend:(zo (numT n p++Y)).1=e:=by
    cases he:(partT (n.natAbs%1000) p).isEmpty with
    |true=>rw[bi he,k1,k2];simp only[hexp]
    |false=>rw[Ti he,k1];simp only[hexp]
   obtain⟨m1,m2,_⟩:=DD (l:=numT n p++Y) (by rw[hn0];exact h12);rw[m1,hend]at hr0;rw[hn0,hend]at m2;obtain⟨x1,x2⟩:=Ut hexp;have:=(Vj e (qR x1 gY)).2;rw[<-m2]at this;have hcu:=(lD h0 hnn E).1;rw[<-hYu]at hcu;omega
theorem vX {n:Int} {p:Bool} {U E Y z0 z:Str} {t:zb} {c:UInt8} {r:Str} (hU:Mr t p U) (hk:t.kind=10\/t.kind=11\/t.kind=12) (htn:t.num=n) (hpf:t.kind≠11->t.flag=(partT (n.natAbs%1000) p).isEmpty)
  (h46: ∀d y,digB d=true->E≠46::d::y) (hnt:(zk (c::r)).1=t) (e1:numT n p=z0++z) (e2:z≠[]) (e3:c::r=z++Y) (hz2:2<=z0.length)
  (f1:expS (past digB Y)=none) (f2:(partT (n.natAbs%1000) p).isEmpty=true\/t.kind≠10->zx (past digB Y)=(past digB Y,true)) (f3:uN Y<=uN (past digB Y)+1) (f4:t.kind≠10->past digB Y=Y) (f5:t.kind=10->Y=E):
  uN (zk (c::r)).2+2<=uN E:=by
 -- its first digits
 have hg:=gp digB Y;have hga:=wo digB Y;generalize hgd:Y.takeWhile digB=g at*;generalize hx1:past digB Y=x1 at*;have hgl:uN Y=g.length+uN x1:=by
  rw[<-hg];exact Uw x1 fun b hb=>by rintro rfl;exact absurd (Ub.1 hga 92 hb) (by decide)
 have hg1:g.length<=1:=by omega
 have hval:(numP (c::r)).val=n:=by rw[<-BD,hnt,htn]
 obtain⟨D1,_,D3⟩:=di (n.natAbs / 1000);have hDb:=vR (n.natAbs / 1000);rw[Pj]at e1;generalize hD:Lib.decDigits (n.natAbs / 1000)=D at*;have hsgl:(sgT n).length<=1:=by unfold sgT;split<;>simp
 -- where the part begins
 rcases List.append_eq_append_iff.1 e1 with⟨a',ez,eW⟩|⟨c',es,_⟩
 rotate_left
 ·have:=congrArg List.length es;rw[Ga]at this;omega
 have hdig46:digB 46=false:=by decide
 -- ahead of the point
 have caseA: ∀(D':Str) (Fo:Option Str),D'.all digB=true->(Fo=none->(partT (n.natAbs%1000) p).isEmpty=true)->(∀f,Fo=some f->f.all digB=true/\f≠[])->z=D'++dotS Fo->D'.length+2<=D.length\/(n<0)->False:=by
  intro D' Fo hD' hFn hFs hzD hlen;have hsg:Qo c=false/\atS (c::r) 0=c:=by
   refine⟨?_,rfl⟩;have hc:digB c=true\/c=46:=by
    cases D' with
    |cons d D'=> rw[hzD]at e3;injection e3 with e3 _;rw[Ic,Ba]at hD';rw[e3];exact .inl hD'.1
    |nil=>
     cases Fo with
     |none=>exact absurd hzD e2
     |some f=> rw[hzD]at e3;injection e3 with e3 _;exact .inr e3
   rcases hc with hc|hc
   ·unfold Qo;rw[Da.2 (qd hc).2.1,Da.2 (qd hc).1];rfl
   ·rw[hc];rfl
  have hun:unsign (c::r)=c::r:=by unfold unsign;rw[hsg.2,hsg.1];rfl
  have hso:sgOf (c::r)=[]:=by unfold sgOf;rw[hsg.2,hsg.1];rfl
  have hP:numP (c::r)=⟨sgOf (c::r),(unsign (c::r)).takeWhile digB,dotP (past digB (unsign (c::r))),expP (zx (past digB (unsign (c::r)))).1⟩:=rfl;have hbound: ∃v:Nat,(numP (c::r)).val=(v:Int)/\v<10 ^ (D'.length+1)*1000:=by
   cases Fo with
   |none=>
    have hw1:=f2 (.inl (hFn rfl));have eq:c::r=D'++Y:=by rw[e3,hzD];simp[dotS]
    have e4:(c::r).takeWhile digB=D'++g:=by rw[eq,Fu hD',hgd]
    have e5:past digB (c::r)=x1:=by rw[eq,Uj _ _ hD',hx1]
    rw[hP,hun,hso,e4,e5,IL hw1,hw1,Dz f1];refine⟨thoV ((D'++g)++[]) (3 - ((0:Nat):Int)),rfl,?_⟩;have:=gB (A:=(D'++g)++[]) (by rw[Xa,Ue,hD',hga];rfl) (Xd _);refine Ac this (Db _ (yf (by omega) ?_));rw[Xa,Ga];omega
   |some f=>
    obtain⟨hfa,hfn⟩:=hFs f rfl;have eq:c::r=D'++46::(f++Y):=by rw[e3,hzD];simp[dotS]
    have e4:(c::r).takeWhile digB=D':=by rw[eq,Fu hD',List.takeWhile_cons,hdig46];simp
    have e5:past digB (c::r)=46::(f++Y):=by rw[eq,Uj _ _ hD',past,hdig46];rfl
    obtain⟨d,f',ef⟩:=Za hfn;have hd:digB d=true:=by rw[ef,Ic,Ba]at hfa;exact hfa.1
    have e6:dotP (46::(f++Y))=some (f++g):=by unfold dotP;rw[show atS (46::(f++Y)) 1=d by rw[ef];rfl,hd,show(atS (46::(f++Y)) 0==46&&true)=true from rfl,Ea rfl,show(46::(f++Y)).drop 1=f++Y from rfl,Fu hfa,hgd]
    have e7:zx (46::(f++Y))=(x1,false):=by unfold zx;rw[show atS (46::(f++Y)) 1=d by rw[ef];rfl,hd,show(atS (46::(f++Y)) 0==46&&true)=true from rfl,Ea rfl,show(46::(f++Y)).drop 1=f++Y from rfl,Uj _ _ hfa,hx1]
    rw[hP,hun,hso,e4,e5,e6,e7,Dz f1];refine⟨thoV (D'++(f++g)) (3 - ((f++g).length:Int)),?_,?_⟩
    ·show((thoV (D'++(f++g)) (3+0 - ((f++g).length:Int)):Nat):Int)=_;rw[Int.add_zero]
    ·have:=gB (A:=D'++(f++g)) (by rw[Ue,Ue,hD',hfa,hga];rfl) (k:=(f++g).length) (by simp only[Ga];omega);refine Ac this (Db _ (yf (by omega) ?_));simp only[Ga];omega
  obtain⟨v,hv,hvl⟩:=hbound;rw[hval]at hv;rcases hlen with hlen|hlen
  ·have h1:10 ^ (D.length - 1)<=n.natAbs / 1000:=by
    rcases hDb with h|h
    ·exact h
    ·rw[<-hD,h]at hlen;have:(Lib.decDigits 0).length=1:=by rw[UE rfl];rfl
     omega
   have h2:10 ^ (D'.length+1)<=10 ^ (D.length - 1):=yf (by omega) (by omega);have h3:n.natAbs=v:=by omega
   have h4:10 ^ (D'.length+1)*1000<=(n.natAbs / 1000)*1000:=Db _ (ib h2 h1);omega
  ·omega
 have hpe:=Um (n:=n) (p:=p);generalize hFo:(if(partT (n.natAbs%1000) p).isEmpty then none else some (partT (n.natAbs%1000) p))=Fo at*;obtain⟨fe1,fe2'⟩:=DV hFo.symm;have fe2: ∀f,Fo=some f->f=partT (n.natAbs%1000) p/\f.all digB=true/\f≠[]/\(partT (n.natAbs%1000) p).isEmpty=false:=fun f h=>by obtain⟨k1,k2⟩:=fe2' f h;subst k1;exact⟨rfl,hpe,fun e=>(by rw[e]at k2;cases k2),k2⟩
 have hneg:n<0\/sgT n=[]:=by
  by_cases h:n<0
  ·exact .inl h
  ·exact .inr (Fa h)
 rcases List.append_eq_append_iff.1 eW with⟨b',ea,eF⟩|⟨D',eDD,ezz⟩
 rotate_left
 ·-- some of the digits ahead of the point are there
  exfalso;refine caseA D' Fo ?_ fe1 (fun f h=>⟨(fe2 f h).2.1,(fe2 f h).2.2.1⟩) ezz ?_
  ·rw[eDD,Ue,Ba]at D1;exact D1.2
  ·rcases hneg with h|h
   ·exact .inr h
   ·left;rw[h,Ya]at ez;rw[eDD,Ga,<-ez];omega
 ·cases b' with
  |nil=>
   exfalso;rw[Ya]at eF;rw[Xa]at ea;refine caseA [] Fo rfl fe1 (fun f h=>⟨(fe2 f h).2.1,(fe2 f h).2.2.1⟩) eF.symm ?_;rcases hneg with h|h
   ·exact .inr h
   ·left;rw[h,Ya]at ez;rw[<-ea,<-ez,Gc];omega
  |cons b b''=>
   -- behind the point
   cases Fo with
   |none=>cases eF
   |some f=>
    obtain⟨ff,hfa,hfn,hfe⟩:=fe2 f rfl;injection eF with _ eF;have eF:f=b''++z:=eF;have hza:z.all digB=true:=by rw[eF,Ue,Ba]at hfa;exact hfa.2
    obtain⟨d,z',ezd⟩:=Za e2;have hcd:c=d:=by rw[ezd]at e3;injection e3
    have hdd:digB d=true:=by rw[ezd,Ic,Ba]at hza;exact hza.1
    have hsg:Qo (atS (c::r) 0)=false:=by rw[show atS (c::r) 0=c from rfl,hcd];unfold Qo;rw[Da.2 (qd hdd).2.1,Da.2 (qd hdd).1];rfl
    have hun:unsign (c::r)=c::r:=by unfold unsign;rw[hsg];rfl
    have e5:past digB (c::r)=x1:=by rw[e3,Uj _ _ hza,hx1]
    have hend:zo (c::r)=(match expS (zx x1).1 with|some r=>(r,false)|none=>zx x1):=by unfold zo;simp only;rw[hun,e5];rfl
    by_cases hw1:zx x1=(x1,true)
    ·rw[hw1]at hend;simp only[f1]at hend;exfalso;rcases hk with hk|hk|hk
     ·have:=(Wx (l:=c::r) (by rw[hnt];exact hk)).2;rw[hnt,hend,hpf (by rw[hk];decide),hfe]at this;cases this
     ·-- per cent
      have hgn:g=[]:=by have:=f4 (by rw[hk];decide);rw[this]at hgl;exact Kc.1 (by omega)
      have hp0:p=false:=by
       rcases hU with⟨_,h⟩|⟨_,_,h⟩|⟨_,h,_⟩
       ·rw[hk]at h;cases h
       ·exact h
       ·rw[hk]at h;cases h
      have hP:numP (c::r)=⟨sgOf (c::r),(unsign (c::r)).takeWhile digB,dotP (past digB (unsign (c::r))),expP (zx (past digB (unsign (c::r)))).1⟩:=rfl;have hso:sgOf (c::r)=[]:=by unfold sgOf;rw[hsg];rfl
      have e4:(c::r).takeWhile digB=z:=by rw[e3,Fu hza,hgd,hgn,Xa]
      rw[hP,hun,hso,e4,e5,IL hw1,hw1,Dz f1]at hval;have hzl:z.length<=3:=by have h1:=(Yi (r:=n.natAbs%1000) (by omega) p).2.1;rw[<-ff,eF,Ga]at h1;omega
      have hvz:=Sw z hza;have h1000:10 ^ z.length<=10 ^ 3:=yf (by omega) hzl;have hv:thoV (z++[]) 3=valG 0 z*1000:=by unfold thoV;rw[Xa,Fa (by omega),capG _ _ _ (by unfold ag;omega),show(3:Int).toNat=3 from rfl,zAV _ (by omega)]
      have hval':((thoV (z++[]) 3:Nat):Int)=n:=hval;rw[hv]at hval';have hpn:=GJ (n:=n) (p:=p);rw[hfe,hp0,Cb,Vb]at hpn;have:=Da.1 hpn.symm;omega
     ·have:=(DD (l:=c::r) (by rw[hnt];exact hk)).2.2;rw[hnt,hend,hpf (by rw[hk];decide),hfe]at this;cases this
    ·-- a point, and digits
     have hk10:t.kind=10:=Cc fun h=>hw1 (f2 (.inr h));obtain⟨d2,y2,hd2,hx2,hwx⟩:=Tz hw1;rw[(Wx (l:=c::r) (by rw[hnt];exact hk10)).1,hend,hwx];simp only;have hYE:=f5 hk10;have hgpos:1<=g.length:=by
      rcases Xg g.length with h|h
      ·have:g=[]:=Kc.1 h;rw[this,Ya,hYE]at hg;exact absurd (by rw[<-hg,hx2]) (h46 d2 y2 hd2)
      ·exact h
     cases hexp:expS (past digB (d2::y2))with
     |none=> have:=rz hd2 hx2 (.inl rfl);simp only;rw[hYE]at hgl;omega
     |some e=> have:=rz hd2 hx2 (.inr hexp);simp only;rw[hYE]at hgl;omega
theorem zA7(r:Str):nbS (37::r)=false:=rfl
theorem zBb:NumIn:=by
 intro s E t hp hk hn0 hr0 gE h10 h46 c r hu hlt hm hnt
 -- the text of the number, and what is behind
 obtain⟨n,p,U,hs,htn,hpf,hU⟩: ∃n p U,s=numT n p++U/\t.num=n/\(t.kind≠11->t.flag=(partT (n.natAbs%1000) p).isEmpty)/\Mr t p U:=by
  obtain⟨h,rfl⟩:=xL hp rfl;cases h with
  |cNum n f h1 h2 hf=>exact⟨n, !f,[],by rw[Bi,Xa],rfl,fun _=>(QU hf).symm, .inl ⟨rfl,rfl⟩⟩
  |cPct n h1 h2=>exact⟨n,false,[37],Pi n,rfl,fun h=>absurd rfl h, .inr (.inl ⟨rfl,rfl,rfl⟩)⟩
  |cDim n u f h1 h2 hf h0 h=>exact⟨n, !f,Qb u,Ri n u f,rfl,fun _=>(QU hf).symm, .inr (.inr ⟨rfl,rfl,h0,h⟩)⟩
  |cMark k h1 h2=>exfalso;simp only at hk;omega
  |cId=>simp at hk
  |cFn=>simp at hk
  |cAt=>simp at hk
  |cHash=>simp at hk
  |cStr=>simp at hk
  |cUrl=>simp at hk
  |cDel=>simp at hk
 have hq0:s++E=numT n p++(U++E):=by rw[hs,Ia]
 obtain⟨hbr,hnb⟩:=yM (c:=c) (r:=r) (by rw[hnt];exact hk);have hgR:Gd (s++E):=by obtain⟨m,hcu,_⟩:=mi hp;exact(hcu E).2.2 gE
 have gq:=qR hu hgR;have hw:=xM gq hnb;rw[hbr]at hnt;rw[hbr];rw[hq0]at hu hm hn0 hr0;rw[Uw _ (Ov n p)]at hm;rcases jK (Ov n p) hu with⟨z0,z,e1,e2,e3⟩|hY
 ·-- within the digits
  generalize hYd:U++E=Y at*;have hzr: ∀b∈z,b≠92:=fun b hb=>Ov n p b (by rw[e1];exact Yf _ hb);have huq:uN (c::r)=z.length+uN Y:=by rw[e3,Uw Y hzr]
  have hz2:2<=z0.length:=by have:=congrArg List.length e1;rw[Ga]at this;omega
  have gY:Gd Y:=by
   rw[hq0]at hgR;have h1: ∀{w:Str},(∀b∈w,b≠92)->Gd (w++Y)->Gd Y:=fun {w}=>by
    induction w with
    |nil=>exact fun _ h=>h
    |cons b w ih=>exact fun hw h=>ih (fun b hb=>hw b (Fb _ hb)) (lg h (hw b (Xb ..)))
   exact h1 (Ov n p) hgR
  rw[Si]at hn0 hr0;obtain⟨f1,f2,f3,f4,f5⟩:=fK hU hYd hn0 hr0 gY;exact vX hU hk htn hpf h46 hnt e1 e2 e3 hz2 f1 f2 f3 f4 f5
 ·-- behind the digits
  have hYl:=Uf hY;rcases hU with⟨rfl,_⟩|⟨rfl,h11,_⟩|⟨rfl,h12,h0,hnn⟩
  ·rw[Ya]at hYl;omega
  ·have:uN ([37]++E)=uN E+1:=Zn E (by decide);have h2:c::r=[37]++E:=tq hY (by omega);have h2:c::r=37::E:=h2;rw[h2]at hnb;rw[zA7]at hnb;cases hnb
  ·obtain⟨c1,_,_⟩:=lD h0 hnn E;have hne:c::r≠Qb t.unit++E:=fun e=>by have:=IB (jh (Yk h0 hnn) h10);rw[<-e,hnb]at this;cases this
   have h1:=Bh hY hne;have h2:=hw.2;rw[hnt]at h2;have:wT t=t.unit.length+1:=by unfold wT;rw[h12];rfl
   omega
def Jv:Nat->UInt8->Str->Bool
 |0,c,_=>spB c
 |1,c,_=>c==34||c==39
 |2,c,r=>c==35&&(letB (atS r 0)||escS r)
 |3,c,r=>nbS (c::r)
 |4,c,r=>[45,45,62].isPrefixOf (c::r)
 |5,c,r=>[60,33,45,45].isPrefixOf (c::r)
 |6,c,r=>c==64&&nmS r
 |7,c,r=>nmS (c::r)
 |8,c,_=>Nf c==0
 |_+9,_,_=>true
theorem JH: ∀(i:Nat) {c:UInt8} {r:Str},Jv i c r=true->brS c r<=i
 |0,c,r,h=>by have h:spB c=true:=h;unfold brS;(repeat' split)<;>first|decide|contradiction
 |1,c,r,h=>by have h:(c==34||c==39)=true:=h;unfold brS;(repeat' split)<;>first|decide|contradiction
 |2,c,r,h=>by have h:(c==35&&(letB (atS r 0)||escS r))=true:=h;unfold brS;(repeat' split)<;>first|decide|contradiction
 |3,c,r,h=>by have h:nbS (c::r)=true:=h;unfold brS;(repeat' split)<;>first|decide|contradiction
 |4,c,r,h=>by have h:[45,45,62].isPrefixOf (c::r)=true:=h;unfold brS;(repeat' split)<;>first|decide|contradiction
 |5,c,r,h=>by have h:[60,33,45,45].isPrefixOf (c::r)=true:=h;unfold brS;(repeat' split)<;>first|decide|contradiction
 |6,c,r,h=>by have h:(c==64&&nmS r)=true:=h;unfold brS;(repeat' split)<;>first|decide|contradiction
 |7,c,r,h=>by have h:nmS (c::r)=true:=h;unfold brS;(repeat' split)<;>first|decide|contradiction
 |8,c,r,h=>by have h:(Nf c==0)=true:=h;unfold brS;(repeat' split)<;>first|decide|contradiction
 |i+9,c,r,_=>ib (Mv c r) (by omega)
theorem LH(c:UInt8)(r:Str):Jv (brS c r) c r=true:=by
 rcases fA (Mv c r)with h|h|h|h|h|h|h|h|h|h<;>rw[h]
 ·exact br_0 h
 ·exact br_1 h
 ·exact br_2 h
 ·exact br_3 h
 ·exact br_4 h
 ·exact br_5 h
 ·exact br_6 h
 ·exact br_7 h
 ·exact br_8 h
 ·rfl
theorem IK{q x:Str}(h:escS q=true)(hx:atS x 0≠10):escS (q++x)=true:=by
 match q with
 |[]=>exact absurd h (by decide)
 |[c]=> unfold escS at h ⊢;rw[Ba]at h;show((c==92)&& !(atS x 0==10))=true;rw[show(c==92)=true from h.1,Da.2 hx];rfl
 |c::d::t=>exact h
theorem iR{q:Str}(x:Str)(h:nbS q=true):nbS (q++x)=true:=by
 have h1:undot (unsign q)≠[]:=by intro e;unfold nbS at h;rw[e]at h;exact absurd h (by decide)
 have h2:unsign q≠[]:=by intro e;rw[e]at h1;exact h1 rfl
 have h3:q≠[]:=by rintro rfl;exact h2 rfl
 unfold nbS at h ⊢;rw[(ZQ x h3).1,Hz x h2,qc x (Ib.2 h1)];exact h
theorem bK{m q:Str}(x:Str)(h:m.isPrefixOf q=true):m.isPrefixOf (q++x)=true:=by obtain⟨t,rfl⟩:=Uc.1 h;exact Uc.2 ⟨t++x,by rw[Ia]⟩
theorem lM: ∀(i:Nat) {c:UInt8} {r x:Str},Jv i c r=true->atS x 0≠10->Jv i c (r++x)=true
 |0,c,r,x,h,_=>h
 |1,c,r,x,h,_=>h
 |2,c,r,x,h,hx=>by
  have h:(c==35&&(letB (atS r 0)||escS r))=true:=h;show(c==35&&(letB (atS (r++x) 0)||escS (r++x)))=true;rw[Ba,Pb]at h ⊢;refine⟨h.1,h.2.imp (fun h=> ?_) (fun h=>IK h hx)⟩;have hr:r≠[]:=by rintro rfl;exact absurd h (by decide)
  rw[qc x (Ib.2 hr)];exact h
 |3,c,r,x,h,_=>iR (q:=c::r) x h
 |4,c,r,x,h,_=>bK (q:=c::r) x h
 |5,c,r,x,h,_=>bK (q:=c::r) x h
 |6,c,r,x,h,hx=>by have h:(c==64&&nmS r)=true:=h;show(c==64&&nmS (r++x))=true;rw[Ba]at h ⊢;exact⟨h.1,jh h.2 hx⟩
 |7,c,r,x,h,hx=>jh (q:=c::r) h hx
 |8,c,r,x,h,_=>h
 |_+9,_,_,_,_,_=>rfl
theorem KI{c:UInt8}{r x y:Str}(h:brS c (r++(x++y))=brS c r)(hx:atS x 0≠10)(hy:atS y 0≠10):brS c (r++x)=brS c r:=by have h1:brS c (r++x)<=brS c r:=JH _ (lM _ (LH c r) hx);have h2:brS c (r++(x++y))<=brS c (r++x):=JH _ (by rw[<-Ia];exact lM _ (LH c (r++x)) hy);omega
theorem Ay{x:Str}(y:Str)(hx:x≠[]):atS (x++y) 0=atS x 0:=qc y (Ib.2 hx)
theorem gJ{w x:Str}(hw:w≠[])(hn:expS w=none){e:Str}(he:expS (w++x)=some e):e.length<x.length:=by
 obtain⟨k1,k2,rfl⟩:=Aj he;obtain⟨c,t,rfl⟩:=Za hw;rw[Q6]at hn;have hc:(atS (c::t) 0==101||atS (c::t) 0==69)=true:=by rw[Pb,Sa,Sa];exact k1
 rw[hc,Nb]at hn;have hd:((c::t)++x).drop 1=t++x:=rfl;have hd2:(c::t).drop 1=t:=rfl;rw[hd]at k2 ⊢;rw[hd2]at hn;have hlt: ∀q:Str,digB (atS q 0)=true->(past digB q).length<q.length:=by
  intro q hq;cases q with
  |nil=>exact absurd hq (by decide)
  |cons d m=> rw[past,Ea (show digB d=true from hq),Ka];have:=(qB digB m).length_le;omega
 have hul:=hlt _ k2;have hle:(unsign (t++x)).length<=x.length:=by
  cases t with
  |nil=>
   rw[Ya];unfold unsign;split
   ·rw[ja];omega
   ·exact Va _
  |cons d t'=>
   obtain⟨u1,_⟩:=ZQ x (show d::t'≠[] by simp);rw[u1]at k2 ⊢;have:unsign (d::t')=[]:=Cc fun h=>by rw[qc x (Ib.2 h),hn]at k2;cases k2
   rw[this,Ya];exact Va _
 omega
theorem EK{w e:Str}(x:Str)(h:expS w=some e): ∃e',expS (w++x)=some e':=by
 cases hx:expS (w++x)with
 |some e'=>exact⟨e',rfl⟩
 |none=>
  exfalso;obtain⟨k1,k2,_⟩:=Aj h;rw[Q6]at hx;cases w with
  |nil=>rcases k1 with k1|k1<;>exact absurd k1 (by decide)
  |cons c t=>
   have hu:unsign t≠[]:=by intro e;rw[show(c::t).drop 1=t from rfl,e]at k2;exact absurd k2 (by decide)
   have ht:t≠[]:=by rintro rfl;exact hu rfl
   have hc:(atS ((c::t)++x) 0==101||atS ((c::t)++x) 0==69)=true:=by rw[Pb,Sa,Sa];exact k1
   rw[hc,Nb,show((c::t)++x).drop 1=t++x from rfl,(ZQ x ht).1,qc x (Ib.2 hu)]at hx;rw[show(c::t).drop 1=t from rfl,hx]at k2;cases k2
theorem iH{q x y:Str}(h:nmS (q++(x++y))=nmS q)(hx:atS x 0≠10)(hy:atS y 0≠10):nmS (q++x)=nmS q:=by
 cases hq:nmS q with
 |true=>exact jh hq hx
 |false=>
  cases hqx:nmS (q++x)with
  |false=>rfl
  |true=> have:=jh hqx hy;rw[Ia,h,hq]at this;cases this
theorem TR{q x y:Str}(hne:(zk q).2≠[])(h:zk (q++(x++y))=((zk q).1,(zk q).2++(x++y)))(hx:x≠[])(h10:atS x 0≠10)(hy:atS y 0≠10):zg3 q x:=by
 have he:=pz hne;have hlen:(x++y).length<(zk (q++(x++y))).2.length:=by rw[h];show _<((zk q).2++(x++y)).length;have:=Ib.2 hne;have e:=Ga (as:=(zk q).2) (bs:=x++y);omega
 have hend:=(AA (q++(x++y))).length_le;have hq2:ae q≠[]:=by intro e;rw[ZU,e]at he;exact he rfl
 have hq:q≠[]:=by rintro rfl;exact hq2 rfl
 have e2: ∀z,ae (q++z)=ae q++z:=fun z=>by unfold ae;rw[(ZQ z hq).1];exact Ki z hq2
 have hd:ae q=[46]->digB (atS x 0)=false:=fun e=>by
  cases hdx:digB (atS x 0)with
  |false=>rfl
  |true=>
   exfalso;have hw:zx (ae (q++(x++y)))=(past digB (x++y),false):=by
    rw[e2,e];unfold zx;have:digB (atS ([46]++(x++y)) 1)=true:=by show digB (atS (x++y) 0)=true;rw[Ay y hx];exact hdx
    rw[this];rfl
   have hle:(zo (q++(x++y))).1.length<=(x++y).length:=by
    have hp:=(qB digB (x++y)).length_le;rw[ZU,hw];simp only;split
    ·rename_i r hr;obtain⟨_,_,rfl⟩:=Aj hr;have h1:=(qB digB (unsign ((past digB (x++y)).drop 1))).length_le;have h2:(unsign ((past digB (x++y)).drop 1)).length<=((past digB (x++y)).drop 1).length:=by
      unfold unsign;split
      ·rw[ja];omega
      ·exact Va _
     rw[ja]at h2;show(past digB (unsign ((past digB (x++y)).drop 1))).length<=_;omega
    ·exact hp
   omega
 have hw:(zx (ae q)).1≠[]:=by intro e;rw[ZU,e]at he;exact he e
 have hd':ae q=[46]->digB (atS (x++y) 0)=false:=fun e=>by rw[Ay y hx];exact hd e
 have hnone: ∀z,expS (zx (ae q)).1=none->z<+:(x++y)->expS ((zx (ae q)).1++z)=none:=by
  intro z hn ⟨z',hz⟩;cases hexp:expS ((zx (ae q)).1++z)with
  |none=>rfl
  |some e=>
   exfalso;obtain⟨e',he'⟩:=EK z' hexp;rw[Ia,hz]at he';have hl:=gJ hw hn he';obtain⟨w1,_⟩:=Uz hw hd';have:(zo (q++(x++y))).1=e':=by rw[ZU,e2,w1];simp only[he']
   rw[this]at hend;omega
 obtain⟨a,b⟩:=Dp (x:=x) he hd (fun hn=>hnone x hn ⟨y,rfl⟩);obtain⟨a',_⟩:=Dp (x:=x++y) he hd' (fun hn=>hnone (x++y) hn (List.prefix_refl _));refine⟨a,b,iH (y:=y) ?_ h10 hy⟩;have hk:=congrArg (fun z:zb×Str=>z.1.kind) h;simp only at hk;unfold zk at hk;rw[a']at hk;simp only at hk;cases h1:nmS ((zo q).1++(x++y))with
 |true=>
  cases h2:nmS (zo q).1 with
  |true=>rfl
  |false=> exfalso;rw[h1,h2,Ea rfl,Fa (by decide)]at hk;split at hk<;>cases hk
 |false=>
  cases h2:nmS (zo q).1 with
  |false=>rfl
  |true=> exfalso;rw[h1,h2,Fa (by decide),Ea rfl]at hk;split at hk<;>cases hk
theorem eT{c:UInt8}{r x y:Str}(h1:(zt (c::r)).2≠[])(h2:zt (c::(r++(x++y)))=((zt (c::r)).1,(zt (c::r)).2++(x++y)))(hx:x≠[])(h10:atS x 0≠10)(hy:atS y 0≠10):
  zt (c::(r++x))=((zt (c::r)).1,(zt (c::r)).2++x):=by
 have hb:brS c (r++(x++y))=brS c r:=by rw[<-Qu,<-Qu c r,h2]
 refine Bq (KI hb h10 hy) h1 (fun hi=>iH (y:=y) ?_ h10 hy) (fun hi=>TR (y:=y) ?_ ?_ hx h10 hy)
 ·have:=congrArg (fun z:zb×Str=>z.1.flag) h2;rw[Zh,Zh c r,hb,hi]at this;exact this
 ·rw[Zh,hi,Mg]at h1;exact h1
 ·rw[Zh,Zh c r,hb,hi,Mg,Mg]at h2;exact h2
theorem OI{x y:Str}(hx:x≠[])(h10:atS x 0≠10)(hy:atS y 0≠10): ∀{ts:List zb} {q R:Str},run q ts R->R≠[]->run (q++(x++y)) ts (R++(x++y))->run (q++x) ts (R++x)
 |[],q,R,h,_,_=>by rw[run]at h;subst h;rfl
 |t::ts,q,R,h,hl,h'=>by
  obtain⟨c,r,h1,h2,h3⟩:=h;have h4:(zt (c::r)).2≠[]:=by intro e;have:=(Vi h3).length_le;rw[e]at this;exact hl (Kc.1 (by simpa using this))
  have hc: ∀z,cmtS (q++z)=c::(r++z):=fun z=>by rw[Jt (by rw[h1];exact Yt h4),h1];rfl
  obtain⟨c',r',g1,g2,g3⟩:=h';rw[hc]at g1;injection g1 with e1 e2;subst e1 e2;have hw2:(zt (c::(r++(x++y)))).2=(zt (c::r)).2++(x++y):=by
   rcases lF h4 (show x++y≠[] by intro e;exact hx (Jc.1 e).1) (by rw[g2,h2])with h5|h5
   ·exact h5
   ·have h43:=h5.2.1;have hts:ts=[]:=by
     cases ts with
     |nil=>rfl
     |cons u us'=> exfalso;rw[h43]at h3;obtain⟨c',r',e1,e2,e3⟩:=h3;rw[show cmtS [43]=[43]from zM rfl]at e1;injection e1 with e4 e5;subst e4 e5;have:=(Vi e3).length_le;have h9:=(Qs (43:UInt8) []).length_le;exact hl (Kc.1 (by simp only[Gc]at h9;omega))
    subst hts;rw[run]at g3 h3;rw[g3,h3]
  have hw:zt (c::(r++(x++y)))=((zt (c::r)).1,(zt (c::r)).2++(x++y)):=Hf (by rw[g2,h2]) hw2;have h6:=eT h4 hw hx h10 hy;refine⟨c,r++x,hc x,by rw[h6];exact h2,?_⟩;rw[h6];rw[hw]at g3;exact OI hx h10 hy h3 hl g3
def mkB(d:UInt8):Bool:=d==34||d==42
theorem Wj{d:UInt8}(h:mkB d=true):letB d=false/\fstB d=false/\digB d=false/\d≠92/\d≠45/\d≠43/\d≠46/\d≠62/\d≠60/\d≠33/\d≠101/\d≠69/\d≠10/\d≠47:=by unfold mkB at h;rw[Pb,Sa,Sa]at h;rcases h with rfl|rfl<;>decide
def Has(d:UInt8)(q:Str):Prop:= ∃a b,q=a++d::b
theorem Fh{d:UInt8}{q:Str}(h:Has d q):q≠[]:=by obtain⟨a,b,rfl⟩:=h;simp
theorem xJ{d c:UInt8}{q:Str}(h:Has d q):Has d (c::q):=by obtain⟨a,b,rfl⟩:=h;exact⟨c::a,b,rfl⟩
theorem pI{d:UInt8}{q r:Str}(h:Has d r)(hs:r<:+q):Has d q:=by obtain⟨a,b,rfl⟩:=h;obtain⟨x,rfl⟩:=hs;exact⟨x++a,b,by rw[Ia]⟩
theorem Np{d c:UInt8}{q:Str}(h:Has d (c::q))(hc:c≠d):Has d q:=by
 obtain⟨a,b,e⟩:=h;cases a with
 |nil=>injection e with e _;exact absurd e hc
 |cons x a=>injection e with _ e;exact⟨a,b,e⟩
theorem yt{p:UInt8->Bool}{d:UInt8}(hp:p d=false): ∀{q:Str},Has d q->Has d (past p q)
 |[],h=>absurd rfl (Fh h)
 |c::r,h=>by
  rw[past];split
  ·rename_i hc;exact yt hp (Np h (by rintro rfl;rw[hp]at hc;cases hc))
  ·exact h
theorem gy{d:UInt8}{q:Str}(h:Has d q)(h0:atS q 0≠d):Has d (q.drop 1):=by
 cases q with
 |nil=>exact absurd rfl (Fh h)
 |cons c r=>exact Np h h0
section
variable {d:UInt8} (hd:mkB d=true)
include hd
theorem Nq{q:Str}(h:Has d q):Has d (unsign q):=by
 obtain⟨_,_,_,_,f45,f43,_⟩:=Wj hd;unfold unsign;split
 ·rename_i hs;unfold Qo at hs;rw[Pb,Sa,Sa]at hs;refine gy h ?_;rcases hs with hs|hs<;>rw[hs]
  ·exact fun e=>f43 e.symm
  ·exact fun e=>f45 e.symm
 ·exact h
theorem JW{q:Str}(h:Has d q):Has d (undot q):=by
 obtain⟨_,_,_,_,_,_,f46,_⟩:=Wj hd;unfold undot;split
 ·rename_i hs;exact gy h (by rw[Sa.1 hs];exact fun e=>f46 e.symm)
 ·exact h
theorem tL{q:Str}(h:Has d q):Has d (zx q).1:=by
 obtain⟨_,_,fd,_,_,_,f46,_⟩:=Wj hd;unfold zx;split
 ·rename_i hs;rw[Ba,Sa]at hs;exact yt fd (gy h (by rw[hs.1];exact fun e=>f46 e.symm))
 ·exact h
theorem JY{q:Str}(h:Has d q):Has d (zo q).1:=by
 obtain⟨_,_,fd,_,_,_,_,_,_,_,f101,f69,_⟩:=Wj hd;have h1:=tL hd (yt fd (Nq hd h));unfold zo;simp only;split
 ·rename_i r hr;obtain⟨k1,_,rfl⟩:=Aj hr;refine yt fd (Nq hd (gy h1 ?_));rcases k1 with k1|k1<;>rw[k1]
  ·exact fun e=>f101 e.symm
  ·exact fun e=>f69 e.symm
 ·exact h1
theorem jD{q:Str}(h:Has d q)(x:Str):escS (q++x)=escS q:=by
 obtain⟨_,_,_,f92,_⟩:=Wj hd;cases q with
 |nil=>exact absurd rfl (Fh h)
 |cons c r=>
  cases r with
  |nil=>
   have hc:c=d:=by
    obtain⟨a,b,e⟩:=h;cases a with
    |nil=>injection e
    |cons y a=>injection e with _ e;exact absurd e.symm (by simp)
   have:(c==92)=false:=by rw[hc];exact Da.2 f92
   show((c==92)&&_)=((c==92)&&_);rw[this];rfl
  |cons e r=>rfl
theorem Iw{q:Str}(h:Has d q)(x:Str):nmS (q++x)=nmS q:=by
 obtain⟨_,_,_,_,f45,_⟩:=Wj hd;cases q with
 |nil=>exact absurd rfl (Fh h)
 |cons c r=>
  unfold nmS;rw[show atS ((c::r)++x) 0=c from rfl,show atS (c::r) 0=c from rfl,jD hd h x];cases hc:c==45 with
  |false=>rfl
  |true=>
   have hr:Has d r:=Np h (by rw[Sa.1 hc];exact fun e=>f45 e.symm);rw[Ea rfl,Ea rfl,show((c::r)++x).drop 1=r++x from rfl,show(c::r).drop 1=r from rfl,jD hd hr x,
    show atS ((c::r)++x) 1=atS (r++x) 0 from rfl,show atS (c::r) 1=atS r 0 from rfl,qc x (Ib.2 (Fh hr))]
theorem zAl{q:Str}(h:Has d q)(x:Str):nbS (q++x)=nbS q:=by unfold nbS;rw[(ZQ x (Fh h)).1,Hz x (Fh (Nq hd h)),qc x (Ib.2 (Fh (JW hd (Nq hd h))))]
omit hd in
theorem WI{d:UInt8}{m:Str}(hm: ∀b∈m,b≠d): ∀{q:Str},Has d q-> ∀x,m.isPrefixOf (q++x)=m.isPrefixOf q:=by
 induction m with
 |nil=>intros;rw[List.isPrefixOf,List.isPrefixOf]
 |cons a m ih=>
  intro q h x;cases q with
  |nil=>exact absurd rfl (Fh h)
  |cons c r=>
   rw[Ta,List.isPrefixOf,List.isPrefixOf];cases hac:a==c with
   |false=>rfl
   |true=> have:Has d r:=Np h (by rw[<-Sa.1 hac];exact hm a (Xb ..));rw[ih (fun b hb=>hm b (Fb _ hb)) this x]
theorem RQ{c:UInt8}{r:Str}(h:Has d r)(x:Str):brS c (r++x)=brS c r:=by
 obtain⟨_,_,_,_,f45,_,_,f62,f60,f33,_⟩:=Wj hd;have e:c::(r++x)=(c::r)++x:=rfl;have hc:Has d (c::r):=xJ h;have m1: ∀b∈([45,45,62]:Str),b≠d:=by
  intro b hb;simp only[Bb,Sd,Rf]at hb;rcases hb with rfl|rfl|rfl
  ·exact fun e=>f45 e.symm
  ·exact fun e=>f45 e.symm
  ·exact fun e=>f62 e.symm
 have m2: ∀b∈([60,33,45,45]:Str),b≠d:=by
  intro b hb;simp only[Bb,Sd,Rf]at hb;rcases hb with rfl|rfl|rfl|rfl
  ·exact fun e=>f60 e.symm
  ·exact fun e=>f33 e.symm
  ·exact fun e=>f45 e.symm
  ·exact fun e=>f45 e.symm
 unfold brS;rw[e,zAl hd hc,WI m1 hc,WI m2 hc,Iw hd h,Iw hd hc,jD hd h,qc x (Ib.2 (Fh h))]
theorem BR{w:Str}(h:Has d w)(x:Str)(hn:expS w=none):expS (w++x)=none:=by
 obtain⟨_,_,_,_,_,_,_,_,_,_,f101,f69,_⟩:=Wj hd;cases w with
 |nil=>exact absurd rfl (Fh h)
 |cons c r=>
  rw[Q6]at hn ⊢;rw[show atS ((c::r)++x) 0=c from rfl];rw[show atS (c::r) 0=c from rfl]at hn;cases hc:(c==101||c==69)with
  |false=>rfl
  |true=>
   have hr:Has d r:=Np h (by
    rintro rfl;rw[Pb,Sa,Sa]at hc;rcases hc with hc|hc
    ·exact f101 hc
    ·exact f69 hc)
   rw[hc,Nb]at hn;rw[Nb,show((c::r)++x).drop 1=r++x from rfl,(ZQ x (Fh hr)).1,qc x (Ib.2 (Fh (Nq hd hr)))];exact hn
theorem fT{c:UInt8}{r:Str}(h:Has d r)(x:Str)(hn:(zt (c::r)).2≠[]):zt (c::(r++x))=((zt (c::r)).1,(zt (c::r)).2++x):=by
 obtain⟨_,_,fd,_,_,_,f46,_⟩:=Wj hd;refine Bq (RQ hd h x) hn (fun _=>Iw hd h x) (fun hb=> ?_);rw[Zh,hb,Mg]at hn;have hne:=pz hn;have hc:Has d (c::r):=xJ h;have hq2:Has d (ae (c::r)):=yt fd (Nq hd hc);obtain⟨a,b⟩:=Dp (q:=c::r) (x:=x) hne (fun e=>by
  rw[e]at hq2;exfalso;have:=Np hq2 (fun e=>f46 e.symm);exact Fh this rfl) (fun e=>BR hd (tL hd hq2) x e)
 exact⟨a,b,Iw hd (JY hd hc) x⟩
theorem PI: ∀{ts:List zb} {q s:Str} (x:Str),run q ts (d::s)->run (q++x) ts (d::(s++x))
 |[],q,s,x,h=>by rw[run]at h;subst h;rfl
 |t::ts,q,s,x,h=>by
  obtain⟨c,r,h1,h2,h3⟩:=h;have hs:=Vi h3;have hn:(zt (c::r)).2≠[]:=by intro e;rw[e]at hs;exact absurd (List.suffix_nil.1 hs) (by simp)
  have hr:Has d r:=pI (pI ⟨[],s,rfl⟩ hs) (Qs c r);have h5:=fT hd hr x hn;refine⟨c,r++x,by rw[Jt (by rw[h1];exact Yt hn),h1];rfl,by rw[h5];exact h2,?_⟩;rw[h5];exact PI x h3
end
def wrF:Nat->List zb->Str->List zb->Str
 |0,_,b,_=>b
 |_+1,_,b,[]=>b
 |n+1,a,b,t::r=>
  wrF n (a++(t::r).take (pcN (t::r))) ((if Xf (zV (b++pcS ((t::r).take (pcN (t::r))))) (a++(t::r).take (pcN (t::r)))then b else b++cmtW)++pcS ((t::r).take (pcN (t::r)))) ((t::r).drop (pcN (t::r)))
def wrS(l:List zb):Str:=wrF l.length [] [] l
theorem NI: ∀(n:Nat) (ts:List zb) (b:Str) (r:List zb),b.length<=(wrF n ts b r).length
 |0,_,_,_=>Va _
 |_+1,_,_,[]=>Va _
 |n+1,ts,b,t::r=>by
  rw[wrF];refine ib ?_ (NI n _ _ _)
  grind
def Xh(l:List zb):Prop:=(∀t∈l,mf t=true/\t.text.length<=5000/\t.unit.length<=5000)/\ ∀k,k<l.length->okAt (l.drop k)=true
theorem Vu{l:List zb}(h:Xh l)(n:Nat):Xh (l.drop n):=by refine⟨fun t b=>h.1 t (Cf b),fun k a=> ?_⟩;rw[ja]at a;rw[Je];exact h.2 (n+k) (by omega)
theorem Jm{t:zb}{r:List zb}:1<=pcN (t::r):=by rw[Tm];grind
theorem FR{t:zb}{r:List zb}:pcN (t::r)<=3:=by rw[Tm];grind
theorem Yw{t:zb}{r:List zb}(h:Xh (t::r)):pcN (t::r)<=(t::r).length/\PcT (pcS ((t::r).take (pcN (t::r)))) ((t::r).take (pcN (t::r))):=by
 obtain⟨P,Q,d,c,b⟩:=zBd (fun u a=>(h.1 u a).1) (h.2 0 (by simp))
 grind
theorem zAW{t:zb}(e:mf t=true)(g:t.text.length<=5000)(h2:t.unit.length<=5000):(txS t).length<=20100:=by
 have i: ∀l:Str,l.length<=5000->(Z0 l).length<=20000:=fun l p=>by have:=Nu (l==[45]) (Qv l) l;unfold Z0;omega
 cases Uo e with
 |cId l d h=>rw[sj];grind
 |cFn l d h=>rw[Li,Ga];grind
 |cAt l d h=>rw[uj,Ka];grind
 |cHash l f d h j=>
  rw[ek,Ka];have s:=i l g;have o:=Nu false 0 l;have m:l.length<=5000:=g;cases f with
  |true=>rw[show Gg true l=Z0 l from rfl];omega
  |false=>rw[show Gg false l=encW false 0 l from rfl];omega
 |cStr l h=>rw[Oi];have:=Ou quoB l;grind
 |cUrl l h=>rw[Ij];have:=Ou urB l;grind
 |cDel c h=>rw[Ci];simp
 |cNum n f a b e=>rw[Bi];have:=(Nr a b (!f)).1;omega
 |cPct n a b=>rw[Pi,Ga,Ae];have:=(Nr a b false).1;omega
 |cDim n u f a b e d h=>
  rw[Ri,Ga];have:=(Nr a b (!f)).1;have m:u.length<=5000:=h2;have q:(Qb u).length<=20004:=by
   cases u with
   |nil=>grind
   |cons c r=>
    rw[Pn];cases yh (c::r)with
    |true=>
     rw[Ha,Ga];have:=Bu c;have:=Nu false 0 r
     grind
    |false=>grind
  omega
 |cMark k a b=>rw[ak a b];have:=dL k;omega
theorem rD: ∀{l:List zb},(∀t∈l,mf t=true/\t.text.length<=5000/\t.unit.length<=5000)->(catT l).length<=20100*l.length
 |[],_=>Xd _
 |t::r,h=>by obtain⟨a,b,c⟩:=h t (Xb ..);have:=zAW a b c;have:=rD (l:=r) (fun u d=>h u (Fb _ d));rw[catT,Ga,Ka];omega
theorem WJ: ∀(l m:List zb),catT (l++m)=catT l++catT m
 |[],m=>rfl
 |t::l,m=>by rw[Ta,catT,catT,WJ l m,Ia]
theorem WU {R:Type} {step:Int×List UInt8->Option (LO (Int×List UInt8) (List UInt8) R)} {l:List zb} (m:l.length<=3) (e: ∀t∈l,mf t=true/\t.text.length<=5000/\t.unit.length<=5000)
  (f: ∀(i:Nat) (a:Str) (hi:i<l.length),step ((i:Int),a)=(Nn (l[i],a)).bind fun j=>some (LO.again (w64 ((i:Int)+1),j)))
  (h2: ∀a,step ((l.length:Int),a)=some (.out a)):Ng step (0,[])=some (.out (catT l)):=by
 refine qO (fun z=> ∃(i:Nat),i<=l.length/\z=((i:Int),catT (l.take i))) (fun z=>l.length - z.1.toNat) _ ?_ ⟨0,by omega,rfl⟩;rintro _ ⟨i,hi,rfl⟩;rcases ic i l.length with h|h
 ·obtain⟨a,b,c⟩:=e l[i] (Gf h);have g:=rD (l:=l.take i) (fun t d=>e t (Xe d));rw[Rc]at g;have k:min i l.length<=2:=by omega
  have d:=GU (acc:=catT (l.take i)) a b c (by
   grind)
  rw[f i _ h,d,Aa];refine .inl ⟨_,rfl,⟨i+1,by omega,?_⟩,by simp only;rw[zZ (by omega) (by omega)];omega⟩;rw[zZ (by omega) (by omega),Ve h,WJ];refine Hf (by grind) ?_;show _=catT (l.take i)++(txS l[i]++[])
  grind
 grind
def stO(x:List zb×Str):zq:=⟨(x.1.length:Int),(x.2.length:Int)⟩
theorem wV{b s A B:Str}{ts L us P:List zb}{m:Nat}(h:b=B++A/\A≠[]/\ts=L++us/\us≠[]/\ ∃R,run b L R/\Lk R A/\4<=R.length/\4<=A.length):Xf (zV (A++s)) (us++P)=Xf (zV (b++s)) (ts++P):=by
 obtain⟨o,k,i,n,R,j,a,l,e⟩:=h;have g:=Q9 (oC s j l);have f:Lk (R++s) (A++s):=by
  refine bv a k ?_;rcases a with a|⟨d,y,_,rfl,_⟩
  ·cases A with
   |nil=>grind
   |cons c t=>
    cases t with
    |cons d u=>rw[DT,<-a];exact Al R
    |nil=>simp at e
  ·rfl
 rw[Tx f]at g;rw[g,i,Bool.eq_iff_iff,qh,qh,Ia,List.append_cancel_left_eq]
theorem iy{x:List zb}(h:gluS x=0):x.length<=1500/\(∀t∈x,mf t=true)/\ ∀k,k<x.length->okAt (x.drop k)=true:=by
 unfold gluS at h;cases hl:decide (x.length<=1500)with
 |false=>grind
 |true=>
  rw[hl,Ha]at h;cases ha:(List.range x.length).all (Nl x)with
  |false=>grind
  |true=>
   rw[Ub]at ha;have key: ∀k,k<x.length->mf (x.getD k default)=true/\okAt (x.drop k)=true:=by intro k hk;have:=ha k (Od.2 hk);unfold Nl at this;rw[Ba]at this;exact this
   refine⟨jb hl,fun t ht=> ?_,fun k hk=>(key k hk).2⟩;obtain⟨k,hk,rfl⟩:=List.mem_iff_getElem.1 ht
   grind
theorem UQ{t:zb}{r:List zb}:(bif t.kind==9 then((pcN (t::r):Nat):Int)==2 else false)=(t.kind==9&&t.text==[92]):=by
 cases a:t.kind==9 with
 |false=>rfl
 |true=>
  have b:Ag t=false:=by unfold Ag;rw[Sa.1 a];rfl
  rw[Tm,a,Ha,b]
  grind
theorem OT{t:zb}{r:List zb}:pcS ((t::r).take (pcN (t::r)))=bif (t.kind==9&&t.text==[92])then [92,10]else catT ((t::r).take (pcN (t::r))):=by
 obtain⟨k,a⟩: ∃k,pcN (t::r)=k+1:=⟨pcN (t::r) - 1,by have:=Jm (t:=t) (r:=r);omega⟩;rw[a,Dg,pcS]
 grind
theorem Ey{n:Nat}{ts:List zb}{b:Str}{t:zb}{r:List zb}{s:Str}{P:List zb}(a:(t::r).take (pcN (t::r))=P)(c:pcS P=s):
  wrF (n+1) ts b (t::r)=wrF n (ts++P) ((if Xf (zV (b++s)) (ts++P)then b else b++cmtW)++s) ((t::r).drop (pcN (t::r))):=by
 subst c a;rw[wrF]
theorem ap16{n:Nat}(h:n<=99999):zR n 1 16=true:=Fj (by omega) (by omega)
theorem wH{n m:Nat}(h:n+m<=200000):zR n m 1=true:=by
 unfold zR
 grind
theorem yQ{R:Type}{i:Int}{b:Str}{ts:List zb}{st:List (List zb×Str)}(h:zzy b ts st)(g:st.length<=100000): ∃L B A us,
  (bif decide (w64 (((st.map stO).length:Int) - 4)>=0)then
        need (decide (0<=w64 (((st.map stO).length:Int) - 4))&&decide (w64 (((st.map stO).length:Int) - 4)<((st.map stO).length:Int)))<|
        ((st.map stO)[(w64 (((st.map stO).length:Int) - 4)).toNat]?).bind fun c=>
        some (LX.out (i,b,st.map stO,c))
       else
        some (LX.out (i,b,st.map stO,(⟨0,0⟩:zq))))=(some (LX.out (i,b,st.map stO,stO (L,B))):Option (LX (Int×List UInt8×List zq×zq) R))/\
  b=B++A/\ts=L++us/\ ∀s P,Xf (zV (A++s)) (us++P)=Xf (zV (b++s)) (ts++P):=by
 rw[Ab];by_cases l:4<=st.length
 ·obtain⟨A,R,us,d,k,e,a,j,f,o,n⟩:=h.bd (st.length - 4) (by omega);refine⟨st[st.length - 4].1,st[st.length - 4].2,A,us,?_,d,e,fun s P=>wV (m:=0) ⟨d,k,e,a,R,j,f,by omega,by omega⟩⟩;rw[zZ (by omega) (by omega),La (by omega),Ha,La (by omega),Bool.and_self,qg,show((st.length:Int) - 4).toNat=st.length - 4 by omega,Ra,Ua (by omega)];rfl
 ·refine⟨[],[],b,ts,?_,rfl,rfl,fun s P=>rfl⟩;rw[zZ (by omega) (by omega),Ob (by omega),Ja];rfl
theorem GL{x:List zb}(hx: ∀t∈x,t.text.length<=5000/\t.unit.length<=5000):
  QG x=some (if gluS x=0 then(if 4000<(wrS x).length then([],28)else(wrS x,0))else([],gluS x)):=by
 unfold QG;have hbig:big=4194304:=rfl;rw[O0 (fun t ht=>by grind)];simp only[ze,Aa];by_cases hg:gluS x=0
 ·rw[Ea hg,hg,show((0:Int) != 0)=false from rfl,Ja];obtain⟨hlen,hfine,hok⟩:=iy hg;have hrest:Xh x:=⟨fun t ht=>⟨hfine t ht,hx t ht⟩,hok⟩;refine Az (fun z=> ∃(i:Nat) (b:Str) (st:List (List zb×Str)) (n:Nat),z=((i:Int),b,st.map stO)/\i<=x.length/\Syn b (x.take i) st/\b.length<=4000/\x.length - i<=n/\wrF n (x.take i) b (x.drop i)=wrS x/\st.length<=i) (fun z=>x.length - z.1.toNat) _ ?_
   ⟨0,[],[],x.length,rfl,Xd _, .nil,Xd _,Va _,rfl,Va _⟩
  rintro _ ⟨i,b,st,n,rfl,hi,hsyn,hbl,hn,hW,hst⟩;simp only;rcases ic i x.length with h|h
  ·have hro:=Vu hrest i;have hdr:x.drop i=x[i]::x.drop (i+1):=Eb h;obtain⟨t,ht⟩: ∃t,t=x[i]:=⟨_,rfl⟩;obtain⟨r,hr⟩: ∃r,r=x.drop (i+1):=⟨_,rfl⟩;rw[<-ht,<-hr]at hdr;rw[hdr]at hro hW;have hlr:(t::r).length=x.length - i:=by rw[<-hdr,ja]
   obtain⟨hk1,hpc⟩:=Yw hro;have hk0:=Jm (t:=t) (r:=r);have hk3:=FR (t:=t) (r:=r);obtain⟨k,hk⟩: ∃k,pcN (t::r)=k:=⟨_,rfl⟩;obtain⟨P,hP⟩: ∃P,(t::r).take k=P:=⟨_,rfl⟩;obtain⟨s,hs⟩: ∃s,pcS P=s:=⟨_,rfl⟩;have hst':=OT (t:=t) (r:=r);have hstep:=fun m=>Ey (n:=m) (ts:=x.take i) (b:=b) (t:=t) (r:=r) (s:=s) (P:=P) (by rw[hk];exact hP) hs;have e3:Qh (List.drop i x)=some ((k:Nat):Int):=by rw[hdr,<-hk];exact nV (by grind) (hro.2 0 (by simp))
   have hb2:=UQ (t:=t) (r:=r);rw[hk]at hk0 hk1 hk3 hpc hst' hb2 hstep;rw[hP]at hpc hst';rw[hs]at hpc hst';rw[hlr]at hk1;have e1:decide ((i:Int)<(x.length:Int))=true:=La (by omega);have e2:(decide ((0:Int)<=(i:Int))&&decide ((i:Int)<=(x.length:Int)))=true:=by rw[La (by omega),La (by omega)];rfl
   have e4:w64 ((i:Int)+((k:Nat):Int))=((i+k:Nat):Int):=by rw[zZ (by omega) (by omega)];omega
   have e5:(decide ((0:Int)<=(i:Int))&&(decide ((i:Int)<=((i+k:Nat):Int))&&decide (((i+k:Nat):Int)<=(x.length:Int))))=true:=by rw[La (by omega),La (by omega),La (by omega)];rfl
   have e6:geti x (i:Int)=some t:=by rw[lh h,ht]
   have e7:List.drop i (List.take (i+k) x)=P:=by rw[List.drop_take,hdr,show i+k - i=k by omega,hP]
   simp only[e1,e2,e3,e4,e5,e6,Ha,qg,Aa,Yb,e7];have hPl:P.length<=3:=by rw[<-hP,Rc];omega
   have hPf: ∀u∈P,mf u=true/\u.text.length<=5000/\u.unit.length<=5000:=fun u hu=>hro.1 u (by grind);have hsl:s.length<=60400:=by
    have:=rD hPf;rw[hst'];cases t.kind==9&&t.text==[92]with
    |true=>grind
    |false=>grind
   rw[qP (WU (l:=P) hPl hPf (fun j a hj=> ?_) (fun a=> ?_))]
   ·rw[hb2];have hj9:(bif (t.kind==9&&t.text==[92])then some (LX.out ((i:Int),b,st.map stO,[(92:UInt8),(10:UInt8)]))else some (LX.out ((i:Int),b,st.map stO,catT P)))=(some (LX.out ((i:Int),b,st.map stO,s)):Option (LX (Int×List UInt8×List zq×List UInt8) (LO (Int×List UInt8×List zq) (List UInt8) (Str×Int)))):=by rw[hst'];cases t.kind==9&&t.text==[92]<;>rfl
    rw[hj9,zh];simp only;have hsok:=Kj hsyn;obtain⟨L,B,A,us,hfrom,hbA,hts,hwin⟩:=yQ (R:=LO (Int×List UInt8×List zq) (List UInt8) (Str×Int)) (i:=(i:Int)) hsok (by omega);rw[hfrom,zh];have hBl:B.length<=b.length:=by rw[hbA,Ga];omega
    have hAl:A.length<=b.length:=by rw[hbA,Ga];omega
    have f1:(decide ((0:Int)<=(stO (L,B)).at_)&&decide ((stO (L,B)).at_<=(b.length:Int)))=true:=by show(decide ((0:Int)<=(B.length:Int))&&decide ((B.length:Int)<=(b.length:Int)))=true;rw[La (by omega),La (by omega)];rfl
    have f2:(stO (L,B)).at_.toNat=B.length:=Yb _;have f3:decide (B.length+(b.length - B.length)<=b.length)=true:=La (by omega);have f4:List.take (b.length - B.length) (List.drop B.length b)=A:=by rw[hbA,List.drop_left,Ga,show B.length+A.length - B.length=A.length by omega,List.take_length]
    have f5:Vf A.length s.length=true:=Tu.2 (by omega);simp only[f1,f2,f3,f4,f5,qg,gM,Aa,e4,Yb];have htl:(stO (L,B)).token=(L.length:Int):=rfl;have hLl:L.length<=i:=by have:=congrArg List.length hts;rw[Rc,Ga]at this;omega
    have htk:List.drop L.length (List.take (i+k) x)=us++P:=by
     have:List.take (i+k) x=L++(us++P):=by rw[List.take_add,hdr,hP,hts,Ia]
     rw[this,List.drop_left]
    have hPlen:P.length=k:=by rw[<-hP,Rc];omega
    have husP:(us++P).length<=1500:=by have h1:=congrArg List.length hts;rw[Rc,Ga]at h1;rw[Ga,hPlen];omega
    have hcl:clB (A++s)=true:=by have h1:=DI hsyn;rw[hbA,qw,Ba]at h1;rw[qw,h1.2,WB hpc];rfl
    obtain⟨c,hc⟩: ∃c,c=Xf (zV (b++s)) (x.take i++P):=⟨_,rfl⟩;have hwinc:Xf (zV (A++s)) (us++P)=c:=by rw[hc];exact hwin s P
    obtain⟨c',hc'⟩: ∃c',c'=(decide ((A++s).length<=4000)&&c):=⟨_,rfl⟩;have hneed:(decide ((0:Int)<=(stO (L,B)).token)&&(decide ((stO (L,B)).token<=((i+k:Nat):Int))&&decide (((i+k:Nat):Int)<=(x.length:Int))))=true:=by rw[htl,La (by omega),La (by omega),La (by omega)];rfl
    have hcat: ∀(E:Option (LX (Int×List zq×List UInt8) (LO (Int×List UInt8×List zq) (List UInt8) (Str×Int)))),
      E=(need (decide ((0:Int)<=(stO (L,B)).token)&&(decide ((stO (L,B)).token<=((i+k:Nat):Int))&&decide (((i+k:Nat):Int)<=(x.length:Int)))|| !(!((Ii (A++s)).2 != 0)))<|
       (zu (!((Ii (A++s)).2 != 0)) (ZH ((Ii (A++s)).1,List.drop (stO (L,B)).token.toNat (List.take (i+k) x))) (default:Bool)).bind fun y13=>
       bif bif (Ii (A++s)).2 != 0 then true else !y13 then
        need (zR b.length ([47,42,42,47]:Str).length 1)<|
        some (LX.out ((i:Int),st.map stO,b++([47,42,42,47]:Str)))
       else
        some (LX.out ((i:Int),st.map stO,b)))->E=some (LX.out ((i:Int),st.map stO,if c' then b else b++cmtW)):=by
     rintro E rfl;rw[hneed,Ee,qg,show(stO (L,B)).token.toNat=L.length from Yb _,htk];have happ:zR b.length ([47,42,42,47]:Str).length 1=true:=wH (by grind);unfold Ii;by_cases hlong:4000<(A++s).length
     ·rw[Ea hlong];have:c'=false:=by rw[hc',Ob (by omega)];rfl
      rw[this];simp only[show((28:Int) != 0)=true from rfl,Lb,ZX,Aa,Ha,happ,qg];rfl
     ·rw[Fa hlong,Oy _ hcl];have hcc:c'=c:=by rw[hc',La (by omega)];rfl
      by_cases hmany:1500<(zV (A++s)).length
      ·rw[Ea hmany];have:c'=false:=by rw[hcc,<-hwinc];exact JF (by omega)
       rw[this];simp only[show((4:Int) != 0)=true from rfl,Lb,ZX,Aa,Ha,happ,qg];rfl
      ·rw[Fa hmany];simp only[show((0:Int) != 0)=false from rfl,Cb,zU,Ja,KV (show(zV (A++s)).length<=big by omega),hwinc,Aa,happ,qg]
       grind
    rw[hcat _ rfl,zh];simp only;obtain⟨m,hm⟩: ∃m,n=m+1:=⟨n - 1,by omega⟩;subst hm;rw[hstep m,<-hc]at hW;have hWl:=NI m (x.take i++P) ((if c then b else b++cmtW)++s) ((t::r).drop k);rw[hW]at hWl;have hcw:cmtW.length=4:=rfl;have hb1:(if c' then b else b++cmtW).length<=4004:=by
     split
     ·omega
     ·grind
    rw[zG (ap16 (by grind)),zG (wH (by omega))];have hbs:b.length+s.length<=(wrS x).length:=by
     refine ib ?_ hWl;rw[Ga];split
     ·omega
     ·grind
    by_cases hbig2:4000<((if c' then b else b++cmtW)++s).length
    ·grind
    ·rw[Ob (by omega),Ja];have hcc:c'=c:=by
      have:(A++s).length<=4000:=by
       rw[Ga]at hbig2 ⊢;have:b.length<=(if c' then b else b++cmtW).length:=by
        split
        ·grind
        ·grind
       omega
      rw[hc',La this];rfl
     rw[hcc]at hbig2 ⊢;have hxt:x.take (i+k)=x.take i++P:=by rw[List.take_add,hdr,hP]
     refine .inl ⟨_,rfl,⟨i+k,(if c then b else b++cmtW)++s,st++[(x.take i,if c then b else b++cmtW)],m,?_,by omega,?_,by omega,by omega,?_,?_⟩,?_⟩
     ·refine Hf e4 (Hf rfl ?_);rw[Te];show st.map stO++[_]=st.map stO++[stO (x.take i,if c then b else b++cmtW)];unfold stO
      grind
     ·rw[hxt];cases hcb:c with
      |true=> rw[Ea rfl];exact .no b s _ P st hsyn hpc (qh.1 (by rw[<-hc,hcb]))
      |false=> rw[Fa (by decide)];refine .cmt b s _ P st hsyn ?_ hpc;rintro rfl;have h0:=hsok.tok;rw[ZE (zM rfl)]at h0;rw[<-h0,Ya,Ya,Xi hpc]at hc;rw[hcb,qh.2 rfl]at hc;cases hc
     ·rw[hxt,<-hW,<-Je,hdr]
     ·rw[Ga,Ae];omega
     ·simp only;rw[e4];omega
   ·have d1:decide ((j:Int)<(P.length:Int))=true:=La (by omega);simp only[d1,Ha,lh hj,Aa]
   ·simp only;rw[Ob (by omega),Ja]
  ·have:i=x.length:=by omega
   subst this;have e1:decide ((x.length:Int)<(x.length:Int))=false:=Ob (by omega);simp only[e1,Ja];refine .inr (.inl ⟨_,rfl,?_⟩);rw[xe (Va _)]at hW;have hWb:b=wrS x:=by
    cases n with
    |zero=>rw[wrF]at hW;exact hW
    |succ n=>rw[wrF]at hW;exact hW
   rw[<-hWb,Fa (by omega)]
 grind
end Go.Lv.VT
