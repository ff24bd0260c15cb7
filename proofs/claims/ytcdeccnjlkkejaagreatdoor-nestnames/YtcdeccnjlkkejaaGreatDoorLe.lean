/- That the evaluator is right: states seen anew (forgotten, frozen, numbered anew). -/
import Derived.Test.YtcdeccnjlkkejaaGreatDoorLd
set_option linter.unusedSimpArgs false
set_option linter.unusedVariables false
namespace Go.Lv
section
variable {nt:Nat}
def RcC(Z:Nat->Prop)(get:Get)(D:Nat->Prop)(x y:CV):Prop:=WkZ Z x y\/ ∃p,y= .p p/\Fz get D x p
inductive RcT (Z:Nat->Prop) (get:Get) (D:Nat->Prop):TV->TV->Prop where
 |c (x y:CV) (h:RcC Z get D x y):RcT Z get D (.c x) (.c y)
 |agg (xs ys:List CV) (hl:ys.length=xs.length) (h: ∀(j:Nat) x y,xs[j]? =some x->ys[j]? =some y->RcC Z get D x y):RcT Z get D (.agg xs) (.agg ys)
inductive RcL (Z:Nat->Prop) (get:Get) (D:Nat->Prop):LV->LV->Prop where
 |any (x:LV):RcL Z get D x .any
 |v (x y:TV) (h:RcT Z get D x y):RcL Z get D (.v x) (.v y)
 |opt (g:Bool) (x y:TV) (h:RcT Z get D x y):RcL Z get D (.opt g x) (.opt g y)
 |tup (xs ys:List TV) (hl:ys.length=xs.length) (h: ∀(j:Nat) x y,xs[j]? =some x->ys[j]? =some y->RcT Z get D x y):RcL Z get D (.tup xs) (.tup ys)
structure RcO (Z:Nat->Prop) (get:Get) (D:Nat->Prop) (o o2:OB):Prop where
 ty:o2.ty=o.ty
 k:o2.k=o.k
 len:o2.rows.length=o.rows.length
 row: ∀(i:Nat) row row2,o.rows[i]? =some row->o2.rows[i]? =some row2->row2.length=row.length/\ ∀(j:Nat) x y,row[j]? =some x->row2[j]? =some y->RcC Z get D x y
 raw:o2.raw=o.raw
theorem RcC.refl{Z:Nat->Prop}{get:Get}{D:Nat->Prop}(x:CV):RcC Z get D x x:= .inl (WkZ.refl x)
theorem RcO.refl{Z:Nat->Prop}{get:Get}{D:Nat->Prop}(o:OB):RcO Z get D o o:=⟨rfl,rfl,rfl,fun i row row2 h1 h2=>by
 rw[h1]at h2;cases h2;exact⟨rfl,fun j x y h3 h4=>by rw[h3]at h4;cases h4;exact RcC.refl x⟩,rfl⟩
def rcA(ι:Asg)(Z:Nat->Prop)[DecidablePred Z](get2:Get):Asg:=fun id=>match get2 id with
 |some o=>if Z id then .live none o.k else ι id
 |none=>match ι id with
  | .free=> .free
  |_=> .dead
open Classical in
theorem recast {e e2:Env} {lh lh2:LH} {Z:Nat->Prop} (hle:lh.next<=lh2.next) (hZ: ∀z,Z z->lh.next<=z/\z<lh2.next/\ ∃ty k,lh2.get z=some ⟨ty,k,[],none⟩)
  (hget: ∀id o2,lh2.get id=some o2-> ¬Z id-> ∃o,lh.get id=some o/\RcO Z lh.get (fun id=>lh2.get id=none) o o2)
  (henv: ∀t,RcL Z lh.get (fun id=>lh2.get id=none) (look e t) (look e2 t)):Sub nt e lh e2 lh2:=by
 intro ι a w hN
 let ι2:Asg:=rcA ι Z lh2.get
 have hfree: ∀z,Z z->ι z= .free:=fun z hz=>hN.free z (hZ z hz).1;have live2: ∀id b k,ι2 id= .live b k->(Z id/\b=none)\/(¬Z id/\(∃o,lh2.get id=some o)/\ι id= .live b k):=by
  intro id b k h;simp only[ι2,rcA]at h;cases hg:lh2.get id with
  |none=>
   grind
  |some o=>
   grind
 have nonfree: ∀id,ι id≠ .free->ι2 id=ι id\/ι2 id= .dead:=by
  intro id h;simp only[ι2,rcA];cases hg:lh2.get id with
  |none=>
   grind
  |some o=>
   grind
 have hdom: ∀b,Dom ι w b->Dom ι2 w b:=fun b hb=>⟨hb.1,fun id k h=>by
  rcases live2 id _ _ h with⟨_,h1⟩|⟨_,_,h1⟩
  ·cases h1
  ·exact hb.2 id k h1⟩
 have stp:Stp ι w ι2 w:=⟨rfl,rfl,rfl,Ma _,fun _ _ h=>h,hdom,fun _ _=>rfl,nonfree⟩;have hZl: ∀z,Z z-> ∃k,ι2 z= .live none k:=by intro z hz;obtain⟨_,_,ty,k,hg⟩:=hZ z hz;refine⟨k,?_⟩;simp only[ι2,rcA,hg,Va hz]
 have conv: ∀x y v,RcC Z lh.get (fun id=>lh2.get id=none) x y->repC ι w x v->repC ι2 w y v:=by
  intro x y v h hx;rcases h with h|⟨p,rfl,h⟩
  ·exact h.rep hZl (qB stp hx)
  ·refine Fz.sound hN.rel hdom (fun id b k hd hl=>⟨hN.rel.lt hl,fun id' k' h'=> ?_⟩) h hx;rcases live2 id' _ _ h' with⟨_,h1⟩|⟨_,⟨o,ho⟩,h1⟩
   ·cases h1
   ·have:=hN.rel.inj id' id b _ _ h1 hl
    grind
 have convT: ∀x y v,RcT Z lh.get (fun id=>lh2.get id=none) x y->repT ι w x v->repT ι2 w y v:=by
  intro x y v h hx;cases h with
  |c x y h=>exact⟨hx.1,conv x y v h hx.2⟩
  |agg xs ys hl h=>
   obtain⟨vs,h1,h2,h3⟩:=hx;refine⟨vs,h1,by rw[h2,hl],fun j y hj=> ?_⟩;have hjl:j<xs.length:=by rw[<-hl];exact(Ba.1 hj).1
   have hx:xs[j]? =some xs[j]:=Ea hjl
   grind
 refine⟨ι2,⟨⟨fun id o2 ho=> ?_,fun id ho=> ?_,fun i j b k k' hi hj=> ?_,hN.rel.glob.step stp⟩,fun id hid=> ?_,⟨hN.env.size,hN.env.defers,fun t=> ?_⟩⟩,⟨stp,fun id hid hf=> ?_⟩,hle⟩
 ·by_cases hz:Z id
  ·obtain⟨_,_,ty,k,hg⟩:=hZ id hz;rw[hg]at ho;cases ho;refine⟨none,by simp only[ι2,rcA,hg,Va hz],by simp, .inl ⟨rfl,rfl,rfl⟩⟩
  ·obtain⟨o,h1,h2⟩:=hget id o2 ho hz;obtain⟨b,l1,l2⟩:=hN.rel.live id o h1;refine⟨b,by simp only[ι2,rcA,ho,Oa hz];rw[l1,h2.k],?_⟩;obtain⟨g1,g2⟩:=l2;have rowAt: ∀(i:Nat) (row2:List CV),o2.rows[i]? =some row2-> ∃row,o.rows[i]? =some row:=by intro i row2 hi;have:=(Ba.1 hi).1;exact⟨_,Ea (by rw[<-h2.len];exact this)⟩
   refine⟨fun row2 hr=> ?_,?_⟩
   ·obtain⟨i,hi,rfl⟩:=Vf hr;have hi2:o2.rows[i]? =some o2.rows[i]:=Ea hi;obtain⟨row,hrow⟩:=rowAt i _ hi2;rw[(h2.row i row _ hrow hi2).1,h2.k]
    grind
   ·rcases g2 with⟨g0,g2,g3⟩|⟨g0,b',cur,fr,eb,g3,g4,g5,g6⟩|⟨g3,b',es,n,g4,eb,g5⟩
    ·exact .inl ⟨by rw[h2.raw,g0],g2,Ab (by rw[h2.len,g3];rfl)⟩
    rotate_left
    ·exact .inr (.inr ⟨Ab (by rw[h2.len,g3];rfl),b',es,n,by rw[h2.raw,g4],eb,g5⟩)
    ·refine .inr (.inl ⟨by rw[h2.raw,g0],b',cur,fr,eb,by rw[h2.ty];exact g3,g4,by rw[h2.len,h2.k];exact g5,fun i row2 j y hi hj=> ?_⟩);obtain⟨row,hrow⟩:=rowAt i row2 hi;obtain⟨l1,l2⟩:=h2.row i row row2 hrow hi;have hjl:j<row.length:=by rw[<-l1];exact(Ba.1 hj).1
     have hx:row[j]? =some row[j]:=Ea hjl;obtain⟨v,a1,a2,a3⟩:=g6 i row j _ hrow hx;exact⟨v,by rw[h2.k];exact a1,a2,conv _ _ _ (l2 j _ y hx hj) a3⟩
 ·simp only[ι2,rcA,ho]
  grind
 ·rcases live2 i _ _ hi with⟨_,h1⟩|⟨_,_,h1⟩
  ·cases h1
  ·rcases live2 j _ _ hj with⟨_,h2⟩|⟨_,_,h2⟩
   ·cases h2
   ·exact hN.rel.inj i j b k k' h1 h2
 ·have h1:ι id= .free:=hN.free id (ja hle hid);simp only[ι2,rcA]
  grind
 ·have ht:=henv t;have hr:=hN.env.rep t;generalize look e t=x at ht hr;generalize look e2 t=y at ht ⊢;cases ht with
  |any=>trivial
  |v x y h=>exact convT x y _ h hr
  |opt g x y h=>exact⟨fun hg=>convT x y _ h (hr.1 hg),hr.2⟩
  |tup xs ys hl h=>
   obtain⟨vs,h1,h2,h3⟩:=hr;refine⟨vs,h1,by rw[h2,hl],fun j y hj=> ?_⟩;have hjl:j<xs.length:=by rw[<-hl];exact(Ba.1 hj).1
   have hx:xs[j]? =some xs[j]:=Ea hjl
   grind
 ·simp only[ι2,rcA]
  grind
end
section
variable {P:Program} {I:Ip}
def cE(X:Cx I)(ρ:Nat->Nat)(st:ES I.C):Env:=(st.env++X.frm).map fun p=>(p.1,trL ρ (lkO X st) (lkE X st) p.2)
def cG(P:Program)(X:Cx I)(ρ:Nat->Nat)(G:Get)(st:ES I.C):Get:=upd G ((st.heap++X.frh).map fun p=>(ρ p.1,trO P ρ (lkO X st) p.2))
theorem SC(F:EL I.C->LV): ∀(l:EEnv I.C) (t:Nat),look (l.map fun p=>(p.1,F p.2)) t=(match lk l t with|some x=>F x|none=> .any)
 |[],t=>rfl
 |(j,x)::r,t=>by
  simp only[Na,look];rw[zQ];by_cases h:t=j
  ·grind
  ·rw[Oa h,Oa h];exact SC F r t
theorem NN(X:Cx I)(st:ES I.C)(t:Nat):lk (st.env++X.frm) t=lkE X st t:=by rw[ZF];unfold lkE;grind
theorem Ey(X:Cx I)(st:ES I.C)(t:Nat):lk (st.heap++X.frh) t=lkO X st t:=by rw[ZF];unfold lkO;grind
theorem Jn(X:Cx I)(ρ:Nat->Nat)(st:ES I.C)(t:Nat):look (cE X ρ st) t=(match lkE X st t with|some x=>trL ρ (lkO X st) (lkE X st) x|none=> .any):=by unfold cE;rw[SC,NN]
structure WfS (X:Cx I) (ρ:Nat->Nat) (G:Get) (st:ES I.C) (N:Nat):Prop where
 inj: ∀i j o o',lkO X st i=some o->lkO X st j=some o'->ρ i=ρ j->i=j
 oth: ∀i,G i≠none->i<N/\ ∀id o,lkO X st id=some o->ρ id≠i
 fre: ∀t x,lk X.frm t=some x->lkE X st t=some x/\Nq x=true
 fro: ∀i o,lk X.frh i=some o->lkO X st i=some o
 lt: ∀id,id<st.next->ρ id<N
 up: ∀id,st.next<=id->ρ id=N+(id - st.next)
 wfe: ∀t x,lkE X st t=some x->wfL st.next x=true
 wfh: ∀id o,lkO X st id=some o->id<st.next/\wfO st.next o=true
theorem bi{X:Cx I}{ρ:Nat->Nat}{G:Get}{st:ES I.C}{N:Nat}(h:WfS X ρ G st N){id:Nat}{o:EO I.C}(ho:lkO X st id=some o):cG P X ρ G st (ρ id)=trO P ρ (lkO X st) o:=by
 have: ∀(l:EHeap I.C),(∀p∈l,∃o,lkO X st p.1=some o)-> ∀o,lk l id=some o->upd G (l.map fun p=>(ρ p.1,trO P ρ (lkO X st) p.2)) (ρ id)=trO P ρ (lkO X st) o:=by
  intro l
  induction l with
  |nil=>intro _ o hl;cases hl
  |cons p r ih=>
   intro hp o hl;obtain⟨j,oj⟩:=p;simp only[Na,upd];rw[zQ]at hl;by_cases hij:id=j
   ·grind
   ·rw[Oa hij]at hl;obtain⟨o2,ho2⟩:=hp (j,oj) (Ib ..);rw[Oa (fun e=>hij (h.inj id j _ _ ‹_› ho2 e))]
    grind
 refine this _ (fun p hp=> ?_) o (by rw[Ey];exact ho);obtain⟨o,ho⟩:=zW (Da.2 ⟨p,hp,rfl⟩);rw[Ey]at ho;exact⟨o,ho⟩
theorem lm{X:Cx I}{ρ:Nat->Nat}{G:Get}{st:ES I.C}{i:Nat}(hi: ∀id o,lkO X st id=some o->ρ id≠i):cG P X ρ G st i=G i:=by
 refine og fun hm=> ?_;rw[ma]at hm;obtain⟨p,hp,e⟩:=Da.1 hm;obtain⟨o,ho⟩:=zW (Da.2 ⟨p,hp,rfl⟩);rw[Ey]at ho
 grind
theorem WfS.vw{X:Cx I}{ρ:Nat->Nat}{G:Get}{st:ES I.C}{N:Nat}(h:WfS X ρ G st N):Vw P X ρ G st (cE X ρ st) ⟨N,cG P X ρ G st⟩:=
 ⟨Jn X ρ st,fun id o ho=>bi h ho,fun i hi=>⟨lm (h.oth i hi).2,(h.oth i hi).2⟩,h.inj,h.lt,h.up,h.fre,h.fro,fun i hi=>(h.oth i hi).1,h.wfe,h.wfh⟩
variable {nt:Nat}
theorem SW.post{c:Code}{Q Q2:Post}{e:Env}{lh:LH}(h:SW P nt c Q e lh)(hq: ∀x e lh,Q x e lh-> ∃e2 lh2,Sub nt e lh e2 lh2/\Q2 x e2 lh2):SW P nt c Q2 e lh:=by intro ι a w hN;refine Code.wp_mono (fun x a' w' ⟨ι',e',lh',h1,h2,h3,h4⟩=> ?_) (h ι a w hN);obtain⟨e2,lh2,h5,h6⟩:=hq x e' lh' h1;obtain⟨ι2,k1,k2,k3⟩:=h5 ι' a' w' h2;exact⟨ι2,e2,lh2,h6,k1,h3.trans k2 h4,ja h4 k3⟩
end
section
variable {P:Program} {I:Ip} {X:Cx I} {ρ:Nat->Nat} {G:Get} {st:ES I.C} {e:Env} {lh:LH} {nt:Nat}
theorem su{Z:Nat->Prop}{get:Get}{D:Nat->Prop}{ρ ρ2:Nat->Nat}{h h2:Nat->Option (EO I.C)}{x:ET I.C}(hc: ∀v:EV I.C,RcC Z get D (trV ρ h v) (trV ρ2 h2 v)):RcT Z get D (trT ρ h x) (trT ρ2 h2 x):=by
 cases x with
 |c x=>exact .c _ _ (hc x)
 |agg xs=>
  refine .agg _ _ (by simp) fun j a b ha hb=> ?_
  grind
theorem tu{Z:Nat->Prop}{get:Get}{D:Nat->Prop}{ρ ρ2:Nat->Nat}{h h2:Nat->Option (EO I.C)}{E E2:Nat->Option (EL I.C)}{x:EL I.C}(hc: ∀v:EV I.C,RcC Z get D (trV ρ h v) (trV ρ2 h2 v))(hE: ∀ks t,x= .opt ks t->ZK E2 ks=ZK E ks):RcL Z get D (trL ρ h E x) (trL ρ2 h2 E2 x):=by
 cases x with
 |any=>exact .any _
 |v t=>exact .v _ _ (su hc)
 |opt ks t=> simp only[trL];rw[hE ks t rfl];exact .opt _ _ _ (su hc)
 |tup ts=>
  refine .tup _ _ (by simp) fun j a b ha hb=> ?_;rw[Ka]at ha hb;cases hj:ts[j]? with
  |none=>grind
  |some v=>rw[hj]at ha hb;cases ha;cases hb;exact su hc
theorem NB{Z:Nat->Prop}{get:Get}{D:Nat->Prop}{α:Type}{ty k:Nat}{f:α->List CV}{l1 l2:List α}{c c2:List CV}{o:OB}(ho:o=⟨ty,k,l1.map f++(c::l2.map f),none⟩)(hc: ∀(j:Nat) x y,c[j]? =some x->c2[j]? =some y->RcC Z get D x y)(hl:c2.length=c.length):RcO Z get D o ⟨ty,k,l1.map f++(c2::l2.map f),none⟩:=by
 subst ho;refine⟨rfl,rfl,by simp,fun i row row2 hr hr2=> ?_,rfl⟩;by_cases hi:i=l1.length
 ·grind
 ·have hsame:row2=row:=by
   by_cases hlt:i<l1.length
   ·grind
   ·grind
  subst hsame;exact⟨rfl,fun j a b ha hb=>by rw[ha]at hb;cases hb;exact RcC.refl _⟩
theorem iI{ρ:Nat->Nat}{h h2:Nat->Option (EO I.C)}{v:EV I.C}(hs: ∀i,infO h2 i=infO h i):trV ρ h2 v=trV ρ h v:=by
 cases v with
 |own id=>rw[Qr,Qr,hs]
 |_=>rfl
theorem gD(hI:IpOK P I)(hv:Vw P X ρ G st e lh)(id:Nat): ∃e2 lh2,Sub nt e lh e2 lh2/\Vw P X ρ G (Ii X st id) e2 lh2:=by
 unfold Ii;split
 case h_2=>exact⟨e,lh,Sub.refl _ _ _,hv⟩
 rename_i t l hl hfr;generalize hst2:({st with heap:=(id, .frz t l)::st.heap}:ES I.C)=st2;have hE: ∀t,lkE X st2 t=lkE X st t:=fun t=>by rw[<-hst2];rfl
 have hE':lkE X st2=lkE X st:=funext hE;have hO: ∀i,lkO X st2 i=if i=id then some (.frz t l)else lkO X st i:=by
  intro i;rw[<-hst2];simp only[lkO];rw[zQ];by_cases hi:i=id
  ·grind
  ·grind
 have hid:lkO X st id=some (.sl t l):=by simp only[lkO,hl]
 have hold: ∀i o,lkO X st2 i=some o-> ∃o0,lkO X st i=some o0/\(i≠id->o0=o):=by
  intro i o ho;rw[hO]at ho;split at ho
  ·grind
  ·grind
 have hnx:st2.next=st.next:=by rw[<-hst2]
 have hw:WfS X ρ G st2 lh.next:=by
  refine⟨fun i j o o' h1 h2 he=> ?_,fun i hi=>⟨hv.glt i hi,fun j o ho=> ?_⟩,fun t x hx=> ?_,fun i o ho=> ?_,fun i hi=>hv.lt i (by grind),fun i hi=>by rw[hnx]at hi ⊢;exact hv.up i hi,fun t x hx=> ?_,fun i o ho=> ?_⟩
  ·obtain⟨o1,q1,_⟩:=hold i o h1;obtain⟨o2,q2,_⟩:=hold j o' h2;exact hv.inj i j o1 o2 q1 q2 he
  ·obtain⟨o1,q1,_⟩:=hold j o ho;exact(hv.oth i hi).2 j o1 q1
  ·rw[hE];exact hv.fre t x hx
  ·rw[hO,Oa (fun e=>by grind)];exact hv.fro i o ho
  ·rw[hE]at hx;rw[hnx];exact hv.wfe t x hx
  ·rw[hnx];rw[hO]at ho;split at ho
   ·rename_i hi;subst hi;cases ho;exact⟨(hv.wfh i _ hid).1,rfl⟩
   ·exact hv.wfh i o ho
 refine⟨_,_,?_,hw.vw (P:=P)⟩;have hgid:cG P X ρ G st2 (ρ id)=none:=by rw[bi hw (by rw[hO,Va rfl])];rfl
 have hcell: ∀v:EV I.C,RcC (fun _=>False) lh.get (fun i=>cG P X ρ G st2 i=none) (trV ρ (lkO X st) v) (trV ρ (lkO X st2) v):=by
  intro v;cases v with
  |own i=>
   by_cases hi:i=id
   ·subst hi;refine .inr ⟨.sl (l.map (I.full t)),?_,?_⟩
    ·simp only[trV,hO,Va]
    ·have:trV ρ (lkO X st) (.own i)= .osl (ρ i) 0 l.length:=by simp only[trV,hid]
     rw[this];have hg:lh.get (ρ i)=some ⟨t,P.cellsOf t,l.map fun x=>(I.full t x).map .p,none⟩:=hv.heap i _ hid;refine .osl (ρ i) 0 _ _ (l.map (I.full t)) hgid hg (by simp) (by simp) (fun row hr=> ?_) (fun a row j x r y ha hj hr hy=> ?_)
     ·obtain⟨z,_,rfl⟩:=Da.1 hr;exact hI.len _ _
     ·simp only[Ka,Yc]at ha hr;cases hz:l[a]? with
      |none=>grind
      |some z=> rw[hz]at ha hr;cases ha;cases hr;rw[Ka,hy]at hj;cases hj;exact .p y
   ·have:trV ρ (lkO X st2) (.own i)=trV ρ (lkO X st) (.own i):=by simp only[trV,hO,Oa hi]
    rw[this];exact RcC.refl _
  |_=>exact RcC.refl _
 refine recast (Z:=fun _=>False) (Ma _) (fun z hz=>hz.elim) (fun i o2 ho _=> ?_) (fun t=> ?_)
 ·by_cases hex: ∃j oj,lkO X st2 j=some oj/\ρ j=i
  ·obtain⟨j,oj,hj,rfl⟩:=hex;simp only[bi hw hj]at ho;obtain⟨o0,q1,q2⟩:=hold j oj hj;have hne:j≠id:=by rintro rfl;rw[hO,Va rfl]at hj;cases hj;cases ho
   have:=q2 hne;subst this;have hg:=hv.heap j _ q1;cases o0 with
   |cells ty cs=>
    simp only[trO,Option.some.injEq]at ho;subst ho;refine⟨_,hg,rfl,rfl,rfl,fun a row row2 h1 h2=> ?_,rfl⟩
    grind
   |slo t' l1 cs l2=>
    simp only[trO,Option.some.injEq]at ho;subst ho;exact⟨_,hg,NB rfl (fun b x y hx hy=>by
     grind) (by simp)⟩
   |mp kd l'=> simp only[trO,Option.some.injEq]at ho;subst ho;exact⟨_,hg,RcO.refl _⟩
   |sl t' l'=> simp only[trO,Option.some.injEq]at ho;subst ho;exact⟨_,hg,RcO.refl _⟩
   |dead n=>cases ho
   |frz t' l'=>cases ho
  ·simp only[lm (fun j oj hj e=>hex ⟨j,oj,hj,e⟩)]at ho;exact⟨o2,by rw[(hv.oth i (by rw[ho];simp)).1];exact ho,RcO.refl _⟩
 ·rw[Jn,hE,hv.env t];cases hl2:lkE X st t with
  |none=>exact .any _
  |some x=>exact tu hcell (fun ks t _=>by rw[hE'])
theorem TF(hI:IpOK P I)(hv:Vw P X ρ G st e lh)(id:Nat): ∃e2 lh2,Sub nt e lh e2 lh2/\Vw P X ρ G (Kl X st id) e2 lh2:=by
 unfold Kl;split
 case h_2=>exact⟨e,lh,Sub.refl _ _ _,hv⟩
 rename_i t l1 cs l2 hl hfr;split
 case h_2=>exact⟨e,lh,Sub.refl _ _ _,hv⟩
 rename_i z hz;generalize hst2:({st with heap:=(id, .sl t (l1++z::l2))::st.heap}:ES I.C)=st2;have hE: ∀t,lkE X st2 t=lkE X st t:=fun t=>by rw[<-hst2];rfl
 have hE':lkE X st2=lkE X st:=funext hE;have hO: ∀i,lkO X st2 i=if i=id then some (.sl t (l1++z::l2))else lkO X st i:=by
  intro i;rw[<-hst2];simp only[lkO];rw[zQ];by_cases hi:i=id
  ·grind
  ·grind
 have hid:lkO X st id=some (.slo t l1 cs l2):=by simp only[lkO,hl]
 have hold: ∀i o,lkO X st2 i=some o-> ∃o0,lkO X st i=some o0/\(i≠id->o0=o):=by
  intro i o ho;rw[hO]at ho;split at ho
  ·grind
  ·grind
 have hlen:(l1++z::l2).length=l1.length+1+l2.length:=by simp;omega
 have hinf: ∀i,infO (lkO X st2) i=infO (lkO X st) i:=by
  intro i;by_cases hi:i=id
  ·subst hi;rw[zJ (show lkO X st2 i=_ by rw[hO,Va rfl]),zJ hid];simp only[infE,hlen]
  ·simp only[infO,hO,Oa hi]
 have htr: ∀v:EV I.C,trV ρ (lkO X st2) v=trV ρ (lkO X st) v:=fun v=>iI (fun i=>hinf i);have hnx:st2.next=st.next:=by rw[<-hst2]
 have hw:WfS X ρ G st2 lh.next:=by
  refine⟨fun i j o o' h1 h2 he=> ?_,fun i hi=>⟨hv.glt i hi,fun j o ho=> ?_⟩,fun t x hx=> ?_,fun i o ho=> ?_,fun i hi=>hv.lt i (by grind),fun i hi=>by rw[hnx]at hi ⊢;exact hv.up i hi,fun t x hx=> ?_,fun i o ho=> ?_⟩
  ·obtain⟨o1,q1,_⟩:=hold i o h1;obtain⟨o2,q2,_⟩:=hold j o' h2;exact hv.inj i j o1 o2 q1 q2 he
  ·obtain⟨o1,q1,_⟩:=hold j o ho;exact(hv.oth i hi).2 j o1 q1
  ·rw[hE];exact hv.fre t x hx
  ·rw[hO,Oa (fun e=>by grind)];exact hv.fro i o ho
  ·rw[hE]at hx;rw[hnx];exact hv.wfe t x hx
  ·rw[hnx];rw[hO]at ho;split at ho
   ·rename_i hi;subst hi;cases ho;exact⟨(hv.wfh i _ hid).1,rfl⟩
   ·exact hv.wfh i o ho
 refine⟨_,_,?_,hw.vw (P:=P)⟩;have hcell: ∀v:EV I.C,RcC (fun _=>False) lh.get (fun i=>cG P X ρ G st2 i=none) (trV ρ (lkO X st) v) (trV ρ (lkO X st2) v):=fun v=>by rw[htr];exact RcC.refl _
 refine recast (Z:=fun _=>False) (Ma _) (fun z hz=>hz.elim) (fun i o2 ho _=> ?_) (fun t=> ?_)
 ·by_cases hex: ∃j oj,lkO X st2 j=some oj/\ρ j=i
  ·obtain⟨j,oj,hj,rfl⟩:=hex;simp only[bi hw hj]at ho;obtain⟨o0,q1,q2⟩:=hold j oj hj;have hg:=hv.heap j _ q1;by_cases hne:j=id
   ·subst hne;rw[hid]at q1;cases q1;rw[hO,Va rfl]at hj;cases hj;simp only[trO,Option.some.injEq]at ho;subst ho;have hm:=En (P:=P) hI (ρ:=ρ) (h:=lkO X st) hz;have hml:=(hI.made t _ z hz).2.1;rw[Ga]at hml;refine⟨_,hg,?_⟩;rw[Vb,Na];refine NB rfl (fun b x y hx hy=> .inl (.inl (hm b x y ?_ hy))) (by grind);rw[ma];have:cs.map (trV ρ (lkO X st)∘nrmV (lkO X st))=cs.map (trV ρ (lkO X st)):=Ha fun v _=>Rn v
    grind
   ·have:=q2 hne;subst this;cases o0 with
    |cells ty cs=> simp only[trO,Option.some.injEq]at ho;subst ho;have:cs.map (trV ρ (lkO X st2))=cs.map (trV ρ (lkO X st)):=Ha fun v _=>htr v;rw[this];exact⟨_,hg,RcO.refl _⟩
    |slo t' l1' cs' l2'=> simp only[trO,Option.some.injEq]at ho;subst ho;have:cs'.map (trV ρ (lkO X st2))=cs'.map (trV ρ (lkO X st)):=Ha fun v _=>htr v;rw[this];exact⟨_,hg,RcO.refl _⟩
    |sl t' l'=> simp only[trO,Option.some.injEq]at ho;subst ho;exact⟨_,hg,RcO.refl _⟩
    |mp kd l'=> simp only[trO,Option.some.injEq]at ho;subst ho;exact⟨_,hg,RcO.refl _⟩
    |dead n=>cases ho
    |frz t' l'=>cases ho
  ·simp only[lm (fun j oj hj e=>hex ⟨j,oj,hj,e⟩)]at ho;exact⟨o2,by rw[(hv.oth i (by rw[ho];simp)).1];exact ho,RcO.refl _⟩
 ·rw[Jn,hE,hv.env t];cases hl2:lkE X st t with
  |none=>exact .any _
  |some x=>exact tu hcell (fun ks t _=>by rw[hE'])
theorem JE(hI:IpOK P I): ∀(l:List Nat) {st:ES I.C} {e:Env} {lh:LH},Vw P X ρ G st e lh-> ∃e2 lh2,Sub nt e lh e2 lh2/\Vw P X ρ G (ek X l st) e2 lh2
 |[],st,e,lh,hv=>⟨e,lh,Sub.refl _ _ _,hv⟩
 |i::r,st,e,lh,hv=>by obtain⟨e1,lh1,h1,h2⟩:=gD (nt:=nt) hI hv i;obtain⟨e2,lh2,h3,h4⟩:=JE hI r h2;exact⟨e2,lh2,h1.trans h3,h4⟩
theorem Py(hI:IpOK P I)(hv:Vw P X ρ G st e lh)(id:Nat): ∃e2 lh2,Sub nt e lh e2 lh2/\Vw P X ρ G (yg X st id) e2 lh2:=by
 unfold yg;split
 ·obtain⟨e1,lh1,h1,h2⟩:=JE (nt:=nt) hI _ hv;obtain⟨e2,lh2,h3,h4⟩:=TF (nt:=nt) hI h2 id;exact⟨e2,lh2,h1.trans h3,h4⟩
 ·exact TF hI hv id
theorem DF(hI:IpOK P I)(hv:Vw P X ρ G st e lh)(id:Nat): ∃e2 lh2,Sub nt e lh e2 lh2/\Vw P X ρ G (tq X st id) e2 lh2:=by obtain⟨e1,lh1,h1,h2⟩:=Py (nt:=nt) hI hv id;obtain⟨e2,lh2,h3,h4⟩:=gD (nt:=nt) hI h2 id;exact⟨e2,lh2,h1.trans h3,h4⟩
theorem WE(hI:IpOK P I): ∀(l:List Nat) {st:ES I.C} {e:Env} {lh:LH},Vw P X ρ G st e lh-> ∃e2 lh2,Sub nt e lh e2 lh2/\Vw P X ρ G (Nk X l st) e2 lh2
 |[],st,e,lh,hv=>⟨e,lh,Sub.refl _ _ _,hv⟩
 |i::r,st,e,lh,hv=>by obtain⟨e1,lh1,h1,h2⟩:=Py (nt:=nt) hI hv i;obtain⟨e2,lh2,h3,h4⟩:=WE hI r h2;exact⟨e2,lh2,h1.trans h3,h4⟩
theorem Ny(hI:IpOK P I): ∀(l:List Nat) {st:ES I.C} {e:Env} {lh:LH},Vw P X ρ G st e lh-> ∃e2 lh2,Sub nt e lh e2 lh2/\Vw P X ρ G (ng X l st) e2 lh2
 |[],st,e,lh,hv=>⟨e,lh,Sub.refl _ _ _,hv⟩
 |t::r,st,e,lh,hv=>by
  simp only[ng];split
  ·rename_i id _;obtain⟨e1,lh1,h1,h2⟩:=Py (nt:=nt) hI hv id;obtain⟨e2,lh2,h3,h4⟩:=Ny hI r h2;exact⟨e2,lh2,h1.trans h3,h4⟩
  ·exact Ny hI r hv
theorem uy(hI:IpOK P I): ∀(l:List Nat) {st:ES I.C} {e:Env} {lh:LH},Vw P X ρ G st e lh-> ∃e2 lh2,Sub nt e lh e2 lh2/\Vw P X ρ G (ag X l st) e2 lh2
 |[],st,e,lh,hv=>⟨e,lh,Sub.refl _ _ _,hv⟩
 |i::r,st,e,lh,hv=>by obtain⟨e1,lh1,h1,h2⟩:=DF (nt:=nt) hI hv i;obtain⟨e2,lh2,h3,h4⟩:=uy hI r h2;exact⟨e2,lh2,h1.trans h3,h4⟩
theorem Mw(hI:IpOK P I): ∀(l:List (Nat×Option Nat)) {st:ES I.C} {e:Env} {lh:LH},Vw P X ρ G st e lh-> ∃e2 lh2,Sub nt e lh e2 lh2/\Vw P X ρ G (preE X l st) e2 lh2
 |[],st,e,lh,hv=>⟨e,lh,Sub.refl _ _ _,hv⟩
 |p::r,st,e,lh,hv=>by
  simp only[preE];split
  ·rename_i id _;obtain⟨e1,lh1,h1,h2⟩:=DF (nt:=nt) hI hv id;obtain⟨e2,lh2,h3,h4⟩:=Mw hI r h2;exact⟨e2,lh2,h1.trans h3,h4⟩
  ·exact Mw hI r hv
theorem iD(st:ES I.C)(i:Nat):(Ii X st i).env=st.env/\(Ii X st i).next=st.next:=by
 unfold Ii
 grind
theorem KE: ∀(l:List Nat) (st:ES I.C),(ek X l st).env=st.env/\(ek X l st).next=st.next
 |[],st=>⟨rfl,rfl⟩
 |i::r,st=>by obtain⟨h1,h2⟩:=KE r (Ii X st i);have:=iD (X:=X) st i;exact⟨h1.trans this.1,h2.trans this.2⟩
theorem UF(st:ES I.C)(i:Nat):(Kl X st i).env=st.env/\(Kl X st i).next=st.next:=by
 unfold Kl
 grind
theorem Ry(st:ES I.C)(i:Nat):(yg X st i).env=st.env/\(yg X st i).next=st.next:=by
 unfold yg;split
 ·rename_i t l1 cs l2 _;obtain⟨h1,h2⟩:=UF (X:=X) (ek X (cs.flatMap Mk) st) i;obtain⟨h3,h4⟩:=KE (X:=X) (cs.flatMap Mk) st
  grind
 ·exact UF st i
theorem XE: ∀(l:List Nat) (st:ES I.C),(Nk X l st).env=st.env/\(Nk X l st).next=st.next
 |[],st=>⟨rfl,rfl⟩
 |i::r,st=>by obtain⟨h1,h2⟩:=XE r (yg X st i);have:=Ry (X:=X) st i;exact⟨h1.trans this.1,h2.trans this.2⟩
theorem Oy: ∀(l:List Nat) (st:ES I.C),(ng X l st).env=st.env/\(ng X l st).next=st.next
 |[],st=>⟨rfl,rfl⟩
 |t::r,st=>by
  simp only[ng];split
  ·rename_i id _;obtain⟨h1,h2⟩:=Oy r (yg X st id);have:=Ry (X:=X) st id
   grind
  ·exact Oy r st
theorem Fu: ∀(l:List Nat) (st:ES I.C),(ag X l st).env=st.env/\(ag X l st).next=st.next
 |[],st=>⟨rfl,rfl⟩
 |i::r,st=>by obtain⟨h1,h2⟩:=Fu r (tq X st i);have h3:=iD (X:=X) (yg X st i) i;have h4:=Ry (X:=X) st i;exact⟨h1.trans (h3.1.trans h4.1),h2.trans (h3.2.trans h4.2)⟩
theorem bB: ∀(l:EEnv I.C) (t:Nat),lk (ZT l) t=(match lk l t with|some (.opt _ _)=>some .any|x=>x)
 |[],t=>rfl
 |(j,x)::r,t=>by
  cases x<;>simp only[ZT]<;>rw[zQ,zQ]<;>by_cases h:t=j
  all_goals first
   |(rw[Va h,Va h];done)
   |(rw[Oa h,Oa h];exact bB r t)
theorem NK(hv:Vw P X ρ G st e lh): ∃e2 lh2,Sub nt e lh e2 lh2/\Vw P X ρ G {st with env:=ZT st.env} e2 lh2:=by
 generalize hst2:({st with env:=ZT st.env}:ES I.C)=st2;have hO:lkO X st2=lkO X st:=by rw[<-hst2];rfl
 have hE: ∀t,lkE X st2 t=(match lkE X st t with|some (.opt _ _)=>some .any|x=>x):=by
  intro t;rw[<-hst2];simp only[lkE,bB];cases hl:lk st.env t with
  |some x=>cases x<;>rfl
  |none=>
   simp only;cases hf:lk X.frm t with
   |none=>rfl
   |some x=> have:=(hv.fre t x hf).2;cases x<;>first|rfl|cases this
 have hnx:st2.next=st.next:=by rw[<-hst2]
 have hw:WfS X ρ G st2 lh.next:=by
  refine⟨by rw[hO];exact hv.inj,fun i hi=>⟨hv.glt i hi,by rw[hO];exact(hv.oth i hi).2⟩,fun t x hx=> ?_,by rw[hO];exact hv.fro,by rw[hnx];exact hv.lt,by rw[hnx];exact hv.up,fun t x hx=> ?_,by rw[hO,hnx];exact hv.wfh⟩
  ·obtain⟨f1,f2⟩:=hv.fre t x hx;refine⟨?_,f2⟩;rw[hE,f1];cases x<;>first|rfl|cases f2
  ·rw[hE]at hx;rw[hnx];split at hx
   ·cases hx;rfl
   ·exact hv.wfe t x hx
 refine⟨_,_,?_,hw.vw (P:=P)⟩;refine recast (Z:=fun _=>False) (Ma _) (fun z hz=>hz.elim) (fun i o2 ho _=> ?_) (fun t=> ?_)
 ·by_cases hex: ∃j oj,lkO X st2 j=some oj/\ρ j=i
  ·obtain⟨j,oj,hj,rfl⟩:=hex;simp only[bi hw hj]at ho;rw[hO]at hj ho;exact⟨o2,by rw[hv.heap j oj hj];exact ho,RcO.refl _⟩
  ·simp only[lm (fun j oj hj e=>hex ⟨j,oj,hj,e⟩)]at ho;exact⟨o2,by rw[(hv.oth i (by rw[ho];simp)).1];exact ho,RcO.refl _⟩
 ·rw[Jn,hE,hv.env t,hO];cases hl2:lkE X st t with
  |none=>exact .any _
  |some x=>
   cases x with
   |opt ks t=>exact .any _
   |_=>exact tu (fun v=>RcC.refl _) (fun ks t h=>by cases h)
end
section
variable {P:Program} {I:Ip} {X:Cx I} {ρ:Nat->Nat} {G:Get} {st:ES I.C} {e:Env} {lh:LH} {nt:Nat}
theorem Oi{ρ ρ2:Nat->Nat}{h h2:Nat->Option (EO I.C)}{v:EV I.C}(hs: ∀i∈zM v,ρ2 i=ρ i/\infO h2 i=infO h i):trV ρ2 h2 v=trV ρ h v:=by
 cases v with
 |own id=> obtain⟨h1,h2'⟩:=hs id (by simp[zM]);rw[Qr,Qr,h1,h2']
 |osl id off n=>simp only[trV,(hs id (by simp[zM])).1]
 |optr id r c=>simp only[trV,(hs id (by simp[zM])).1]
 |mref id=>simp only[trV,(hs id (by simp[zM])).1]
 |clo f caps=> simp only[trV];congr 1;refine Ha fun q hq=> ?_;rw[(hs q.1 (by simp only[zM,Da];grind)).1]
 |_=>rfl
theorem Sr{ρ ρ2:Nat->Nat}{h h2:Nat->Option (EO I.C)}{v:ET I.C}(hs: ∀i∈qA v,ρ2 i=ρ i/\infO h2 i=infO h i):trT ρ2 h2 v=trT ρ h v:=by
 cases v with
 |c x=>exact congrArg TV.c (Oi hs)
 |agg xs=> simp only[trT];congr 1;exact Ha fun v hv=>Oi fun i hi=>hs i (Xa.2 ⟨v,hv,hi⟩)
theorem Oq{n:Nat}{v:EV I.C}(h: ∀i∈zM v,i<n):wfV n v=true:=by cases v<;>simp only[wfV]<;>first|rfl|exact zU.2 (h _ (by simp[zM]))|skip;rename_i f caps;rw[La];exact fun q hq=>zU.2 (h q.1 (by simp only[zM,Da];grind))
theorem YA{n:Nat}{v:ET I.C}(h: ∀i∈qA v,i<n):wfT n v=true:=by
 cases v with
 |c x=>exact Oq h
 |agg xs=> simp only[wfT,La];exact fun v hv=>Oq fun i hi=>h i (Xa.2 ⟨v,hv,hi⟩)
theorem Pq{n:Nat}{o:EO I.C}(h: ∀i∈Sg o,i<n):wfO n o=true:=by
 cases o with
 |cells ty cs=> simp only[wfO,La];exact fun v hv=>Oq fun i hi=>h i (Xa.2 ⟨v,hv,hi⟩)
 |slo t l1 cs l2=> simp only[wfO,La];exact fun v hv=>Oq fun i hi=>h i (Xa.2 ⟨v,hv,hi⟩)
 |_=>rfl
theorem iA{Z:Nat->Prop}{get:Get}{D:Nat->Prop}{x y:TV}(h:WkT Z x y):RcT Z get D x y:=by
 cases h with
 |c x y h=>exact .c _ _ (.inl h)
 |agg xs ys hl h=>exact .agg _ _ hl fun j x y h1 h2=> .inl (h j x y h1 h2)
theorem LC{Z:Nat->Prop}{get:Get}{D:Nat->Prop}(x:LV):RcL Z get D x x:=by
 have hT: ∀t,RcT Z get D t t:=fun t=>iA (WkT.refl t);cases x with
 |any=>exact .any _
 |v t=>exact .v _ _ (hT t)
 |opt g t=>exact .opt _ _ _ (hT t)
 |tup ts=>exact .tup _ _ rfl fun j x y h1 h2=>by grind
theorem Ns: ∀{tmps:List Nat} {vs vals:List (ET I.C)} {t:Nat} {y:EL I.C},ug X st tmps=some vs->vals.length=vs.length->lk (Ng tmps vals) t=some y->
  ∃(j:Nat) (v0 b:ET I.C),lkE X st t=some (.v v0)/\vs[j]? =some v0/\vals[j]? =some b/\y= .v b/\t∈tmps
 |[],vs,vals,t,y,h,hl,hy=>by
  cases vals<;>cases hy
 |t0::r,vs,vals,t,y,h,hl,hy=>by
  simp only[ug]at h;split at h
  ·rename_i x l h1 h2;cases h;cases vals with
   |nil=>cases hy
   |cons b s=>
    simp only[Ng]at hy;rw[zQ]at hy;by_cases ht:t=t0
    ·subst ht;rw[Va rfl]at hy;cases hy;exact⟨0,x,b,h1,rfl,rfl,rfl,Ib ..⟩
    ·rw[Oa ht]at hy;obtain⟨j,v0,b',q1,q2,q3,q4,q5⟩:=Ns h2 (by simpa using hl) hy;exact⟨j+1,v0,b',q1,by simpa using q2,by simpa using q3,q4,Fb _ q5⟩
  ·cases h
theorem kw: ∀{m:Mp} {i:Nat},lk m i=some none->i∈Jf m
 |[],i,h=>by cases h
 |(j,some a)::r,i,h=>by
  rw[zQ]at h;split at h
  ·cases h
  ·exact kw (m:=r) h
 |(j,none)::r,i,h=>by
  rw[zQ]at h;simp only[Jf];split at h
  ·grind
  ·exact Fb _ (kw h)
theorem yx: ∀{l:List Nat},Xk l=true->l.Nodup
 |[],_=>ic
 |i::r,h=>by
  simp only[Xk]at h;cases hm:memN i r with
  |true=>grind
  |false=> rw[hm]at h;exact Rc.2 ⟨FE hm,yx h⟩
theorem bn (hI:IpOK P I) (hv:Vw P X ρ G st e lh) {sh:StSh} {tmps:List Nat} {vs:List (ET I.C)} {m0 m:Mp} {x:(sh.sl I).T} {p n:Nat} (hvs:ug X st tmps=some vs) (hm0:InjM m0) (hm:matC p X sh tmps vs st m0=some (x,m))
  (hn: ∀i∈sh.objs.map (·.1),i<n) (hf1: ∀t y,lk X.frm t=some y->wfL n y=true) (hf2: ∀i o,lk X.frh i=some o->i<n/\wfO n o=true) (hp:p<=st.next) (hpn:p<=n):
  ∃ρ2 e2 lh2,Sub nt e lh e2 lh2/\Vw P X ρ2 G (encS sh tmps n x) e2 lh2/\ ∀i,i<p->ρ2 i=ρ i:=by
 unfold matC at hm;obtain⟨⟨x',m'⟩,hmat,hm2⟩:=Aa.1 hm;obtain⟨hck,hm3⟩:=zk hm2;cases hm3;obtain⟨ea,lha,sa,va⟩:=uy (nt:=nt) hI (fzV sh.vals vs) hv;obtain⟨ec,lhc,sc,vc⟩:=WE (nt:=nt) hI (clA (lkO X (ag X (fzV sh.vals vs) st)) sh vs) va;generalize hst0:Nk X (clA (lkO X (ag X (fzV sh.vals vs) st)) sh vs) (ag X (fzV sh.vals vs) st)=st0 at*;obtain⟨eb,lhb,sb,vb⟩:=uy (nt:=nt) hI (fzA (lkO X st0) sh vs) vc;generalize hst1:ag X (fzA (lkO X st0) sh vs) st0=st1 at*;have henv1:st1.env=st.env/\st1.next=st.next:=by rw[<-hst1];obtain⟨q1,q2⟩:=Fu (X:=X) (fzA (lkO X st0) sh vs) st0;have q5:=XE (X:=X) (clA (lkO X (ag X (fzV sh.vals vs) st)) sh vs) (ag X (fzV sh.vals vs) st);rw[hst0]at q5;obtain⟨q3,q4⟩:=Fu (X:=X) (fzV sh.vals vs) st;exact⟨q1.trans (q5.1.trans q3),q2.trans (q5.2.trans q4)⟩
 have hE1:lkE X st1=lkE X st:=by funext t;simp only[lkE,henv1.1]
 have ssub:=(sa.trans sc).trans sb;generalize hh:lkO X st1=h at*;obtain⟨_,L1⟩:=Aj (P:=P) hI sh;obtain⟨k1,k2,k3,k4,k5⟩:=L1 _ _ _ _ _ hmat;obtain⟨L0,_⟩:=Aj (P:=P) hI sh;have hkeys:=L0 x;have hinj:=k2 hm0;obtain⟨rf1,rf2⟩:=Er (P:=P) hI sh x;generalize ha:(sh.sl I).enc x=a at*;simp only[Yq,Ca]at hck;obtain⟨⟨⟨⟨⟨⟨c1,c2⟩,c3⟩,c4⟩,c5⟩,c6⟩,c7⟩:=hck;have hnd:=yx c2;simp only[wfSt,Ca]at c1;have w1:=qM.1 c1.1;have w2:=qM.1 c1.2;simp only[Ic]at w1 w2;have hand:(a.2.map (·.1)).Nodup:=by rw[hkeys];exact hnd
 -- what the map binds
 have mk: ∀i z,lk m i=some z->i∈sh.objs.map (·.1)/\(i<p->isSelf m i=true)/\(∀a,z=some a->lk X.frh a=none):=by
  intro i z hz;have:=La.1 c5 _ (zN hz);simp only[Ca]at this;obtain⟨⟨q1,q2⟩,q3⟩:=this;refine⟨Zm.1 q1,fun hip=> ?_,fun b hb=> ?_⟩
  ·rw[zU.2 hip]at q2;simpa using q2
  ·subst hb;simp only at q3;cases hl:lk X.frh b with
   |none=>rfl
   |some o=>rw[hl]at q3;cases q3
 have idfrh: ∀i∈sh.objs.map (·.1),lk X.frh i=none:=by
  intro i hi;have:=La.1 c3 i hi;cases hl:lk X.frh i with
  |none=>rfl
  |some o=>rw[hl]at this;cases this
 have tfrm: ∀t∈tmps,lk X.frm t=none:=by
  intro t ht;have:=La.1 c4 t ht;cases hl:lk X.frm t with
  |none=>rfl
  |some o=>rw[hl]at this;cases this
 let len:=(Jf m).length
 let N2:=lhb.next+len+1
 let ρ2:Nat->Nat:=fun i=>match lk m i with
  |some (some b)=>ρ b
  |some none=>lhb.next+(Jf m).idxOf i
  |none=>if i<n then(if i<st1.next then ρ i else lhb.next+len)else N2+(i - n)
 have r2a: ∀i b,lk m i=some (some b)->ρ2 i=ρ b:=fun i b hb=>by simp only[ρ2,hb]
 have r2b: ∀i,lk m i=some none->ρ2 i=lhb.next+(Jf m).idxOf i:=fun i hb=>by simp only[ρ2,hb]
 have idxlt: ∀i,lk m i=some none->(Jf m).idxOf i<len:=fun i hb=>List.idxOf_lt_length_iff.2 (kw hb)
 -- objects of the new state
 generalize hstc:encS sh tmps n x=stc at*;have stE:stc.env=Ng tmps a.1:=by rw[<-hstc];simp only[encS,ha]
 have stH:stc.heap=a.2:=by rw[<-hstc];simp only[encS,ha]
 have stN:stc.next=n:=by rw[<-hstc];rfl
 have lkH: ∀i,lkO X stc i=(match lk a.2 i with|some o=>some o|none=>lk X.frh i):=fun i=>by unfold lkO;rw[stH];cases lk a.2 i<;>rfl
 have inIds: ∀i,i∈sh.objs.map (·.1)-> ∃o',lk a.2 i=some o'/\lkO X stc i=some o':=by intro i hi;rw[<-hkeys]at hi;obtain⟨o',ho⟩:=zW hi;exact⟨o',ho,by rw[lkH,ho]⟩
 have frIds: ∀i o,lk X.frh i=some o->lkO X stc i=some o/\lk m i=none/\h i=some o:=by
  intro i o ho;have hni:i ∉ sh.objs.map (·.1):=fun hi=>by rw[idfrh i hi]at ho;cases ho
  refine⟨?_,?_,?_⟩
  ·rw[lkH,Kn (l:=a.2) (fun z hz e=>hni (by rw[<-hkeys];exact Da.2 ⟨z,hz,e⟩))];exact ho
  ·cases hl:lk m i with
   |none=>rfl
   |some z=>exact absurd (mk i z hl).1 hni
  ·rw[<-hh];exact vb.fro i o ho
 have pres: ∀i o,lkO X stc i=some o->(∃b ob,i∈sh.objs.map (·.1)/\lk a.2 i=some o/\lk m i=some (some b)/\h b=some ob/\infE ob=infE o/\lk X.frh b=none)\/(i∈sh.objs.map (·.1)/\lk a.2 i=some o/\lk m i=some none/\ ∃t,o= .sl t [])\/(lk X.frh i=some o):=by
  intro i o ho;rw[lkH]at ho;cases hl:lk a.2 i with
  |none=>rw[hl]at ho;exact .inr (.inr ho)
  |some o'=>
   rw[hl]at ho;cases ho;have hmem:=zN hl;have hi:i∈sh.objs.map (·.1):=by rw[<-hkeys];exact Da.2 ⟨_,hmem,rfl⟩
   rcases k5 i o hmem with⟨b,on,q1,q2,q3,_⟩|⟨q1,q2⟩
   ·refine .inl ⟨b,?_⟩;unfold nrmH at q2;cases hb:h b with
    |none=>rw[hb]at q2;cases q2
    |some ob=> rw[hb]at q2;refine⟨ob,hi,rfl,q1,rfl,?_,(mk i _ q1).2.2 b rfl⟩;cases ob<;>simp only[Option.some.injEq]at q2<;>subst q2<;>exact q3
   ·exact .inr (.inl ⟨hi,rfl,q1,q2⟩)
 have frlt: ∀i o,lk X.frh i=some o->ρ2 i=ρ i:=by intro i o ho;obtain⟨q1,q2,q3⟩:=frIds i o ho;have h1:=(hf2 i o ho).1;have h2:=(vb.wfh i o (by rw[hh];exact q3)).1;simp only[ρ2,q2,Va h1,Va h2]
 have hZmem: ∀i,lk m i=some none->lhb.next<=ρ2 i/\ρ2 i<N2:=by intro i hi;rw[r2b i hi];have:=idxlt i hi;exact⟨Dc _ _,by simp only[N2];omega⟩
 let Z:Nat->Prop:=fun z=> ∃i,lk m i=some none/\z=ρ2 i
 have hcmp:Cmp ρ ρ2 h (lkO X stc) Z m:=by
  intro i z hz;obtain⟨hi,_,_⟩:=mk i z hz;obtain⟨o',q1,q2⟩:=inIds i hi;cases z with
  |some b=>
   refine⟨r2a i b hz,?_⟩;rcases pres i o' q2 with⟨b',ob,_,g2,g3,g4,g5,_⟩|⟨_,_,g3,_⟩|g
   ·rw[hz]at g3;cases g3;rw[zJ q2,zJ g4,g5]
   ·rw[hz]at g3;cases g3
   ·rw[idfrh i hi]at g;cases g
  |none=>
   refine⟨⟨i,hz,rfl⟩,?_⟩;rcases pres i o' q2 with⟨b',ob,_,g2,g3,g4,g5,_⟩|⟨_,_,g3,t,g4⟩|g
   ·rw[hz]at g3;cases g3
   ·rw[zJ q2,g4];rfl
   ·rw[idfrh i hi]at g;cases g
 have frame: ∀i,((memN i (sh.objs.map (·.1))&&isSelf m i)||(match lk X.frh i with|some _=>true|none=>false))=true->ρ2 i=ρ i/\infO (lkO X stc) i=infO h i:=by
  intro i hi;rw[Re]at hi;rcases hi with hi|hi
  ·rw[Ca]at hi;have h2:=hi.2;unfold isSelf at h2;split at h2
   ·rename_i b hb;have:=Ta h2;subst this;exact⟨r2a _ _ hb,(hcmp _ _ hb).2⟩
   ·cases h2
  ·cases hl:lk X.frh i with
   |none=>rw[hl]at hi;cases hi
   |some o=> obtain⟨q1,q2,q3⟩:=frIds i o hl;exact⟨frlt i o hl,by rw[zJ q1,zJ q3]⟩
 have hw:WfS X ρ2 G stc N2:=by
  refine⟨fun i j o o' h1 h2 he=> ?_,fun i hi=>⟨?_,fun j o ho=> ?_⟩,fun t y hy=> ?_,fun i o ho=>(frIds i o ho).1,fun i hi=> ?_,fun i hi=> ?_,fun t y hy=> ?_,fun i o ho=> ?_⟩
  ·have old: ∀i b ob,lk m i=some (some b)->h b=some ob->ρ2 i<lhb.next:=fun i b ob q1 q2=>by rw[r2a i b q1];exact vb.lt b (vb.wfh b ob (by rw[hh];exact q2)).1
   have frm: ∀i o,lk X.frh i=some o->ρ2 i<lhb.next:=fun i o q=>by rw[frlt i o q];exact vb.lt i (vb.wfh i o (by rw[hh];exact(frIds i o q).2.2)).1
   rcases pres i o h1 with⟨b,ob,_,_,g3,g4,_,g6⟩|⟨_,_,g3,_⟩|g<;>rcases pres j o' h2 with⟨b',ob',_,_,f3,f4,_,f6⟩|⟨_,_,f3,_⟩|f
   ·rw[r2a i b g3,r2a j b' f3]at he;have:=vb.inj b b' ob ob' (by rw[hh];exact g4) (by rw[hh];exact f4) he;subst this;exact hinj i j b g3 f3
   ·have:=old i b ob g3 g4;have:=(hZmem j f3).1;omega
   ·rw[r2a i b g3,frlt j o' f]at he;have:=vb.inj b j ob o' (by rw[hh];exact g4) (by rw[hh];exact(frIds j o' f).2.2) he;subst this;rw[f]at g6;cases g6
   ·have:=old j b' ob' f3 f4;have:=(hZmem i g3).1;omega
   ·rw[r2b i g3,r2b j f3]at he;have e1:(Jf m).idxOf i=(Jf m).idxOf j:=by omega
    have l1:=idxlt i g3;have l2:=idxlt j f3;have a1:(Jf m)[(Jf m).idxOf i]'l1=i:=List.getElem_idxOf l1;have a2:(Jf m)[(Jf m).idxOf j]'l2=j:=List.getElem_idxOf l2;have a3:(Jf m)[(Jf m).idxOf i]'l1=(Jf m)[(Jf m).idxOf j]'l2:=by simp only[e1]
    rw[a1,a2]at a3;exact a3
   ·have:=frm j o' f;have:=(hZmem i g3).1;omega
   ·rw[frlt i o g,r2a j b' f3]at he;have:=vb.inj i b' o ob' (by rw[hh];exact(frIds i o g).2.2) (by rw[hh];exact f4) he;subst this;rw[g]at f6;cases f6
   ·have:=frm i o g;have:=(hZmem j f3).1;omega
   ·rw[frlt i o g,frlt j o' f]at he;exact vb.inj i j o o' (by rw[hh];exact(frIds i o g).2.2) (by rw[hh];exact(frIds j o' f).2.2) he
  ·have:=vb.glt i hi;simp only[N2];omega
  ·rcases pres j o ho with⟨b,ob,_,_,g3,g4,_,_⟩|⟨_,_,g3,_⟩|g
   ·rw[r2a j b g3];exact(vb.oth i hi).2 b ob (by rw[hh];exact g4)
   ·have:=(hZmem j g3).1;have:=vb.glt i hi;omega
   ·rw[frlt j o g];exact(vb.oth i hi).2 j o (by rw[hh];exact(frIds j o g).2.2)
  ·refine⟨?_,(vb.fre t y hy).2⟩;simp only[lkE,stE];cases hl:lk (Ng tmps a.1) t with
   |none=>exact hy
   |some z=> obtain⟨_,_,_,_,_,_,_,q⟩:=Ns hvs (by rw[k3,Ga]) hl;rw[tfrm t q]at hy;cases hy
  ·rw[stN]at hi;simp only[ρ2];cases hl:lk m i with
   |none=>
    simp only;rw[Va hi];split
    ·rename_i hlt;have:=vb.lt i hlt;simp only[N2];omega
    ·simp only[N2];omega
   |some z=>
    cases z with
    |some b=>
     obtain⟨hmi,_,_⟩:=mk i _ hl;obtain⟨o',q1,q2⟩:=inIds i hmi;rcases pres i o' q2 with⟨b',ob,_,_,g3,g4,_,_⟩|⟨_,_,g3,_⟩|g
     ·rw[hl]at g3;cases g3;have:=vb.lt b (vb.wfh b ob (by rw[hh];exact g4)).1;simp only[N2];omega
     ·rw[hl]at g3;cases g3
     ·rw[idfrh i hmi]at g;cases g
    |none=>have:=idxlt i hl;simp only[N2];omega
  ·rw[stN]at hi ⊢;have:lk m i=none:=by
    cases hl:lk m i with
    |none=>rfl
    |some z=>have:=hn i (mk i z hl).1;omega
   simp only[ρ2,this];rw[Oa (by omega)]
  ·rw[stN];simp only[lkE,stE]at hy;cases hl:lk (Ng tmps a.1) t with
   |none=>rw[hl]at hy;exact hf1 t y hy
   |some z=> rw[hl]at hy;cases hy;obtain⟨j,v0,b,_,_,q3,q4,_⟩:=Ns hvs (by rw[k3,Ga]) hl;subst q4;exact YA fun i hi=>hn i (w1 i (rf1 b (Ia q3) i hi))
  ·rw[stN];rcases pres i o ho with⟨b,ob,g1,g2,_⟩|⟨g1,g2,_⟩|g
   ·exact⟨hn i g1,Pq fun j hj=>hn j (w2 j (rf2 (i,o) (zN g2) j hj))⟩
   ·exact⟨hn i g1,Pq fun j hj=>hn j (w2 j (rf2 (i,o) (zN g2) j hj))⟩
   ·exact hf2 i o g
 refine⟨ρ2,_,_,ssub.trans (recast (Z:=Z) (lh2:=⟨N2,cG P X ρ2 G stc⟩) (by simp only[N2];omega) (fun z hz=> ?_) (fun i o2 ho hnz=> ?_) (fun t=> ?_)),hw.vw (P:=P),fun i hi=> ?_⟩
 ·obtain⟨i,hi,rfl⟩:=hz;obtain⟨q1,q2⟩:=hZmem i hi;obtain⟨hmi,_,_⟩:=mk i _ hi;obtain⟨o',g1,g2⟩:=inIds i hmi;refine⟨q1,q2,?_⟩;rcases pres i o' g2 with⟨b',ob,_,_,g3,_⟩|⟨_,_,_,t,g4⟩|g
  ·rw[hi]at g3;cases g3
  ·subst g4;refine⟨t,P.cellsOf t,?_⟩;show cG P X ρ2 G stc (ρ2 i)=_;rw[bi hw g2];rfl
  ·rw[idfrh i hmi]at g;cases g
 ·by_cases hex: ∃j oj,lkO X stc j=some oj/\ρ2 j=i
  ·obtain⟨j,oj,hj,rfl⟩:=hex;simp only[bi hw hj]at ho;rcases pres j oj hj with⟨b,ob,g1,g2,g3,g4,g5,_⟩|⟨_,_,g3,_⟩|g
   ·rcases k5 j oj (zN g2)with⟨b',on,q1,q2,_,_,_,q6⟩|⟨q1,_⟩
    ·rw[g3]at q1;cases q1;obtain⟨oa,oa',s1,s2,s3⟩:=q6 ρ ρ2 h (lkO X stc) Z hcmp;rw[ho]at s2;cases s2;refine⟨oa,?_,s3.ty,s3.k,s3.len,fun i row row2 hr hr2=>⟨(s3.row i row row2 hr hr2).1,fun j x y hx hy=> .inl ((s3.row i row row2 hr hr2).2 j x y hx hy)⟩,s3.raw⟩;rw[r2a j b g3];have hg:=vb.heap b ob (by rw[hh];exact g4);rw[hg,hh,<-s1];unfold nrmH at q2;rw[g4]at q2;cases ob<;>simp only[Option.some.injEq]at q2<;>subst q2<;>first|rfl|exact VB.symm|exact gB.symm
    ·rw[g3]at q1;cases q1
   ·exact absurd ⟨j,g3,rfl⟩ hnz
   ·obtain⟨q1,q2,q3⟩:=frIds j oj g;refine⟨o2,?_,RcO.refl _⟩;rw[frlt j oj g,vb.heap j oj (by rw[hh];exact q3),hh,<-ho];have hfr:=La.1 c7 _ (zN g);have hfr:=La.1 hfr;cases oj with
    |cells ty cs=> simp only[trO];rw[Ha fun v hv=>(Oi (ρ:=ρ) (ρ2:=ρ2) (h:=h) (h2:=lkO X stc) fun i hi=>frame i (hfr i (Xa.2 ⟨v,hv,hi⟩))).symm]
    |slo t l1 cs l2=> simp only[trO];rw[Ha fun v hv=>(Oi (ρ:=ρ) (ρ2:=ρ2) (h:=h) (h2:=lkO X stc) fun i hi=>frame i (hfr i (Xa.2 ⟨v,hv,hi⟩))).symm]
    |_=>rfl
  ·simp only[lm (fun j oj hj e=>hex ⟨j,oj,hj,e⟩)]at ho;exact⟨o2,by rw[(vb.oth i (by rw[ho];simp)).1];exact ho,RcO.refl _⟩
 ·rw[Jn,vb.env t,hh,hE1];have hlk:lkE X stc t=(match lk (Ng tmps a.1) t with|some y=>some y|none=>lk X.frm t):=by unfold lkE;rw[stE];cases lk (Ng tmps a.1) t<;>rfl
  rw[hlk];cases hl:lk (Ng tmps a.1) t with
  |some y=>
   obtain⟨j,v0,b,q1,q2,q3,q4,_⟩:=Ns hvs (by rw[k3,Ga]) hl;subst q4;rw[q1];simp only[trL];refine .v _ _ (iA ?_);have:=k4 ρ ρ2 h (lkO X stc) Z hcmp j (nrmT h v0) b (by rw[Ka,q2];rfl) q3
   rwa [Lh]at this
  |none=>
   cases hfm:lk X.frm t with
   |none=>exact .any _
   |some y=>
    obtain⟨f1,f2⟩:=vb.fre t y hfm;rw[hE1]at f1;rw[f1];have hfr:=La.1 c6 _ (zN hfm);have hfr:=La.1 hfr;simp only;cases y with
    |any=>exact .any _
    |v t0=> simp only[trL];rw[Sr (ρ:=ρ) (ρ2:=ρ2) (h:=h) (h2:=lkO X stc) fun i hi=>frame i (hfr i hi)];exact LC _
    |opt ks t0=>cases f2
    |tup ts=> simp only[trL];rw[Ha fun t0 ht=>Sr (ρ:=ρ) (ρ2:=ρ2) (h:=h) (h2:=lkO X stc) fun i hi=>frame i (hfr i (Xa.2 ⟨t0,ht,hi⟩))];exact LC _
 ·cases hl:lk m i with
  |none=> simp only[ρ2,hl];rw[Va (by omega),Va (by rw[henv1.2];omega)]
  |some z=>
   have hself:=(mk i z hl).2.1 hi;unfold isSelf at hself;rw[hl]at hself;cases z with
   |none=>cases hself
   |some b=> have:=Ta hself;subst this;exact r2a _ _ hl
end
section
variable {P:Program} {I:Ip} {X:Cx I} {ρ:Nat->Nat} {G:Get} {st:ES I.C} {e:Env} {lh:LH} {nt:Nat}
theorem Ls: ∀(l:List Nat) {fe:EEnv I.C},Ik X st l=some fe-> ∀t y,lk fe t=some y->lkE X st t=some y/\Nq y=true
 |[],fe,h,t,y,hl=>by cases h;cases hl
 |i::r,fe,h,t,y,hl=>by
  simp only[Ik]at h;split at h
  ·rename_i x l h1 h2;cases h;rw[zQ]at hl;by_cases ht:t=i
   ·rw[Va ht]at hl;cases hl;subst ht;exact⟨h1,rfl⟩
   ·rw[Oa ht]at hl;exact Ls r h2 t y hl
  ·cases h
theorem Js: ∀(l:List Nat) {fo:EHeap I.C},Dk X st l=some fo-> ∀t y,lk fo t=some y->lkO X st t=some y
 |[],fo,h,t,y,hl=>by cases h;cases hl
 |i::r,fo,h,t,y,hl=>by
  simp only[Dk]at h;split at h
  ·rename_i x l h1 h2;cases h;rw[zQ]at hl;by_cases ht:t=i
   ·grind
   ·rw[Oa ht]at hl;exact Js r h2 t y hl
  ·cases h
def frX(X:Cx I)(fe:EEnv I.C)(fo:EHeap I.C):Cx I:={X with frm:=fe++X.frm,frh:=fo++X.frh}
theorem xz{fe:EEnv I.C}{fo:EHeap I.C}(st:ES I.C)(t:Nat):lkE (frX X fe fo) st t=(match lk st.env t with|some x=>some x|none=>match lk fe t with|some x=>some x|none=>lk X.frm t):=by
 unfold lkE frX;simp only[ZF]
 grind
theorem wz{fe:EEnv I.C}{fo:EHeap I.C}(st:ES I.C)(t:Nat):lkO (frX X fe fo) st t=(match lk st.heap t with|some x=>some x|none=>match lk fo t with|some x=>some x|none=>lk X.frh t):=by
 unfold lkO frX;simp only[ZF]
 grind
theorem pu{fe:EEnv I.C}{fo:EHeap I.C}(st:ES I.C):lkE X (unfr fe fo st)=lkE (frX X fe fo) st:=by
 funext t;rw[xz];unfold lkE unfr;simp only[ZF]
 grind
theorem Sk{fe:EEnv I.C}{fo:EHeap I.C}(st:ES I.C):lkO X (unfr fe fo st)=lkO (frX X fe fo) st:=by
 funext t;rw[wz];unfold lkO unfr;simp only[ZF]
 grind
structure Kept (X:Cx I) (fe:EEnv I.C) (fo:EHeap I.C):Prop where
 e: ∀t x y,lk fe t=some y->lk X.frm t=some x->y=x
 o: ∀t x y,lk fo t=some y->lk X.frh t=some x->y=x
theorem IB(hv:Vw P X ρ G st e lh){lt lo:List Nat}{fe:EEnv I.C}{fo:EHeap I.C}(h1:Ik X st lt=some fe)(h2:Dk X st lo=some fo):Vw P (frX X fe fo) ρ G st e lh/\Kept X fe fo:=by
 have hE:lkE (frX X fe fo) st=lkE X st:=by
  funext t;rw[xz];have:=Ls lt h1 t;unfold lkE at this ⊢;cases hs:lk st.env t with
  |some x=>rfl
  |none=>
   grind
 have hO:lkO (frX X fe fo) st=lkO X st:=by
  funext t;rw[wz];have:=Js lo h2 t;unfold lkO at this ⊢;cases hs:lk st.heap t with
  |some x=>rfl
  |none=>
   grind
 refine⟨⟨by rw[hE,hO];exact hv.env,by rw[hO];exact hv.heap,by rw[hO];exact hv.oth,by rw[hO];exact hv.inj,hv.lt,hv.up,fun t x ht=> ?_,fun i o hi=> ?_,hv.glt,by rw[hE];exact hv.wfe,by rw[hO];exact hv.wfh⟩,?_,?_⟩
 ·rw[hE];simp only[frX,ZF]at ht;cases hf:lk fe t with
  |none=>rw[hf]at ht;exact hv.fre t x ht
  |some y=>rw[hf]at ht;cases ht;exact Ls lt h1 t _ hf
 ·rw[hO];simp only[frX,ZF]at hi;cases hf:lk fo i with
  |none=>rw[hf]at hi;exact hv.fro i o hi
  |some y=>rw[hf]at hi;cases hi;exact Js lo h2 i _ hf
 ·intro t x y hy hx;have:=(Ls lt h1 t y hy).1;rw[(hv.fre t x hx).1]at this
  grind
 ·intro t x y hy hx;have:=Js lo h2 t y hy;rw[hv.fro t x hx]at this
  grind
theorem unframe{fe:EEnv I.C}{fo:EHeap I.C}(hk:Kept X fe fo)(hv:Vw P (frX X fe fo) ρ G st e lh):Vw P X ρ G (unfr fe fo st) e lh:=by
 refine⟨by rw[pu,Sk];exact hv.env,by rw[Sk];exact hv.heap,by rw[Sk];exact hv.oth,by rw[Sk];exact hv.inj,hv.lt,hv.up,fun t x ht=> ?_,fun i o hi=> ?_,hv.glt,by rw[pu];exact hv.wfe,by rw[Sk];exact hv.wfh⟩
 ·rw[pu];refine hv.fre t x ?_;simp only[frX,ZF];cases hf:lk fe t with
  |none=>exact ht
  |some y=>rw[hk.e t x y hf ht]
 ·rw[Sk];refine hv.fro i o ?_;simp only[frX,ZF];cases hf:lk fo i with
  |none=>exact hi
  |some y=>rw[hk.o i o y hf hi]
theorem QG: ∀(l:List (Nat×OSh)) (n:Nat),n<=Q8 n l
 |[],n=>Ma n
 |(i,_)::r,n=>by
  simp only[Q8];refine ja ?_ (QG r _);cases h:Nat.ble (i+1) n with
  |true=>grind
  |false=>
   simp only[Ed];have: ¬(i+1<=n):=fun h'=>by rw[Nat.ble_eq_true_of_le h']at h;cases h
   omega
theorem Ol: ∀(l:List (Nat×OSh)) (n i:Nat),i∈l.map (·.1)->i<Q8 n l
 |(j,_)::r,n,i,h=>by
  simp only[Q8];rcases Ra.1 h with h|h
  ·subst h;refine Kb ?_ (QG r _);cases h:Nat.ble (i+1) n with
   |true=>exact Bb h
   |false=>grind
  ·exact Ol r _ i h
theorem SW.next{c:Code}{Q:Post}(h:SW P nt c Q e lh):SW P nt c (fun x e' lh'=>Q x e' lh'/\lh.next<=lh'.next) e lh:=
 fun ι a w hN=>Code.wp_mono (fun _ _ _ ⟨ι',e',lh',h1,h2,h3,h4⟩=>⟨ι',e',lh',⟨h1,h4⟩,h2,h3,h4⟩) (h ι a w hN)
theorem Vw.le{st2:ES I.C}{e2:Env}{lh2:LH}(h:Vw P X ρ G st e lh)(h2:Vw P X ρ G st2 e2 lh2)(hl:lh.next<=lh2.next):st.next<=st2.next:=by have a:=h.up (st.next+st2.next) (Dc _ _);have b:=h2.up (st.next+st2.next) (Nat.le_add_left _ _);omega
theorem MN{S Y R:Type}{step:S->Option (LO S Y R)}{s:S}{x:LX Y R}(h:Rh step s=some x): ∃n,ae step n s=some x:=by
 unfold Rh at h;split at h
 ·grind
 ·cases h
theorem QK{α R:Type}{c:Option α}{f:α->Option R}{r:R}(h:optB c f=some r): ∃x,c=some x/\f x=some r:=by
 cases c with
 |none=>cases h
 |some x=>exact⟨x,rfl,h⟩
def Om(P:Program)(p:Nat)(X:Cx I)(ρ:Nat->Nat)(G:Get){R:Type}(K:Exit->ES I.C->Option R)(r:R):Post:=fun x e' lh'=>
 ∃ρ' st',K x st'=some r/\Vw P X ρ' G st' e' lh'/\p<=st'.next/\ ∀i,i<p->ρ' i=ρ i
theorem ou(hv:Vw P X ρ G st e lh){n:Nat}(hn:st.next<=n):(∀t y,lk X.frm t=some y->wfL n y=true)/\ ∀i o,lk X.frh i=some o->i<n/\wfO n o=true:=by refine⟨fun t y ht=>cB hn (hv.wfe t y (hv.fre t y ht).1),fun i o ho=> ?_⟩;obtain⟨h1,h2⟩:=hv.wfh i o (hv.fro i o ho);exact⟨Kb h1 hn,Rw hn h2⟩
theorem Yt(l:List Nat):InjM (selfs l):=by
 have: ∀(l:List Nat) i a,lk (selfs l) i=some (some a)->i=a:=by
  intro l
  induction l with
  |nil=>intro i a h;cases h
  |cons j r ih=>
   intro i a h;have h:lk ((j,some j)::selfs r) i=some (some a):=h;rw[zQ]at h
   grind
 intro i j a h1 h2
 grind
end
section
variable {P:Program} {I:Ip} {nt:Nat} {G:Get}
theorem mJ{X:Cx I}{ρ:Nat->Nat}{st:ES I.C}{e:Env}{lh:LH}(hv:Vw P X ρ G st e lh){c:Operand}{b:Bool}(h:useE [] (opdE X st c)=some (.c (.bool b)))(ι:Asg)(a:Act)(w:World)(hE:qE ι w nt e a):a.eval c= .bool b:=by have h1:=Al hv (.inl rfl) c _ h;have h2:=zA (Uo hE) c;rw[h1]at h2;exact Wp (t:=trT ρ (lkO X st) (.c (.bool b))) rfl h2
theorem Px{X:Cx I}: ∀(l:List (Nat×Option Nat)) (st:ES I.C),(preE X l st).next=st.next
 |[],st=>rfl
 |p::r,st=>by
  simp only[preE];split
  ·rename_i id _;rw[Px r];exact(Fu [id] st).2
  ·exact Px r st
theorem lK {S Y R:Type} {step:S->Option (LO S Y R)} {z:LX Y R} {n0:Nat} {y:S} (hit:ae step n0 y=some z) (J:S->(Nat->Nat)->Env->LH->Prop) {body:Code} {Q:Post} {e e1:Env} {lh lh1:LH} {ρ1:Nat->Nat} (h0:J y ρ1 e1 lh1) (hs:Sub nt e lh e1 lh1)
  (again: ∀s ρs es lhs s',J s ρs es lhs->step s=some (.again s')->SW P nt body (Im (fun e' lh'=> ∃ρ2 e2 lh2,J s' ρ2 e2 lh2/\Sub nt e' lh' e2 lh2) Q) es lhs)
  (out: ∀s ρs es lhs x,J s ρs es lhs->step s=some (.out x)->z= .out x->SW P nt body (Im (fun _ _=>False) Q) es lhs)
  (ret: ∀s ρs es lhs x,J s ρs es lhs->step s=some (.ret x)->z= .ret x->SW P nt body (Im (fun _ _=>False) Q) es lhs):SW P nt (.loop body) Q e lh:=by
 refine sw (α:=Nat×S×(Nat->Nat)×Env×LH) (fun x=>x.2.2.2.1) (fun x=>x.2.2.2.2) (fun x=>ae step x.1 x.2.1=some z/\J x.2.1 x.2.2.1 x.2.2.2.1 x.2.2.2.2) (fun x=>x.1) (n0,y,ρ1,e1,lh1) ⟨hit,h0⟩ hs ?_;rintro⟨k,s,ρs,es,lhs⟩ ⟨i1,i2⟩;cases k with
 |zero=>cases i1
 |succ k=>
  simp only[ae]at i1;split at i1
  ·cases i1
  ·rename_i s' hst;refine SW.mono (again s ρs es lhs s' i2 hst) fun x e' lh' h=> ?_;cases x with
   |normal=> obtain⟨ρ2,e2,lh2,h1,h2⟩:=h;exact⟨(k,s',ρ2,e2,lh2),⟨i1,h1⟩,Cb k,h2⟩
   |_=>exact h
  ·rename_i x hst;cases i1;refine SW.mono (out s ρs es lhs x i2 hst rfl) fun x e' lh' h=> ?_;cases x with
   |normal=>exact False.elim h
   |_=>exact h
  ·rename_i x hst;cases i1;refine SW.mono (ret s ρs es lhs x i2 hst rfl) fun x e' lh' h=> ?_;cases x with
   |normal=>exact False.elim h
   |_=>exact h
theorem rM(hmix:P.follows .mixedOrders=true)(hI:IpOK P I){A:Env0 I}(hS: ∀c∈A.S,zm P c):
  ∀(c:Code) {X:Cx I} {R:Type} {K:Exit->ES I.C->Option R} {st:ES I.C} {r:R} {ρ:Nat->Nat} {e:Env} {lh:LH},TOK P X.T X.fk->evC A nt c X K st=some r->Vw P X ρ G st e lh->A.p<=st.next->
   SW P nt c (Om P A.p X ρ G K r) e lh:=by
 intro c
 induction c with
 |skip=> intro X R K st r ρ e lh hT h hv hp;exact SW.end_ (x:= .normal) ⟨ρ,st,h,hv,hp,fun _ _=>rfl⟩ (fun _ _ _=>wp_skip)
 |label l=> intro X R K st r ρ e lh hT h hv hp;exact SW.end_ (x:= .normal) ⟨ρ,st,h,hv,hp,fun _ _=>rfl⟩ (fun _ _ _=>wp_label)
 |exit id=> intro X R K st r ρ e lh hT h hv hp;exact SW.end_ (x:= .exit id) ⟨ρ,st,h,hv,hp,fun _ _=>rfl⟩ (fun _ _ _=>wp_exit)
 |ret=> intro X R K st r ρ e lh hT h hv hp;exact SW.end_ (x:= .ret) ⟨ρ,st,h,hv,hp,fun _ _=>rfl⟩ (fun _ _ _=>wp_ret)
 |region id ops draw=>
  intro X R K st r ρ e lh hT h hv hp;obtain⟨e0,lh0,s0,v0⟩:=Ny (nt:=nt) hI (lkD A.cls id) hv;obtain⟨e1,lh1,s1',v1⟩:=Mw (nt:=nt) hI (lkD A.pre id) v0;have s1:=s0.trans s1';have fin: ∀{Q:Post},SW P nt (.region id ops draw) Q e1 lh1->(∀x e' lh',Q x e' lh'->x= .normal/\ ∃st',K .normal {st' with env:=ZT st'.env}=some r/\Vw P X ρ G st' e' lh')->SW P nt (.region id ops draw) (Om P A.p X ρ G K r) e lh:=by intro Q hsw hq;refine SW.sub s1 (SW.post (SW.next hsw) fun x e' lh' ⟨hQ,hle⟩=> ?_);obtain⟨rfl,st',k1,k2⟩:=hq x e' lh' hQ;obtain⟨e2,lh2,s2,v2⟩:=NK (nt:=nt) k2;refine⟨e2,lh2,s2,ρ,_,k1,v2,?_,fun _ _=>rfl⟩;have:=Vw.le v1 k2 hle;have h3:(preE X (lkD A.pre id) (ng X (lkD A.cls id) st)).next=st.next:=(Px _ _).trans (Oy _ _).2;show A.p<=st'.next;omega
  cases draw with
  |false=>
   simp only[evC]at h;split at h
   ·exact fin (yN (Q:=fun x e' lh'=>x= .normal/\ ∃st',K .normal {st' with env:=ZT st'.env}=some r/\Vw P X ρ G st' e' lh') (K:=fun st'=>K .normal {st' with env:=ZT st'.env}) hI hT hS v1 h fun st' e' lh' h1 h2=>⟨rfl,st',h1,h2⟩) fun x e' lh' hq=>hq
   ·exact fin (BQ (Q:=fun x e' lh'=>x= .normal/\ ∃st',K .normal {st' with env:=ZT st'.env}=some r/\Vw P X ρ G st' e' lh') hI hT hS v1 h fun st' e' lh' h1 h2=>⟨rfl,st',h1,h2⟩) fun x e' lh' hq=>hq
  |true=>
   simp only[evC]at h;split at h
   ·exact fin (AO (Q:=fun x e' lh'=>x= .normal/\ ∃st',K .normal {st' with env:=ZT st'.env}=some r/\Vw P X ρ G st' e' lh') (K:=fun st'=>K .normal {st' with env:=ZT st'.env}) hmix hI hT hS v1 h fun st' e' lh' h1 h2=>⟨rfl,st',h1,h2⟩) fun x e' lh' hq=>hq
   ·exact fin (vO (Q:=fun x e' lh'=>x= .normal/\ ∃st',K .normal {st' with env:=ZT st'.env}=some r/\Vw P X ρ G st' e' lh') (K:=fun st'=>K .normal {st' with env:=ZT st'.env}) hmix hI hT hS v1 h fun st' e' lh' h1 h2=>⟨rfl,st',h1,h2⟩) fun x e' lh' hq=>hq
 |seq a b iha ihb=>
  intro X R K st r ρ e lh hT h hv hp;simp only[evC]at h;split at h
  ·refine SW.seq (SW.mono (iha hT h hv hp) fun x e' lh' ⟨ρ',st',h1,h2,h3,h4⟩=> ?_);cases x with
   |normal=>exact SW.mono (ihb hT h1 h2 h3) fun x e2 lh2 ⟨ρ2,st2,k1,k2,k3,k4⟩=>⟨ρ2,st2,k1,k2,k3,fun i hi=>(k4 i hi).trans (h4 i hi)⟩
   |_=>exact⟨ρ',st',h1,h2,h3,h4⟩
  ·rename_i c _;split at h
   ·rename_i fe fo hk1 hk2;obtain⟨hv',hkept⟩:=IB hv hk1 hk2;obtain⟨z,hz1,hz2⟩:=Aa.1 h;have hT':TOK P (frX X fe fo).T (frX X fe fo).fk:=hT;have ha:=iha (X:=frX X fe fo) hT' hz1 hv' hp;refine SW.seq (SW.mono ha fun x e' lh' ⟨ρ',st',h1,h2,h3,h4⟩=> ?_);have other: ∀(x:Exit),(K x (unfr fe fo st')).map LX.ret=some z->Om P A.p X ρ G K r x e' lh':=by intro x h1;obtain⟨y,q1,q2⟩:=Jb.1 h1;subst q2;simp only[Option.some.injEq]at hz2;subst hz2;exact⟨ρ',_,q1,unframe hkept h2,h3,h4⟩
    cases x with
    |normal=>
     obtain⟨vs,q1,q2⟩:=QK h1;obtain⟨⟨y,m⟩,q3,q4⟩:=Aa.1 q2;cases q4;obtain⟨w1,w2⟩:=ou (st:=st) hv' (QG c.sh.objs st.next);obtain⟨ρ2,e2,lh2,s2,v2,g2⟩:=bn (nt:=nt) hI h2 q1 (Yt _) q3 (fun i hi=>Ol _ _ i hi) w1 w2 h3 (ja hp (QG _ _));refine SW.sub s2 (SW.mono (ihb (X:=frX X fe fo) hT' hz2 v2 (ja hp (QG _ _))) fun x e3 lh3 ⟨ρ3,st3,k1,k2,k3,k4⟩=>⟨ρ3,_,k1,unframe hkept k2,k3,fun i hi=> ?_⟩)
     grind
    |exit i=>exact other (.exit i) h1
    |goto l=>exact other (.goto l) h1
    |ret=>exact other .ret h1
    |panic c=>exact other (.panic c) h1
    |outgrown=>exact other .outgrown h1
   ·cases h
 |cond c x y ihx ihy=>
  intro X R K st r ρ e lh hT h hv hp;simp only[evC]at h;split at h
  ·rename_i b hb;refine SW.cond (b:=b) (fun ι a w hE=>mJ hv hb ι a w hE) (fun hb=> ?_) (fun hb=> ?_)
   ·grind
   grind
  ·cases h
 |block id c ih=>
  intro X R K st r ρ e lh hT h hv hp;simp only[evC]at h;refine SW.block (SW.mono (ih hT h hv hp) fun x e' lh' ⟨ρ',st',h1,h2,h3,h4⟩=> ?_);cases x with
  |exit i=>
   simp only[fq];by_cases hi:i=id
   ·rw[Va hi];simp only[hi,Nat.beq_refl,Bc]at h1;exact⟨ρ',st',h1,h2,h3,h4⟩
   ·rw[Oa hi];have hb:Nat.beq i id=false:=by
     cases hb:Nat.beq i id with
     |false=>rfl
     |true=>simp_all
    simp only[hb,Ed]at h1;exact⟨ρ',st',h1,h2,h3,h4⟩
  |_=>exact⟨ρ',st',h1,h2,h3,h4⟩
 |scope c ih=>
  intro X R K st r ρ e lh hT h hv hp;simp only[evC]at h;refine SW.scope (SW.mono (ih hT h hv hp) fun x e' lh' ⟨ρ',st',h1,h2,h3,h4⟩=> ?_);cases x with
  |goto l=>cases h1
  |_=>exact⟨ρ',st',h1,h2,h3,h4⟩
 |loop c ih=>
  intro X R K st r ρ e lh hT h hv hp;simp only[evC]at h;split at h
  ·cases h
  ·rename_i u _;split at h
   ·rename_i fe fo hk1 hk2;obtain⟨hv',hkept⟩:=IB hv hk1 hk2;have hT':TOK P (frX X fe fo).T (frX X fe fo).fk:=hT;obtain⟨vs,q1,q2⟩:=QK h;obtain⟨⟨y,m⟩,q3,q4⟩:=Aa.1 q2;obtain⟨z,hz1,hz2⟩:=Aa.1 q4;obtain⟨n0,hit⟩:=MN hz1;have hn1:=QG u.sh.objs st.next;have hn2:=QG u.xsh.objs (Q8 st.next u.sh.objs);obtain⟨w1,w2⟩:=ou (st:=st) hv' hn1;obtain⟨w3,w4⟩:=ou (st:=st) hv' (ja hn1 hn2);obtain⟨ρ1,e1,lh1,s1,v1,g1⟩:=bn (nt:=nt) hI hv' q1 (Yt _) q3 (fun i hi=>Ol _ _ i hi) w1 w2 hp (ja hp hn1);refine SW.post (Q:=fun x e' lh'=> ∃e2 lh2,Sub nt e' lh' e2 lh2/\Om P A.p X ρ G K r x e2 lh2) ?_ (fun x e' lh' h=>h);refine lK hit (fun s ρs es lhs=>Vw P (frX X fe fo) ρs G (encS u.sh u.tmps (Q8 st.next u.sh.objs) s) es lhs/\ ∀i,i<A.p->ρs i=ρ i) ⟨v1,g1⟩ s1 ?_ ?_ ?_
    ·-- another round
     intro s ρs es lhs s' ⟨i2,i3⟩ hs;refine SW.mono (ih (X:=frX X fe fo) hT' hs i2 (ja hp hn1)) fun x e' lh' ⟨ρ',st',h1,h2,h3,h4⟩=> ?_;cases x with
     |normal=>
      obtain⟨vs,r1,r2⟩:=QK h1;obtain⟨⟨y',m'⟩,r3,r4⟩:=Aa.1 r2;cases r4;obtain⟨ρ2,e2,lh2,s2,v2,g2⟩:=bn (nt:=nt) hI h2 r1 (Yt _) r3 (fun i hi=>Ol _ _ i hi) w1 w2 h3 (ja hp hn1);exact⟨ρ2,e2,lh2,⟨v2,fun i hi=>by grind⟩,s2⟩
     |exit i=>
      exfalso;simp only at h1;cases hb:Nat.beq i u.xid with
      |true=>
       rw[hb]at h1;obtain⟨vs,r1,r2⟩:=QK h1;obtain⟨p',r3,r4⟩:=Aa.1 r2;cases r4
      |false=> simp_all
     |goto l=>simp_all
     |ret=>simp_all
     |panic c=>simp_all
     |outgrown=>simp_all
    ·-- out
     intro s ρs es lhs xo ⟨i2,i3⟩ hs hz;subst hz;refine SW.mono (ih (X:=frX X fe fo) hT' hs i2 (ja hp hn1)) fun x e' lh' ⟨ρ',st',h1,h2,h3,h4⟩=> ?_;cases x with
     |normal=>
      exfalso;obtain⟨vs,r1,r2⟩:=QK h1;obtain⟨p',r3,r4⟩:=Aa.1 r2;cases r4
     |exit i=>
      simp only at h1;cases hb:Nat.beq i u.xid with
      |true=>
       rw[hb]at h1;obtain⟨vs,r1,r2⟩:=QK h1;obtain⟨⟨y',m'⟩,r3,r4⟩:=Aa.1 r2;cases r4;obtain⟨ρ2,e2,lh2,s2,v2,g2⟩:=bn (nt:=nt) hI h2 r1 (Yt _) r3 (fun i hi=>Ol _ _ i hi) w3 w4 h3 (ja hp (ja hn1 hn2));have:=Ta hb;subst this;exact⟨e2,lh2,s2,ρ2,_,hz2,unframe hkept v2,ja hp (ja hn1 hn2),fun i hi=>by grind⟩
      |false=> simp_all
     |goto l=>simp_all
     |ret=>simp_all
     |panic c=>simp_all
     |outgrown=>simp_all
    ·-- the end, by way of the loop
     intro s ρs es lhs rr ⟨i2,i3⟩ hs hz;subst hz;refine SW.mono (ih (X:=frX X fe fo) hT' hs i2 (ja hp hn1)) fun x e' lh' ⟨ρ',st',h1,h2,h3,h4⟩=> ?_;have other: ∀(x:Exit),(K x (unfr fe fo st')).map LO.ret=some (LO.ret (S:=(u.sh.sl I).T) (X:=(u.xsh.sl I).T) rr)-> ∃e2 lh2,Sub nt e' lh' e2 lh2/\Om P A.p X ρ G K r x e2 lh2:=by intro x h1;obtain⟨y,q1,q2⟩:=Jb.1 h1;cases q2;simp only[Option.some.injEq]at hz2;subst hz2;exact⟨e',lh',Sub.refl _ _ _,ρ',_,q1,unframe hkept h2,h3,fun i hi=>by grind⟩
     cases x with
     |normal=>
      exfalso;obtain⟨vs,r1,r2⟩:=QK h1;obtain⟨p',r3,r4⟩:=Aa.1 r2;cases r4
     |exit i=>
      simp only at h1;cases hb:Nat.beq i u.xid with
      |true=>
       exfalso;rw[hb]at h1;obtain⟨vs,r1,r2⟩:=QK h1;obtain⟨⟨y',m'⟩,r3,r4⟩:=Aa.1 r2;cases r4
      |false=> rw[hb]at h1;exact other (.exit i) h1
     |goto l=>exact other (.goto l) h1
     |ret=>exact other .ret h1
     |panic c=>exact other (.panic c) h1
     |outgrown=>exact other .outgrown h1
   ·cases h
 |_=>intro X R K st r ρ e lh hT h;cases h
end
theorem Q6{α:Type}(q:Nat->Bool)(i:Nat): ∀(l:List (Nat×α)),lk (l.filter fun o=>q o.1) i=(if q i=true then lk l i else none)
 |[]=>by simp[lk]
 |(j,x)::r=>by
  rw[List.filter_cons];by_cases hj:i=j
  ·subst hj;cases hq:q i with
   |true=>rw[Va rfl,Va rfl,zQ,zQ,Va rfl,Va rfl]
   |false=>
    have:=Q6 q i r
    grind
  ·have ih:=Q6 q i r;rw[zQ,Oa hj,<-ih];split
   ·rw[zQ,Oa hj]
   ·rfl
theorem Sw{α:Type}{get:Get}{f:Nat->Nat}{g:α->Option OB}{i:Nat}: ∀{l:List (Nat×α)} {o:α},(∀p∈l,f p.1=f i->p.1=i)->lk l i=some o->upd get (l.map fun p=>(f p.1,g p.2)) (f i)=g o
 |(j,oj)::r,o,hinj,hl=>by
  rw[zQ]at hl;simp only[Na,upd];by_cases hj:i=j
  ·grind
  ·rw[Oa hj]at hl;rw[Oa (fun h=>hj (hinj (j,oj) (Ib ..) h.symm).symm)];exact Sw (fun p hp=>hinj p (Fb _ hp)) hl
section
variable {I:Ip}
theorem JC: ∀(l:List (ET I.C)) (i j:Nat),lk (Xj i l) j=if i<=j then(match l[j - i]? with|some t=>some (.v t)|none=>none)else none
 |[],i,j=>by simp[Xj,lk]
 |t::r,i,j=>by
  simp only[Xj];rw[zQ];by_cases h:j=i
  ·subst h;simp
  ·rw[Oa h,JC r (i+1) j]
   grind
def inX(con:Con I)(T:TT)(fk:List (Nat×List Kd))(x:(con.inS.sl I).T):Cx I:=⟨T,fk,[],((con.inS.sl I).enc x).2.filter fun o=>memN o.1 con.cst⟩
def inE(con:Con I)(x:(con.inS.sl I).T):ES I.C:=⟨Xj 0 ((con.inS.sl I).enc x).1,((con.inS.sl I).enc x).2.filter fun o=> !(memN o.1 con.cst),con.inS.objs.length⟩
def inR(con:Con I)(ρ:Nat->Nat)(M:Nat):Nat->Nat:=fun i=>if i<con.inS.objs.length then ρ i else M+(i - con.inS.objs.length)
open Classical in
noncomputable def inG(con:Con I)(ρ:Nat->Nat)(get:Get):Get:=fun i=>if∃j,j<con.inS.objs.length/\ρ j=i then none else get i
theorem Jk(con:Con I)(T:TT)(fk:List (Nat×List Kd))(x:(con.inS.sl I).T):lkO (inX con T fk x) (inE con x)=lk ((con.inS.sl I).enc x).2:=by
 funext i;unfold lkO inX inE;simp only;rw[Q6 (fun i=> !memN i con.cst),Q6 (fun i=>memN i con.cst)]
 grind
theorem KA(con:Con I)(T:TT)(fk:List (Nat×List Kd))(x:(con.inS.sl I).T)(t:Nat):lkE (inX con T fk x) (inE con x) t=(match((con.inS.sl I).enc x).1[t]? with|some t=>some (.v t)|none=>none):=by unfold lkE inX inE;simp only;rw[JC,Va (Nb _),Nat.sub_zero];cases ((con.inS.sl I).enc x).1[t]? <;>rfl
variable {P:Program}
structure WfIn (con:Con I) (x:(con.inS.sl I).T):Prop where
 keys:((con.inS.sl I).enc x).2.map (·.1)=List.range con.inS.objs.length
 r1: ∀t∈((con.inS.sl I).enc x).1,∀i∈qA t,i<con.inS.objs.length
 r2: ∀o∈((con.inS.sl I).enc x).2,∀i∈Sg o.2,i<con.inS.objs.length
theorem wfIn(hI:IpOK P I){con:Con I}(hwf:Og con=true)(x:(con.inS.sl I).T):WfIn con x:=by simp only[Og,Ca]at hwf;obtain⟨⟨⟨⟨⟨⟨⟨c1,c2⟩,c3⟩,c4⟩,c5⟩,c6⟩,c7⟩,c8⟩:=hwf;have hk:=Gl c1;obtain⟨L0,_⟩:=Aj (P:=P) hI con.inS;obtain⟨rf1,rf2⟩:=Er (P:=P) hI con.inS x;simp only[wfSt,Ca]at c2;have w1:=qM.1 c2.1;have w2:=qM.1 c2.2;simp only[Ic,hk,Pb]at w1 w2;exact⟨by rw[L0,hk],fun t ht i hi=>w1 i (rf1 t ht i hi),fun o ho i hi=>w2 i (rf2 o ho i hi)⟩
theorem Jq{con:Con I}{x:(con.inS.sl I).T}(h:WfIn con x){i:Nat}:(∃o,lk ((con.inS.sl I).enc x).2 i=some o)↔i<con.inS.objs.length:=by
 constructor
 ·intro ⟨o,ho⟩;have:i∈((con.inS.sl I).enc x).2.map (·.1):=Da.2 ⟨_,zN ho,rfl⟩;rw[h.keys]at this
  grind
 ·intro hi;exact zW (by rw[h.keys];grind)
theorem Iq(hI:IpOK P I){con:Con I}{x:(con.inS.sl I).T}{ρ:Nat->Nat}{h:Nat->Option (EO I.C)}{i:Nat}{o:EO I.C}(ho:lk ((con.inS.sl I).enc x).2 i=some o): ∃ob,trO P ρ h o=some ob:=by
 obtain⟨s,_,⟨t,c,e,_⟩|⟨ty,cs,e,_⟩|⟨t,l1,cs,l2,_,_,e⟩⟩:=Ri con.inS x _ (zN ho)
 ·simp only at e;subst e;exact⟨_,rfl⟩
 ·simp only at e;subst e;exact⟨_,rfl⟩
 ·simp only at e;subst e;exact⟨_,rfl⟩
theorem XJ (hI:IpOK P I) {con:Con I} (hwf:Og con=true) (x:(con.inS.sl I).T) (T:TT) (fk:List (Nat×List Kd)) {ρ:Nat->Nat} {M:Nat} {get:Get}
  (hinj: ∀i j,i<con.inS.objs.length->j<con.inS.objs.length->ρ i=ρ j->i=j) (hget: ∀id o,get id=some o->id<M)
  (hrd: ∀q∈((con.inS.sl I).enc x).2.filterMap fun o=>(trO P ρ (lk ((con.inS.sl I).enc x).2) o.2).map fun ob=>(ρ o.1,ob),get q.1=some q.2):
  Vw P (inX con T fk x) (inR con ρ M) (inG con ρ get) (inE con x) (Ej 0 (((con.inS.sl I).enc x).1.map (trT ρ (lk ((con.inS.sl I).enc x).2)))) ⟨M,get⟩:=by
 have hw:=wfIn hI hwf x;have hr: ∀i,i<con.inS.objs.length->inR con ρ M i=ρ i:=fun i hi=>Va hi;have hat: ∀i o,lk ((con.inS.sl I).enc x).2 i=some o->get (ρ i)=trO P ρ (lk ((con.inS.sl I).enc x).2) o:=by intro i o ho;obtain⟨ob,hob⟩:=Iq (P:=P) hI (ρ:=ρ) (h:=lk ((con.inS.sl I).enc x).2) ho;rw[hob];exact hrd (ρ i,ob) (yc.2 ⟨(i,o),zN ho,by rw[hob];rfl⟩)
 have hlt: ∀i,i<con.inS.objs.length->ρ i<M:=by intro i hi;obtain⟨o,ho⟩:=(Jq hw).2 hi;obtain⟨ob,hob⟩:=Iq (P:=P) hI (ρ:=ρ) (h:=lk ((con.inS.sl I).enc x).2) ho;exact hget _ ob (by grind)
 have hid: ∀i o,lk ((con.inS.sl I).enc x).2 i=some o->i<con.inS.objs.length:=fun i o ho=>(Jq hw).1 ⟨o,ho⟩;refine⟨fun t=> ?_,fun id o ho=> ?_,fun i hi=> ?_,fun i j o o' ho ho' e=> ?_,fun id hi=> ?_,fun id hi=> ?_,fun t y h=> ?_,fun i o ho=> ?_,fun i hi=> ?_,fun t y h=> ?_,fun id o ho=> ?_⟩
 ·rw[KA,Gu,Va (Nb _),Nat.sub_zero,Ka];cases ht:((con.inS.sl I).enc x).1[t]? with
  |none=>rfl
  |some v=> simp only[Db,trL];rw[Jk];congr 1;exact(Sr fun i hi=>⟨hr i (hw.r1 v (Ia ht) i hi),rfl⟩).symm
 ·rw[Jk]at ho ⊢;show get _=_;rw[hr id (hid id o ho),hat id o ho];cases o with
  |cells ty cs=> simp only[trO];rw[Ha fun v hv=>(Oi (ρ:=ρ) (ρ2:=inR con ρ M) (h:=lk ((con.inS.sl I).enc x).2) (h2:=lk ((con.inS.sl I).enc x).2) fun i hi=>⟨hr i (hw.r2 _ (zN ho) i (Xa.2 ⟨v,hv,hi⟩)),rfl⟩).symm]
  |slo t l1 cs l2=> simp only[trO];rw[Ha fun v hv=>(Oi (ρ:=ρ) (ρ2:=inR con ρ M) (h:=lk ((con.inS.sl I).enc x).2) (h2:=lk ((con.inS.sl I).enc x).2) fun i hi=>⟨hr i (hw.r2 _ (zN ho) i (Xa.2 ⟨v,hv,hi⟩)),rfl⟩).symm]
  |_=>rfl
 ·unfold inG at hi ⊢;split at hi
  ·grind
  ·rename_i hn;rw[Oa hn];refine⟨rfl,fun id o ho e=>hn ?_⟩;rw[Jk]at ho
   grind
 ·rw[Jk]at ho ho'
  grind
 ·rw[hr id hi];exact hlt id hi
 ·have: ¬id<con.inS.objs.length:=Nat.not_lt.2 hi;show inR con ρ M id=_;unfold inR;rw[Oa this];rfl
 ·cases h
 ·rw[Jk];have ho:lk (((con.inS.sl I).enc x).2.filter fun o=>memN o.1 con.cst) i=some o:=ho;rw[Q6 (fun i=>memN i con.cst)]at ho
  grind
 ·unfold inG at hi;split at hi
  ·grind
  ·cases hg:get i with
   |none=>grind
   |some o=>exact hget i o hg
 ·rw[KA]at h;split at h
  ·rename_i v hv;cases h;exact YA (hw.r1 v (Ia hv))
  ·cases h
 ·rw[Jk]at ho;exact⟨hid id o ho,Pq (hw.r2 _ (zN ho))⟩
end
section
variable {I:Ip} {P:Program}
theorem KI{f:Nat->Nat}{k nx:Nat}{i:Nat}(hinj: ∀j,j<k->f j=f i->j=i)(hi:i<k):rnI ((List.range k).map f) nx (f i)=nx+i:=by
 unfold rnI;cases h:((List.range k).map f).idxOf? (f i)with
 |none=>grind
 |some j=>
  have:=Bw h
  grind
theorem sH{hs:List Nat}{nx i:Nat}(h:i ∉ hs):rnI hs nx i=i:=by
 unfold rnI
 grind
theorem Uq{ρ ρ2:Nat->Nat}{h h2:Nat->Option (EO I.C)}{hs:List Nat}{nx:Nat}{v:EV I.C}(hr: ∀i∈zM v,rnI hs nx (ρ2 i)=ρ i/\infO h2 i=infO h i):rnC hs nx (trV ρ2 h2 v)=trV ρ h v:=by
 cases v with
 |own id=> obtain⟨h1,h2'⟩:=hr id (by simp[zM]);rw[Qr,Qr,h2',<-h1];split<;>rfl
 |osl id off n=>simp only[trV,rnC,(hr id (by simp[zM])).1]
 |optr id r c=>simp only[trV,rnC,(hr id (by simp[zM])).1]
 |mref id=>simp only[trV,rnC,(hr id (by simp[zM])).1]
 |clo f caps=> simp only[trV,rnC,ma];congr 1;refine Ha fun q hq=> ?_;simp only[Function.comp];rw[(hr q.1 (by simp only[zM,Da];grind)).1]
 |_=>rfl
theorem Yr{ρ2:Nat->Nat}{h2:Nat->Option (EO I.C)}{v:EV I.C}{Q:Nat->Prop}(hr: ∀i∈zM v,Q (ρ2 i)): ∀i∈zy (trV ρ2 h2 v),Q i:=by
 intro i hi;cases v with
 |own id=> rw[Qr]at hi;split at hi<;>simp[zy]at hi<;>subst hi<;>exact hr id (by simp[zM])
 |osl id off n=>simp only[trV,zy,Fa]at hi;subst hi;exact hr id (by simp[zM])
 |optr id r c=>simp only[trV,zy,Fa]at hi;subst hi;exact hr id (by simp[zM])
 |mref id=>simp only[trV,zy,Fa]at hi;subst hi;exact hr id (by simp[zM])
 |clo f caps=> simp only[trV,zy,ma,Da,Function.comp]at hi;obtain⟨q,hq,rfl⟩:=hi;exact hr q.1 (by simp only[zM,Da];grind)
 |_=>simp[trV,zy]at hi
theorem JI{ρ ρ2:Nat->Nat}{h h2:Nat->Option (EO I.C)}{hs:List Nat}{nx:Nat}{t:ET I.C}(hr: ∀i∈qA t,rnI hs nx (ρ2 i)=ρ i/\infO h2 i=infO h i):rnT hs nx (trT ρ2 h2 t)=trT ρ h t:=by
 cases t with
 |c v=>exact congrArg TV.c (Uq hr)
 |agg xs=> simp only[trT,rnT,ma];congr 1;exact Ha fun v hv=>Uq fun i hi=>hr i (Xa.2 ⟨v,hv,hi⟩)
theorem WK{ρ2:Nat->Nat}{h2:Nat->Option (EO I.C)}{t:ET I.C}{Q:Nat->Prop}(hr: ∀i∈qA t,Q (ρ2 i)): ∀i∈Dm (trT ρ2 h2 t),Q i:=by
 cases t with
 |c v=>exact Yr hr
 |agg xs=> intro i hi;simp only[trT,Dm,Xa,Da]at hi;obtain⟨c,⟨v,hv,rfl⟩,hi⟩:=hi;exact Yr (fun i hi=>hr i (Xa.2 ⟨v,hv,hi⟩)) i hi
theorem fA{ρ ρ2:Nat->Nat}{h h2:Nat->Option (EO I.C)}{hs:List Nat}{nx:Nat}{o:EO I.C}{Q:Nat->Prop}(hr: ∀i∈Sg o,(rnI hs nx (ρ2 i)=ρ i/\infO h2 i=infO h i)/\Q (ρ2 i)){ob:OB}(ho:trO P ρ2 h2 o=some ob):trO P ρ h o=some (rnO hs nx ob)/\ ∀i∈Gg ob,Q i:=by
 cases o with
 |cells ty cs=>
  simp only[trO,Option.some.injEq]at ho ⊢;subst ho;refine⟨?_,fun i hi=> ?_⟩
  ·simp only[rnO,Na,Rb,ma];congr 2;rw[Ha fun v hv=>(Uq (ρ:=ρ) (h:=h) fun i hi=>(hr i (Xa.2 ⟨v,hv,hi⟩)).1).symm];rfl
  ·simp only[Gg,List.flatMap_cons,List.flatMap_nil,Ic,Xa,Da]at hi;obtain⟨c,⟨v,hv,rfl⟩,hi⟩:=hi;exact Yr (fun i hi=>(hr i (Xa.2 ⟨v,hv,hi⟩)).2) i hi
 |sl t l=>
  simp only[trO,Option.some.injEq]at ho ⊢;subst ho;refine⟨?_,fun i hi=> ?_⟩
  ·simp only[rnO,ma,OB.mk.injEq,true_and,Ce];refine Ha fun x hx=> ?_;simp[Function.comp,ma,rnC]
  ·exfalso;simp only[Gg,Xa,Da]at hi;obtain⟨row,⟨x,_,rfl⟩,c,hc,hi⟩:=hi;obtain⟨q,_,rfl⟩:=Da.1 hc;simp[zy]at hi
 |mp kd l=> simp only[trO,Option.some.injEq]at ho ⊢;subst ho;exact⟨rfl,fun i hi=>by simp[Gg]at hi⟩
 |slo t l1 cs l2=>
  simp only[trO,Option.some.injEq]at ho ⊢;subst ho;have hrow: ∀l:List (I.C t),(l.map fun x=>(I.full t x).map CV.p).map (·.map (rnC hs nx))=l.map fun x=>(I.full t x).map CV.p:=by intro l;rw[ma];refine Ha fun x _=> ?_;simp[Function.comp,ma,rnC]
  have hno: ∀l:List (I.C t),∀row∈(l.map fun x=>(I.full t x).map CV.p),∀c∈row,zy c=[]:=by intro l row hrow c hc;obtain⟨x,_,rfl⟩:=Da.1 hrow;obtain⟨q,_,rfl⟩:=Da.1 hc;rfl
  refine⟨?_,fun i hi=> ?_⟩
  ·simp only[rnO,Vb,Na,hrow];congr 3;rw[ma];rw[Ha fun v hv=>(Uq (ρ:=ρ) (h:=h) fun i hi=>(hr i (Xa.2 ⟨v,hv,hi⟩)).1).symm];rfl
  ·simp only[Gg,Xa]at hi;obtain⟨row,hr1,c,hc,hi⟩:=hi;rcases Eb.1 hr1 with hr1|hr1
   ·grind
   ·rcases Ra.1 hr1 with rfl|hr1
    ·obtain⟨v,hv,rfl⟩:=Da.1 hc;exact Yr (fun i hi=>(hr i (Xa.2 ⟨v,hv,hi⟩)).2) i hi
    grind
 |dead n=>cases ho
 |frz t l=>cases ho
end
section
variable {I:Ip} {P:Program}
theorem LB{h h2:Nat->Option (EO I.C)}{i:Nat}(e:h2 i=h i):infO h2 i=infO h i:=by unfold infO;rw[e]
end
section
variable {I:Ip} {P:Program}
theorem zm.told{f:Nat}{inS:StSh}{cst:List Nat}{outS:StSh}{k:Nat}{F:(inS.sl I).T->Option (outS.sl I).T}{ι:Type}{Fn:ι->(inS.sl I).T->Option (outS.sl I).T}(n0:ι)(hn: ∀n,zm P ⟨f,inS,cst,outS,k,Fn n⟩)(hF: ∀x y,F x=some y-> ∃n,Fn n x=some y):
  zm P (⟨f,inS,cst,outS,k,F⟩:Con I):=
 ⟨(hn n0).wf,fun x y hxy=>let⟨n,h⟩:=hF x y hxy;(hn n).ok x y h⟩
theorem zm.none{f:Nat}{inS:StSh}{cst:List Nat}{outS:StSh}{k:Nat}(hwf:Og (⟨f,inS,cst,outS,k,fun _=>Option.none⟩:Con I)=true):zm P (⟨f,inS,cst,outS,k,fun _=>Option.none⟩:Con I):=
 ⟨hwf,fun x y h=>by cases h⟩
theorem zm.recf {f:Nat} {inS:StSh} {cst:List Nat} {outS:StSh} {k:Nat} {F:(inS.sl I).T->Option (outS.sl I).T} (B:((inS.sl I).T->Option (outS.sl I).T)->(inS.sl I).T->Option (outS.sl I).T)
  (hwf:Og (⟨f,inS,cst,outS,k,fun _=>Option.none⟩:Con I)=true) (hB: ∀S,zm P (⟨f,inS,cst,outS,k,S⟩:Con I)->zm P (⟨f,inS,cst,outS,k,B S⟩:Con I))
  (hF: ∀x y,F x=some y-> ∃n:Nat,Nat.rec (motive:=fun _=>(inS.sl I).T->Option (outS.sl I).T) (fun _=>Option.none) (fun _ S=>B S) n x=some y):zm P (⟨f,inS,cst,outS,k,F⟩:Con I):=by
 refine zm.told 0 (Fn:=fun n=>Nat.rec (motive:=fun _=>(inS.sl I).T->Option (outS.sl I).T) (fun _=>Option.none) (fun _ S=>B S) n) (fun n=> ?_) hF
 induction n with
 |zero=>exact zm.none hwf
 |succ n ih=>exact hB _ ih
theorem vH{l:List Nat}{fk:List (Nat×List Kd)}(hfk: ∀p∈fk,Nh P p.1=some p.2):TOK P (l.map fun t=>(t,ti P t)) fk:=by
 refine⟨fun t i h=> ?_,fun t ks h=>hfk _ (zN h)⟩;obtain⟨t',_,e⟩:=Da.1 (zN h)
 grind
end
section
variable {P:Program}
def NoZ:Nat->Prop:=fun _=>False
end
section
variable {I:Ip}
def Lf:List ResultVar->List Nat
 |[]=>[]
 | .tmp t::r=>t::Lf r
 | .cell a _::r=>a::Lf r
def retE(X:Cx I)(st:ES I.C):List ResultVar->Option (List (ET I.C))
 |[]=>some []
 | .tmp t::r=>match useE [] (opdE X st (.tmp t)),retE X st r with
  |some x,some l=>some (x::l)
  |_,_=>none
 | .cell a t::r=>match useE [] (opdE X st (.tmp a)),retE X st r with
  |some (.c (.optr id 0 cell)),some l=>match lkO X st id with
   |some (.cells _ cs)=>match yh (X.T.at t) cs cell with
    |some x=>some (x::l)
    |none=>none
   |_=>none
  |_,_=>none
def exOK(con:Con I)(exS:StSh)(ws:List (ET I.C))(h:Nat->Option (EO I.C))(m:Mp):Bool:=
 let out:=con.outS.objs.map (·.1)
 subN out (exS.objs.map (·.1))&&(exS.objs.all fun o=> !(memN o.1 con.cst)&&(memN o.1 out|| !(Nat.blt o.1 con.inS.objs.length)))&&
  ((out.all fun i=>isSelf m i)&&m.all fun z=>isSelf m z.1&&memN z.1 (out++con.cst))&&subN (ws.flatMap qA) (out++con.cst)&&(out.all fun i=>match h i with|some o=>subN (Sg o) (out++con.cst)|none=>false)
noncomputable def evF2(A:Env0 I)(T:TT)(fk:List (Nat×List Kd))(nt:Nat)(rs:List ResultVar)(body:Code)(con:Con I)(exS:StSh)(x:(con.inS.sl I).T):Option (con.outS.sl I).T:=
 let a:=(con.inS.sl I).enc x
 let p:=con.inS.objs.length
 let X:Cx I:=⟨T,fk,[],a.2.filter fun o=>memN o.1 con.cst⟩
 let end_:=fun(st:ES I.C)=>optB (ug X st (Lf rs)) fun vs=>(matC p X exS (Lf rs) vs st (uh exS.objs p)).bind fun q=>
  let stz:=encS exS (Lf rs) (Q8 p exS.objs) q.1
  optB (retE X stz rs) fun ws=>((con.outS.sl I).mat ws (lkO X stz) (selfs (con.outS.objs.map (·.1)))).bind fun r=>cond (Xk (Lf rs)&&exOK con exS ws (lkO X stz) r.2) (some r.1) none
 evC A nt body X (fun x st=>match x with| .normal=>end_ st| .ret=>end_ st|_=>none) ⟨Xj 0 a.1,a.2.filter fun o=> !(memN o.1 con.cst),p⟩
end
section
variable {P:Program}
theorem AJ {ι:Asg} {w w':World} {get:Get} {nx k:Nat} {ts ts2:List TV} {up up2:List (Nat×Option OB)} {v:Value}
  (hl:ts2.length=ts.length) (hv: ∀(j:Nat) a b,ts[j]? =some a->ts2[j]? =some b->WkT NoZ a b)
  (hu: ∀id,(upd get up id=none/\upd get up2 id=none)\/ ∃o o2,upd get up id=some o/\upd get up2 id=some o2/\WkOZ NoZ o o2) (h:Good ι w get nx k (valOf ts) up v w'):Good ι w get nx k (valOf ts2) up2 v w':=by
 obtain⟨ι',q1,q2,q3,q4⟩:=h;refine⟨ι',?_,?_,q3,q4⟩
 ·have hZ: ∀z,NoZ z-> ∃k,ι' z= .live none k:=fun z hz=>hz.elim;refine⟨fun id o2 ho=> ?_,fun id ho=> ?_,q1.inj,q1.glob⟩
  ·rcases hu id with⟨_,h2⟩|⟨o,o2',h1,h2,h3⟩
   ·grind
   ·rw[h2]at ho;cases ho;obtain⟨b,k1,k2⟩:=q1.live id o h1;exact⟨b,by rw[h3.k];exact k1,k2.wkZ hZ h3⟩
  ·rcases hu id with⟨h1,_⟩|⟨o,o2',_,h2,_⟩
   ·exact q1.gone id h1
   grind
 ·have hZ: ∀z,NoZ z-> ∃k,ι' z= .live none k:=fun z hz=>hz.elim
  match ts,ts2,hl with
  |[],[],_=>exact q2
  |[t],[t2],_=>exact(hv 0 t t2 rfl rfl).rep hZ q2
  |a::b::l,a2::b2::l2,hl=>
   obtain⟨us,r1,r2,r3⟩:=q2;refine⟨us,r1,by grind,fun j t ht=> ?_⟩;have hj:j<(a::b::l).length:=by rw[<-hl];exact(Ba.1 ht).1
   have h0:(a::b::l)[j]? =some (a::b::l)[j]:=Ea hj;obtain⟨u,k1,k2⟩:=r3 j _ h0;exact⟨u,k1,(hv j _ t h0 ht).rep hZ k2⟩
def Jv(P:Program)(rs:List ResultVar)(nx k M:Nat)(get0:Get)(val:LV)(up:List (Nat×Option OB)):Post:=fun x e lh=>
 ∃ts1 ts2 up1,yz P rs nx k M get0 (valOf ts1) up1 x e lh/\val=valOf ts2/\ts2.length=ts1.length/\(∀(j:Nat) a b,ts1[j]? =some a->ts2[j]? =some b->WkT NoZ a b)/\
  ∀id,(upd get0 up1 id=none/\upd get0 up id=none)\/ ∃o o2,upd get0 up1 id=some o/\upd get0 up id=some o2/\WkOZ NoZ o o2
theorem fQ {f:FuncId} {fn:Func} {c:Code} {rs:List ResultVar} {k nt nx:Nat} {args:List TV} {rd:List (Nat×OB)} {val:LV} {up:List (Nat×Option OB)} (hf:P.funcs[f]? =some fn) (hb:fn.body=some c) (hrs:fn.results=rs.toArray) (hnt:fn.ntmps=nt)
  (hname:(fn.name== "runtime.NumGoroutine")=false) (hlen:args.length<=nt)
  (h: ∀(get:Get) (M:Nat),nx+k<=M->(∀id o,get id=some o->id<M/\(id<nx\/nx+k<=id))->(∀p∈rd,get p.1=some p.2)->
   SW P nt c (Jv P rs nx k M get val up) (Ej 0 args) ⟨M,get⟩):zbA P f args rd nx k val up:=by
 refine⟨⟨fn,hf,hname,by rw[hb];rfl⟩,fun ι get w N vs hR hN hfr hargs hrd=> ?_⟩;have hsw:=h get (max N (nx+k)) (Df _ _) (fun id o ho=>by
  obtain⟨b,h1,_⟩:=hR.live id o ho;have hne:ι id≠ .free:=by rw[h1];simp
  refine⟨?_,?_⟩
  ·rcases Jc id N with h2|h2
   ·omega
   ·exact absurd (hN id h2) hne
  ·rcases Jc id nx with h2|h2
   ·exact .inl h2
   ·rcases Jc id (nx+k)with h3|h3
    ·have:=hfr (id - nx) (by omega)
     grind
    ·exact .inr h3) hrd
 refine calls_of_wp hf hb (Code.wp_mono (fun x a' w' hx=> ?_) (hsw ι {tmps:=vs++Array.replicate (fn.ntmps - vs.size) undef,defers:=[]} w ⟨hR,fun id hid=>hN id (ja (Rf N (nx+k)) hid),⟨?_,rfl,fun i=> ?_⟩⟩))
 ·obtain⟨ι',e',lh',h1,h2,h3,h4⟩:=hx;obtain⟨ts1,ts2,up1,hB,e2,hl2,hv2,hu2⟩:=h1;obtain⟨hxe,hs,ts,q1,q2,q3,q4,q5,q6,q7⟩:=hB;subst q1;replace q3: ∀i∈hs,max N (nx+hs.length)<=i\/upd get up1 i=none:=by
   intro i hi;rcases q3 i hi with h|h|⟨h5,o,h6⟩
   ·exact .inl h
   ·exact .inr h
   ·rcases Jc i (max N (nx+hs.length))with h7|h7
    ·exfalso;obtain⟨b,h8,_⟩:=h2.rel.live i o h6;rcases hR.gone i h5 with h9|h9
     ·rw[h3.keepf i h7 h9]at h8;cases h8
     ·rcases h3.stp.slots i (by rw[h9];simp)with h10|h10
      ·grind
      grind
    ·exact .inl h7
  have main: ∃v,(results fn a'.tmps).run P w'= .ok v w'/\ ∃v0,Ending.returned v= .returned v0/\Good ι w get nx hs.length (valOf ts1) up1 v0 w':=by
   obtain⟨g1,g2,g3,g4⟩:=ME hR h2.rel h3 hN (Rf _ _) (Df _ _) hfr q2 q3 q7;obtain⟨us,r1,r2,r3⟩:=uB (P:=P) h2.rel h2.env q4;have conv: ∀(t:TV) (u:Value),repT ι' w' t u->t∈ts->repT (Gh ι ι' (upd get up1) hs nx) w' (rnT hs nx t) u:=by
    intro t u hx hm;have hok:=q5 t hm;cases t with
    |c x=>exact⟨hx.1,g4 x u hx.2 hok⟩
    |agg xs=>
     obtain⟨vs',e1,e2,e3⟩:=hx;refine⟨vs',e1,by simpa using e2,fun j y hj=> ?_⟩;rw[Ka]at hj;cases hx0:xs[j]? with
     |none=>grind
     |some x0=>
      rw[hx0]at hj;simp only[Db,Option.some.injEq]at hj;subst hj;obtain⟨u',f1,f2,f3⟩:=e3 j _ hx0;refine⟨u',f1,f2,g4 _ u' f3 (fun id hid=>hok id ?_)⟩;simp only[Dm,Xa]
      grind
   have hrun:(fn.results.mapM (rd1 a'.tmps)).run P w'= .ok us.toArray w':=by rw[hrs,List.mapM_toArray,Sem.run_map,r1];rfl
   rw[nE,Sem.run_bind,hrun];simp only[Result.andThen_ok,Sem.run_pure];refine⟨_,rfl,_,rfl,_,g1,?_,g2,g3⟩;rw[q6]
   match ts,us,r2,r3,conv with
   |[],[],_,_,_=>exact⟨#[],by simp,rfl,fun j t ht=>by simp at ht⟩
   |[t],[u],_,r3,conv=> obtain⟨u',k1,k2⟩:=r3 0 t rfl;simp at k1;subst k1;have:=conv t u k2 (by simp);simpa [valOf,repL] using this
   |t1::t2::ts,u1::u2::us,r2,r3,conv=>
    refine⟨(u1::u2::us).toArray,by simp,by simpa using r2,fun j t ht=> ?_⟩
    grind
  replace main: ∃v,(results fn a'.tmps).run P w'= .ok v w'/\ ∃v0,Ending.returned v= .returned v0/\Good ι w get nx hs.length val up v0 w':=by obtain⟨v,m1,v0,m2,m3⟩:=main;exact⟨v,m1,v0,m2,by rw[e2];exact AJ hl2 hv2 hu2 m3⟩
  rcases hxe with rfl|rfl
  ·exact⟨h2.env.defers,main⟩
  ·exact⟨h2.env.defers,main⟩
 ·simp only[Mg,Be,hargs.1,hnt];omega
 ·rw[Gu];simp only[Nb,Ae,Nat.sub_zero];cases hi:args[i]? with
  |none=>trivial
  |some t=>
   obtain⟨u,h1,h2⟩:=hargs.2 i t hi;have:(vs++Array.replicate (fn.ntmps - vs.size) undef).getD i undef=u:=by have hil:=(Ub.1 h1).1;rw[Oc,Array.getElem?_append,Va hil,h1];rfl
   rw[this];exact h2
end
section
variable {I:Ip} {P:Program} {X:Cx I} {ρ:Nat->Nat} {G:Get} {st:ES I.C} {e:Env} {lh:LH}
theorem NA{t:Nat}{v:ET I.C}{x:ET I.C}(hl:lkE X st t=some (.v v))(h:useE [] (opdE X st (.tmp t))=some x):x=nrmT (lkO X st) v:=by
 simp only[opdE,hl,nrmL,useE]at h
 grind
theorem eB{t:Nat}{x:ET I.C}(hA: ∀t y,lkE X st t=some y-> ∃v,y= .v v)(h:useE [] (opdE X st (.tmp t))=some x): ∃v,lkE X st t=some (.v v):=by
 simp only[opdE]at h;cases hl:lkE X st t with
 |none=>rw[hl]at h;cases h
 |some y=>grind
theorem Av(hA: ∀t y,lkE X st t=some y-> ∃v,y= .v v): ∀(rs:List ResultVar) {ws:List (ET I.C)},retE X st rs=some ws-> ∀t∈Lf rs,∃v,lkE X st t=some (.v v)
 |[],ws,_,t,ht=>by cases ht
 | .tmp t0::r,ws,h,t,ht=>by
  simp only[retE]at h;split at h
  ·rename_i x l h1 h2;rcases Ra.1 ht with e|e
   ·subst e;exact eB hA h1
   ·exact Av hA r h2 t e
  ·cases h
 | .cell a t0::r,ws,h,t,ht=>by
  simp only[retE]at h;split at h
  ·rename_i id cell l h1 h2;rcases Ra.1 ht with e|e
   ·subst e;exact eB hA h1
   ·exact Av hA r h2 t e
  ·cases h
theorem aB: ∀{ts:List Nat} {vs:List (ET I.C)} {t:Nat} {y:EL I.C},lk (Ng ts vs) t=some y-> ∃v,y= .v v
 |[],vs,t,y,h=>by cases vs<;>cases h
 |t0::ts,[],t,y,h=>by cases h
 |t0::ts,v0::vs,t,y,h=>by
  simp only[Ng]at h;rw[zQ]at h;split at h
  ·grind
  ·exact aB h
theorem Vr(hT:TOK P X.T X.fk)(hv:Vw P X ρ G st e lh): ∀(rs:List ResultVar) {ws:List (ET I.C)},(∀t∈Lf rs,∃v,lkE X st t=some (.v v))->retE X st rs=some ws->resB P e lh.get rs (ws.map (trT ρ (lkO X st)))
 |[],ws,_,h=>by cases h;trivial
 | .tmp t::r,ws,hl,h=>by
  simp only[retE]at h;split at h
  ·rename_i x l h1 h2;cases h;obtain⟨v,hv1⟩:=hl t (Ib ..);refine⟨⟨True,?_,trivial⟩,Vr hT hv r (fun t ht=>hl t (Fb _ ht)) h2⟩;have:=hv.env t;rw[hv1]at this;simp only[trL]at this;rw[NA hv1 h1,Lh];simp only[resV,this]
  ·cases h
 | .cell a t::r,ws,hl,h=>by
  simp only[retE]at h;split at h
  ·rename_i id cell l h1 h2;split at h
   ·rename_i ty cs ho;split at h
    ·rename_i x hx;cases h;obtain⟨v,hv1⟩:=hl a (Ib ..);have he:=hv.env a;rw[hv1]at he;simp only[trL]at he;have hn:=NA hv1 h1;have htr:trT ρ (lkO X st) v= .c (.optr (ρ id) 0 cell):=by rw[<-Lh,<-hn];rfl
     rw[htr]at he;have hg:=hv.heap id _ ho;obtain⟨hk,h5⟩:=Ml hx;have hti:=Jg hT hk;rw[hti]at hk h5;have hload:=Mt (get:=lh.get) (id:=ρ id) (cell:=cell) hk hg (row:=0) (cs:=cs.map (trV ρ (lkO X st))) rfl;rcases h5 with⟨g1,g2,g3⟩|⟨g1,y,g2,g3⟩
     ·rw[Va g1]at hload;subst g3;refine⟨⟨_,?_,(by grind:cell+(ti P t).sz<=(cs.map (trV ρ (lkO X st))).length)⟩,Vr hT hv r (fun t ht=>hl t (Fb _ ht)) h2⟩;simp only[resV,he,hload,trT,Nc,Kc]
     ·rw[Oa (by rw[g1];simp),Ka,g2]at hload;subst g3;refine⟨⟨True,?_,trivial⟩,Vr hT hv r (fun t ht=>hl t (Fb _ ht)) h2⟩;simp only[resV,he,hload,trT,Db]
    ·cases h
   ·cases h
  ·cases h
end
section
variable {I:Ip} {P:Program}
theorem MK (hI:IpOK P I) {con:Con I} (hwf:Og con=true) (x:(con.inS.sl I).T) {T:TT} {fk:List (Nat×List Kd)} {ρ:Nat->Nat} {nx M nt:Nat} {get:Get}
  (hinj: ∀i j,i<con.inS.objs.length->j<con.inS.objs.length->ρ i=ρ j->i=j) (hlt: ∀i,i<con.inS.objs.length->ρ i<nx\/nx+con.k<=ρ i) (hnew: ∀j,ρ (con.inS.objs.length+j)=nx+j)
  (hM:nx+con.k<=M) (hget: ∀id o,get id=some o->id<M)
  (hrd: ∀q∈((con.inS.sl I).enc x).2.filterMap fun o=>(trO P ρ (lk ((con.inS.sl I).enc x).2) o.2).map fun ob=>(ρ o.1,ob),get q.1=some q.2)
  {ρ':Nat->Nat} {st:ES I.C} {e:Env} {lh:LH} (hv:Vw P (inX con T fk x) ρ' (inG con ρ get) st e lh) (hn:con.inS.objs.length<=st.next) (hρ: ∀i,i<con.inS.objs.length->ρ' i=inR con ρ M i)
  (hT:TOK P T fk) {rs:List ResultVar} {vs ws:List (ET I.C)} {exS:StSh} {z:(exS.sl I).T} {y:(con.outS.sl I).T} {m m2:Mp} (hnd:(Lf rs).Nodup) (hvs:ug (inX con T fk x) st (Lf rs)=some vs)
  (hm:matC con.inS.objs.length (inX con T fk x) exS (Lf rs) vs st (uh exS.objs con.inS.objs.length)=some (z,m))
  (hws:retE (inX con T fk x) (encS exS (Lf rs) (Q8 con.inS.objs.length exS.objs) z) rs=some ws)
  (hy:(con.outS.sl I).mat ws (lkO (inX con T fk x) (encS exS (Lf rs) (Q8 con.inS.objs.length exS.objs) z)) (selfs (con.outS.objs.map (·.1)))=some (y,m2))
  (hex:exOK con exS ws (lkO (inX con T fk x) (encS exS (Lf rs) (Q8 con.inS.objs.length exS.objs) z)) m2=true) {xx:Exit} (hx:xx= .normal\/xx= .ret):
  ∃e2 lh2,Sub nt e lh e2 lh2/\Jv P rs nx con.k M get (valOf (((con.outS.sl I).enc y).1.map (trT ρ (hOut con ((con.inS.sl I).enc x).2 ((con.outS.sl I).enc y).2))))
   ((((con.outS.sl I).enc y).2.map fun o=>(ρ o.1,trO P ρ (hOut con ((con.inS.sl I).enc x).2 ((con.outS.sl I).enc y).2) o.2))++
    ((con.inS.objs.filter fun o=> !(memN o.1 con.cst||memN o.1 (con.outS.objs.map (·.1)))).map fun o=>(ρ o.1,none))) xx e2 lh2:=by
 have hw:=wfIn hI hwf x;have hwf0:=hwf;generalize hp:con.inS.objs.length=p at*;simp only[Og,Ca]at hwf;obtain⟨⟨⟨⟨⟨⟨⟨c1,c2⟩,c3⟩,c4⟩,c5⟩,c6⟩,c7⟩,c8⟩:=hwf;rw[hp]at c1 c4 c5 c6;have hik:=Gl c1;have hok:=Gl c6;have hcst:=qM.1 c4;have hond:(con.outS.objs.map (·.1)).Nodup:=by simpa using c7
 simp only[wfSt,Ca]at c3;have w1:=qM.1 c3.1;have w2:=qM.1 c3.2
 -- the numbers of what comes out
 have hout: ∀i∈con.outS.objs.map (·.1),i<p+con.k:=by
  intro i hi;rcases Jc i p with h|h
  ·omega
  ·have:i∈(con.outS.objs.map (·.1)).filter fun i=> !(Nat.blt i p):=Sc.2 ⟨hi,by
    cases hb:Nat.blt i p with
    |false=>rfl
    |true=>exact absurd (zU.1 hb) (by omega)⟩
   grind
 have hnewout: ∀j,j<con.k->p+j∈con.outS.objs.map (·.1):=by intro j hj;have:p+j∈List.range' p con.k:=List.mem_range'_1.2 ⟨by omega,by omega⟩;rw[<-hok]at this;exact(Sc.1 this).1
 have hcp: ∀i∈con.cst,i<p:=fun i hi=>by
  grind
 have houtp: ∀i∈con.outS.objs.map (·.1),i<p->i ∉ con.cst/\ ∀s,(i,s)∈con.outS.objs->Hg s=false/\ ∃s',lk con.inS.objs i=some s'/\Hg s'=false:=by
  intro i hi hip;have key: ∀s,(i,s)∈con.outS.objs->i ∉ con.cst/\Hg s=false/\ ∃s',lk con.inS.objs i=some s'/\Hg s'=false:=by
   intro s hs;have:=La.1 c5 _ hs;simp only[zU.2 hip,Bc,Ca]at this;obtain⟨⟨q1,q2⟩,q3⟩:=this;refine⟨fun h=> ?_,by simpa using q2,?_⟩
   ·rw[Zm.2 h]at q1;cases q1
   ·grind
  obtain⟨⟨i',s⟩,hs,rfl⟩:=Da.1 hi;exact⟨(key s hs).1,fun s hs=>(key s hs).2⟩
 -- the state seen anew
 have hck:Yq p (inX con T fk x) exS (Lf rs) m=true:=by unfold matC at hm;obtain⟨⟨x',m'⟩,hmat,hm2⟩:=Aa.1 hm;obtain⟨hck,hm3⟩:=zk hm2;cases hm3;exact hck
 simp only[Yq,Ca]at hck;obtain⟨⟨⟨⟨⟨⟨d1,d2⟩,d3⟩,d4⟩,d5⟩,d6⟩,d7⟩:=hck;have hself:InjM (uh exS.objs p):=by
  have: ∀(l:List (Nat×OSh)) i a,lk (uh l p) i=some (some a)->i=a:=by
   intro l
   induction l with
   |nil=>intro i a h;cases h
   |cons o r ih=>
    intro i a h;obtain⟨j,s⟩:=o;simp only[uh]at h;cases hb:Nat.blt j p with
    |false=>grind
    |true=>
     rw[hb]at h;simp only[Bc]at h;rw[zQ]at h
     grind
  intro i j a h1 h2;rw[this _ i a h1,this _ j a h2]
 have hfrh:(inX con T fk x).frh=((con.inS.sl I).enc x).2.filter fun o=>memN o.1 con.cst:=rfl;obtain⟨ρ2,e2,lh2,ss,v2,hr2⟩:=bn (nt:=nt) (n:=Q8 p exS.objs) hI hv hvs hself hm (fun i hi=>Ol _ _ i hi) (fun t y h=>by cases h) (fun i o h=>by
  rw[hfrh,Q6 (fun i=>memN i con.cst)]at h;split at h
  ·have:=(Jq hw).1 ⟨o,h⟩;rw[hp]at this;exact⟨Kb this (QG _ _),Rw (QG _ _) (Pq fun i hi=>by have:=hw.r2 _ (zN h) i hi;rwa [hp]at this)⟩
  ·cases h) hn (QG _ _)
 refine⟨e2,lh2,ss,?_⟩;have hr: ∀i,i<p->ρ2 i=ρ i:=fun i hi=>by
  rw[hr2 i hi,hρ i hi];unfold inR
  grind
 obtain⟨L0,_⟩:=Aj (P:=P) hI exS;have hkeys:=L0 z;obtain⟨M0,M1⟩:=Aj (P:=P) hI con.outS;have okeys:=M0 y;obtain⟨_,_,klen,kv,ko⟩:=M1 _ _ _ _ _ hy;have hkind:=Ri (I:=I) exS z;have okind:=Ri (I:=I) con.outS y;simp only[exOK,Ca]at hex;obtain⟨⟨⟨⟨x1,x2⟩,x3⟩,x4⟩,x5⟩:=hex;have hsub:=qM.1 x1;have hexs: ∀i∈exS.objs.map (·.1),i ∉ con.cst/\(i<p->i∈con.outS.objs.map (·.1)):=by
  intro i hi;obtain⟨q,hq,rfl⟩:=Da.1 hi;have:=La.1 x2 _ hq;rw[Ca,Re]at this;refine⟨fun h=> ?_,fun h=> ?_⟩
  ·rw[Zm.2 h]at this;cases this.1
  ·rcases this.2 with h2|h2
   ·exact Zm.1 h2
   ·rw[hp,zU.2 h]at h2;cases h2
 have hwr:=qM.1 x4;generalize hstc:encS exS (Lf rs) (Q8 p exS.objs) z=stc at*;generalize hb:(exS.sl I).enc z=b at*;have stE:stc.env=Ng (Lf rs) b.1:=by rw[<-hstc];simp only[encS,hb]
 have stH:stc.heap=b.2:=by rw[<-hstc];simp only[encS,hb]
 generalize ha:((con.inS.sl I).enc x)=a at*;generalize hB:((con.outS.sl I).enc y)=B at*;have hC: ∀i,lkO (inX con T fk x) stc i=(if i∈exS.objs.map (·.1)then lk b.2 i else if memN i con.cst=true then lk a.2 i else none):=by
  intro i;unfold lkO;rw[stH];by_cases hi:i∈exS.objs.map (·.1)
  ·grind
  ·rw[Oa hi,Kn (l:=b.2) (fun o ho e=>hi (by rw[<-hkeys];exact Da.2 ⟨o,ho,e⟩))];simp only;rw[hfrh,Q6 (fun i=>memN i con.cst)]
 generalize hX:inX con T fk x=X at*;have par: ∀i,i<p-> ∃o ob,lk a.2 i=some o/\get (ρ i)=some ob/\trO P ρ (lk a.2) o=some ob:=by intro i hi;obtain⟨o,ho⟩:=(Jq hw).2 (by rw[hp];exact hi);obtain⟨ob,hob⟩:=Iq (P:=P) hI (ρ:=ρ) (h:=lk a.2) ho;rw[ha]at ho;exact⟨o,ob,ho,hrd (ρ i,ob) (yc.2 ⟨(i,o),zN ho,by rw[hob];rfl⟩),hob⟩
 have parlt: ∀i,i<p->ρ i<M:=fun i hi=>by obtain⟨o,ob,_,h,_⟩:=par i hi;exact hget _ _ h
 have hobjO: ∀i∈con.outS.objs.map (·.1),∃o,lkO X stc i=some o/\ ∀j∈Sg o,(j∈con.outS.objs.map (·.1)\/j∈con.cst):=by
  intro i hi;have:=La.1 x5 i hi;cases hl:lkO X stc i with
  |none=>rw[hl]at this;cases this
  |some o=> rw[hl]at this;exact⟨o,rfl,fun j hj=>Eb.1 (qM.1 this j hj)⟩
 have obj: ∀i,(i∈con.outS.objs.map (·.1)\/i∈con.cst)-> ∃o ob,lkO X stc i=some o/\trO P ρ2 (lkO X stc) o=some ob/\lh2.get (ρ2 i)=some ob:=by
  intro i hi;by_cases ho:i∈con.outS.objs.map (·.1)
  ·obtain⟨o,h1,_⟩:=hobjO i ho;have h2:=h1;rw[hC,Va (hsub i ho)]at h2;have: ∃ob,trO P ρ2 (lkO X stc) o=some ob:=by
    obtain⟨s,_,⟨t,c,e,_⟩|⟨ty,cs,e,_⟩|⟨_,_,_,_,_,_,e⟩⟩:=hkind _ (zN h2)
    ·simp only at e;subst e;exact⟨_,rfl⟩
    ·simp only at e;subst e;exact⟨_,rfl⟩
    ·simp only at e;subst e;exact⟨_,rfl⟩
   obtain⟨ob,hob⟩:=this;exact⟨o,ob,h1,hob,by rw[v2.heap i o h1,hob]⟩
  ·have hc:=hi.resolve_left ho;obtain⟨o,ob,h,_⟩:=par i (hcp i hc);have h1:lkO X stc i=some o:=by rw[hC,Oa (fun h=>(hexs i h).1 hc),Va (Zm.2 hc),h]
   obtain⟨ob,hob⟩:=Iq (P:=P) hI (x:=x) (ρ:=ρ2) (h:=lkO X stc) (by rw[ha];exact h);exact⟨o,ob,h1,hob,by rw[v2.heap i o h1,hob]⟩
 have inj2: ∀i j,(i∈con.outS.objs.map (·.1)\/i∈con.cst)->(j∈con.outS.objs.map (·.1)\/j∈con.cst)->ρ2 i=ρ2 j->i=j:=by intro i j hi hj e;obtain⟨o,_,h1,_⟩:=obj i hi;obtain⟨o',_,h2,_⟩:=obj j hj;exact v2.inj i j o o' h1 h2 e
 have mem_hs: ∀i,i∈(List.range con.k).map (fun j=>ρ2 (p+j))↔ ∃j,j<con.k/\ρ2 (p+j)=i:=fun i=>by simp[Da]
 have rn: ∀i,(i∈con.outS.objs.map (·.1)\/i∈con.cst)->rnI ((List.range con.k).map fun j=>ρ2 (p+j)) nx (ρ2 i)=ρ i/\(ρ2 i∈(List.range con.k).map (fun j=>ρ2 (p+j))\/ρ2 i<M):=by
  intro i hi;rcases Jc i p with h|h
  ·refine⟨?_, .inr (by rw[hr i h];exact parlt i h)⟩;rw[sH,hr i h];intro hm;obtain⟨j,hj,e⟩:=(mem_hs _).1 hm;have:=inj2 _ _ (.inl (hnewout j hj)) hi e;omega
  ·have hi':i∈con.outS.objs.map (·.1):=hi.resolve_right fun hc=>by have:=hcp i hc;omega
   have hik:=hout i hi';have e:i=p+(i - p):=by omega
   refine⟨?_, .inl ((mem_hs _).2 ⟨i - p,by omega,by rw[<-e]⟩)⟩;have:=KI (f:=fun j=>ρ2 (p+j)) (k:=con.k) (nx:=nx) (i:=i - p) (fun j hj e'=>by
    have:=inj2 _ _ (.inl (hnewout j hj)) (.inl (hnewout (i - p) (by omega))) e';omega) (by omega)
   rw[<-e]at this;rw[this,<-hnew (i - p),<-e]
 have refs1: ∀t∈ws,∀i∈qA t,(i∈con.outS.objs.map (·.1)\/i∈con.cst):=fun t ht i hi=>Eb.1 (hwr i (Xa.2 ⟨t,ht,hi⟩));have hnew': ∀i,p<=i->ρ i=nx+(i - p):=fun i hi=>by
  have:=hnew (i - p)
  rwa [show p+(i - p)=i by omega]at this
 have ρk: ∀i j,i<p+con.k->j<p+con.k->ρ i=ρ j->i=j:=by
  intro i j hi hj e;rcases Jc i p with h|h<;>rcases Jc j p with h'|h'
  ·exact hinj i j h h' e
  ·rw[hnew' j h']at e;rcases hlt i h with h2|h2<;>omega
  ·rw[hnew' i h]at e;rcases hlt j h' with h2|h2<;>omega
  ·rw[hnew' i h,hnew' j h']at e;omega
 generalize hL:(con.outS.objs.map (·.1)).map (fun i=>(i,i))=L at*;have hLk: ∀i,i∈con.outS.objs.map (·.1)->lk L i=some i:=by intro i hi;obtain⟨j,hj⟩:=zW (l:=L) (i:=i) (by rw[<-hL,ma];simpa using hi);have:=zN hj;rw[<-hL]at this;obtain⟨j',_,e⟩:=Da.1 this;injection e with e1 e2;rw[hj,<-e2,e1]
 have hLm: ∀q∈L,q.1∈con.outS.objs.map (·.1):=by intro q hq;rw[<-hL]at hq;obtain⟨j',h,e⟩:=Da.1 hq;rw[<-e];exact h
 generalize hgone:(con.inS.objs.filter fun o=> !(memN o.1 con.cst||memN o.1 (con.outS.objs.map (·.1))))=gone at*;have gin: ∀i,i∈gone.map (·.1)↔(i<p/\i ∉ con.outS.objs.map (·.1)/\i ∉ con.cst):=by
  intro i;rw[<-hgone];constructor
  ·intro h;obtain⟨q,hq,rfl⟩:=Da.1 h;obtain⟨hq1,hq2⟩:=Sc.1 hq;have:q.1∈con.inS.objs.map (·.1):=Da.2 ⟨q,hq1,rfl⟩;rw[hik]at this;refine⟨Pb.1 this,fun h=> ?_,fun h=> ?_⟩
   ·rw[Zm.2 h]at hq2;simp at hq2
   ·rw[Zm.2 h]at hq2;simp at hq2
  ·intro ⟨hi,h1,h2⟩;have:i∈con.inS.objs.map (·.1):=by rw[hik];exact Pb.2 hi
   obtain⟨q,hq,rfl⟩:=Da.1 this;refine Da.2 ⟨q,Sc.2 ⟨hq,?_⟩,rfl⟩;cases m1:memN q.1 con.cst with
   |true=>exact absurd (Zm.1 m1) h2
   |false=>
    cases m2:memN q.1 (con.outS.objs.map (·.1))with
    |true=>exact absurd (Zm.1 m2) h1
    |false=>rfl
 -- updates of any such form
 have upG: ∀{α:Type} (l:List (Nat×α)) (g:α->Option OB),(∀i,i∈l.map (·.1)↔i∈con.outS.objs.map (·.1))->
   (∀i o,lk l i=some o->upd get ((l.map fun q=>(ρ q.1,g q.2))++gone.map fun o=>(ρ o.1,none)) (ρ i)=g o)/\
   (∀i,i<p->i ∉ con.outS.objs.map (·.1)->i ∉ con.cst->upd get ((l.map fun q=>(ρ q.1,g q.2))++gone.map fun o=>(ρ o.1,none)) (ρ i)=none)/\
   ∀id,(∀i∈con.outS.objs.map (·.1),ρ i≠id)->(∀i,i<p->i ∉ con.outS.objs.map (·.1)->i ∉ con.cst->ρ i≠id)->upd get ((l.map fun q=>(ρ q.1,g q.2))++gone.map fun o=>(ρ o.1,none)) id=get id:=by
  intro α l g hl;have outA: ∀id,(∀i∈con.outS.objs.map (·.1),ρ i≠id)->id ∉ (l.map fun q=>(ρ q.1,g q.2)).map (·.1):=by intro id h hm;rw[ma]at hm;obtain⟨q,hq,e⟩:=Da.1 hm;exact h q.1 ((hl q.1).1 (Da.2 ⟨q,hq,rfl⟩)) e
  refine⟨fun i o ho=> ?_,fun i hi h1 h2=> ?_,fun id h1 h2=> ?_⟩
  ·rw[jo];exact Sw (f:=ρ) (g:=g) (fun q hq e=>ρk _ _ (hout _ ((hl q.1).1 (Da.2 ⟨q,hq,rfl⟩))) (hout _ ((hl i).1 (Da.2 ⟨_,zN ho,rfl⟩))) e) ho
  ·rw[jo,og (outA _ fun j hj e=>h1 (by rw[<-ρk j i (hout j hj) (by omega) e];exact hj))];obtain⟨s,hs⟩:=zW ((gin i).2 ⟨hi,h1,h2⟩);exact Sw (f:=ρ) (g:=fun _=>none) (fun q hq e=>hinj _ _ ((gin q.1).1 (Da.2 ⟨q,hq,rfl⟩)).1 hi e) hs
  ·rw[jo,og (outA _ h1),og];intro hm;rw[ma]at hm;obtain⟨q,hq,e⟩:=Da.1 hm;obtain⟨g1,g2,g3⟩:=(gin q.1).1 (Da.2 ⟨q,hq,rfl⟩);exact h2 q.1 g1 g2 g3 e
 obtain⟨upA,upB,upC⟩:=upG L (fun i=>(lkO X stc i).bind (trO P ρ (lkO X stc))) (fun i=>by rw[<-hL,ma];simp);obtain⟨upA',upB',upC'⟩:=upG B.2 (trO P ρ (hOut con a.2 B.2)) (fun i=>by rw[okeys]);have x3':=x3;have hmem2: ∀i z,lk m2 i=some z->z=some i/\(i∈con.outS.objs.map (·.1)\/i∈con.cst):=by
  intro i z hz;have:=La.1 x3'.2 _ (zN hz);rw[Ca]at this;obtain⟨q1,q2⟩:=this;refine⟨?_,Eb.1 (Zm.1 q2)⟩;simp only[isSelf,hz]at q1;cases z with
  |none=>cases q1
  |some a=>rw[Ta q1]
 have infE_lk: ∀(h:Nat->Option (EO I.C)) i o,h i=some o->infO h i=infE o:=by intro h i o ho;unfold infO;rw[ho];cases o<;>rfl
 have hCc: ∀i,i∈con.cst->lkO X stc i=lk a.2 i:=fun i hi=>by rw[hC,Oa (fun h=>(hexs i h).1 hi),Va (Zm.2 hi)]
 have hcO: ∀i,i∈con.cst->i ∉ con.outS.objs.map (·.1):=fun i hi h=>(hexs i (hsub i h)).1 hi;have hOc: ∀i,i∈con.cst->hOut con a.2 B.2 i=lk a.2 i:=by intro i hi;unfold hOut;rw[Kn (l:=B.2) (fun o ho' e=>hcO i hi (by rw[<-okeys];exact Da.2 ⟨o,ho',e⟩))];obtain⟨o,ob,h,_⟩:=par i (hcp i hi);simp only[h,Zm.2 hi,Bc]
 have outO: ∀i∈con.outS.objs.map (·.1),∃o o',lkO X stc i=some o/\lk B.2 i=some o'/\infE o=infE o'/\ ∀ρ ρ' h h' Z,Cmp ρ ρ' h h' Z m2-> ∃ob ob',trO P ρ h o=some ob/\trO P ρ' h' o'=some ob'/\WkOZ Z ob ob':=by
  intro i hi;obtain⟨o',ho'⟩:=zW (l:=B.2) (i:=i) (by rw[okeys];exact hi);rcases ko i o' (zN ho')with⟨a',o,q1,q2,q3,_,_,q6⟩|⟨q1,_⟩
  ·have:=(hmem2 i _ q1).1;cases this;exact⟨o,o',q2,ho',q3,q6⟩
  ·have:=(hmem2 i _ q1).1;cases this
 have hCmp:Cmp ρ ρ (lkO X stc) (hOut con a.2 B.2) NoZ m2:=by
  intro i z hz;obtain⟨rfl,hi⟩:=hmem2 i z hz;refine⟨rfl,?_⟩;by_cases ho:i∈con.outS.objs.map (·.1)
  ·obtain⟨o,o',q1,q2,q3,_⟩:=outO i ho;rw[infE_lk _ i o q1,infE_lk (hOut con a.2 B.2) i o' (by unfold hOut;rw[q2]),q3]
  ·have hc:=hi.resolve_left ho;exact LB (by rw[hOc i hc,hCc i hc])
 have hG: ∀id,(∀i,i<p->ρ i≠id)->inG con ρ get id=get id:=by intro id h;unfold inG;rw[hp,Oa];intro ⟨j,h1,h2⟩;exact h j h1 h2
 have oks: ∀i,(i∈con.outS.objs.map (·.1)\/i∈con.cst)->(rnI ((List.range con.k).map fun j=>ρ2 (p+j)) nx (ρ2 i)=ρ i/\infO (lkO X stc) i=infO (lkO X stc) i)/\(ρ2 i∈(List.range con.k).map (fun j=>ρ2 (p+j))\/ρ2 i<M):=
  fun i hi=>⟨⟨(rn i hi).1,rfl⟩,(rn i hi).2⟩
 have upA2: ∀i∈con.outS.objs.map (·.1),∀o,lkO X stc i=some o->upd get ((L.map fun q=>(ρ q.1,(lkO X stc q.2).bind (trO P ρ (lkO X stc))))++gone.map fun o=>(ρ o.1,none)) (ρ i)=trO P ρ (lkO X stc) o:=by intro i hi o ho;rw[upA i i (hLk i hi),ho];rfl
 refine⟨ws.map (trT ρ (lkO X stc)),B.1.map (trT ρ (hOut con a.2 B.2)),(L.map fun q=>(ρ q.1,(lkO X stc q.2).bind (trO P ρ (lkO X stc))))++gone.map fun o=>(ρ o.1,none),⟨hx,(List.range con.k).map (fun j=>ρ2 (p+j)),ws.map (trT ρ2 (lkO X stc)),by simp,?_,fun i hi=> ?_,?_,fun t ht=> ?_,?_,⟨fun j hj=> ?_,fun id o1 ho1=> ?_⟩⟩,rfl,by rw[Ga,Ga,klen],fun j v v' h1 h2=> ?_,fun id=> ?_⟩
 ·rw[List.Nodup,List.pairwise_map];refine List.Pairwise.imp_of_mem (fun {i j} hi hj hne e=>hne ?_) List.nodup_range;have:=inj2 _ _ (.inl (hnewout i (Pb.1 hi))) (.inl (hnewout j (Pb.1 hj))) e;omega
 ·obtain⟨j,hj,rfl⟩:=(mem_hs i).1 hi;obtain⟨o,ob,h1,h2,h3⟩:=obj (p+j) (.inl (hnewout j hj));cases hg:get (ρ2 (p+j))with
  |none=>exact .inr (.inr ⟨rfl,_,h3⟩)
  |some o0=>
   by_cases hex: ∃i,i<p/\ρ i=ρ2 (p+j)
   ·obtain⟨i,hi1,hi2⟩:=hex;have hni: ¬(i∈con.outS.objs.map (·.1)\/i∈con.cst):=fun h=>by have:=inj2 _ _ h (.inl (hnewout j hj)) (by rw[hr i hi1];exact hi2);omega
    refine .inr (.inl ?_);rw[<-hi2];exact upB i hi1 (fun h=>hni (.inl h)) (fun h=>hni (.inr h))
   ·exfalso;have:=hG (ρ2 (p+j)) fun i h1 h2=>hex ⟨i,h1,h2⟩;exact(v2.oth (ρ2 (p+j)) (by rw[this,hg];simp)).2 (p+j) o h1 rfl
 ·have hTX:TOK P X.T X.fk:=by rw[<-hX];exact hT
  refine Vr hTX v2 rs (Av (fun t y h=> ?_) rs hws) hws;unfold lkE at h;rw[stE]at h;cases hl:lk (Ng (Lf rs) b.1) t with
  |some y'=>rw[hl]at h;cases h;exact aB hl
  |none=> rw[hl,<-hX]at h;cases h
 ·obtain⟨v0,hv0,rfl⟩:=Da.1 ht;exact WK (Q:=fun i=>i∈(List.range con.k).map (fun j=>ρ2 (p+j))\/i<M) fun i hi=>(oks i (refs1 v0 hv0 i hi)).2
 ·rw[ma];congr 1;exact Ha fun t ht=>(JI fun i hi=>(oks i (refs1 t ht i hi)).1).symm
 ·have hj':j<con.k:=by simpa using hj
  obtain⟨o,ob,h1,h2,h3⟩:=obj (p+j) (.inl (hnewout j hj'));obtain⟨o'',g1,g2⟩:=hobjO (p+j) (hnewout j hj');rw[h1]at g1;cases g1;have:=(fA (Q:=fun i=>i∈(List.range con.k).map (fun j=>ρ2 (p+j))\/i<M) (fun i hi=>oks i (g2 i hi)) h2).1;rw[<-hnew j,upA2 _ (hnewout j hj') o h1,this];rfl
 ·by_cases hA: ∃i,i∈con.outS.objs.map (·.1)/\ρ i=id
  ·obtain⟨i,hi,rfl⟩:=hA;obtain⟨o,ob,h1,h2,h3⟩:=obj i (.inl hi);obtain⟨o'',g1,g2⟩:=hobjO i hi;rw[h1]at g1;cases g1;obtain⟨q1,q2⟩:=fA (Q:=fun i=>i∈(List.range con.k).map (fun j=>ρ2 (p+j))\/i<M) (fun i hi=>oks i (g2 i hi)) h2;rw[upA2 i hi o h1,q1]at ho1;cases ho1;rcases Jc i p with h|h
   ·obtain⟨_,o0,_,g1,_⟩:=par i h;rw[hr i h]at h3;exact .inr ⟨o0,ob,g1,h3, .inr ⟨rfl,q2⟩⟩
   ·refine .inl ⟨i - p,ρ2 i,ob,?_,hnew' i h,h3,rfl,q2⟩;have:=hout i hi;rw[Ka,List.getElem?_range (by omega)];simp only[Db];rw[show p+(i - p)=i by omega]
  ·have nA: ∀i∈con.outS.objs.map (·.1),ρ i≠id:=fun i hi e=>hA ⟨i,hi,e⟩;by_cases hB: ∃i,i<p/\i ∉ con.cst/\ρ i=id
   ·obtain⟨i,h1,h2,rfl⟩:=hB;rw[upB i h1 (fun h=>nA i h rfl) h2]at ho1;cases ho1
   ·rw[upC id nA (fun i h1 _ h2 e=>hB ⟨i,h1,h2,e⟩)]at ho1;refine .inr ⟨o1,o1,ho1,?_, .inl ⟨rfl,rfl⟩⟩;by_cases hP: ∃i,i<p/\ρ i=id
    ·obtain⟨i,hi,rfl⟩:=hP;have hc:i∈con.cst:=Classical.byContradiction fun h=>hB ⟨i,hi,h,rfl⟩;obtain⟨o,ob,g1,g2,g3⟩:=par i hi;have hno:i ∉ con.outS.objs.map (·.1):=fun h=>nA i h rfl;have h1:lkO X stc i=some o:=by rw[hCc i hc,g1]
     have:=v2.heap i o h1;rw[hr i hi]at this;rw[this];rw[g2]at ho1;cases ho1;rw[<-g3];have hfi:lk X.frh i=some o:=by rw[hfrh,Q6 (fun i=>memN i con.cst),Va (Zm.2 hc),g1]
     have hall:=La.1 (La.1 d7 _ (zN hfi));have same: ∀i'∈Sg o,ρ2 i'=ρ i'/\infO (lkO X stc) i'=infO (lk a.2) i':=by
      intro i' hi';have hlt':i'<p:=by
       have g1':=g1;rw[<-ha]at g1';have:=hw.r2 _ (zN g1') i' hi'
       rwa [hp]at this
      refine⟨hr i' hlt',?_⟩;by_cases ho':i'∈con.outS.objs.map (·.1)
      ·-- its cells may be others, but it is no slice
       obtain⟨_,hk⟩:=houtp i' ho' hlt';obtain⟨o1,o',r1,hb',r3,_⟩:=outO i' ho';obtain⟨s,hs,hs'⟩:=okind _ (zN hb');obtain⟨k1,s',k2,k3⟩:=hk s hs;obtain⟨oa,oab,f1,_,_⟩:=par i' hlt';have:infO (lk a.2) i'=none:=by
        have f1':=f1;rw[<-ha]at f1';obtain⟨sa,hsa,hsb⟩:=Ri con.inS x _ (zN f1');have hnd:(con.inS.objs.map (·.1)).Nodup:=by rw[hik];exact List.nodup_range
        have:sa=s':=by have:=Q7 hnd hsa;simp only at this;rw[k2]at this;cases this;rfl
        subst this;rcases hsb with⟨t,c,e,e2⟩|⟨ty,cs,e,e2⟩|⟨_,_,_,_,_,e2,_⟩
        rotate_right
        ·rw[e2]at k3;cases k3
        ·rw[k3]at e2;cases e2
        ·simp only at e;subst e;unfold infO;rw[f1]
       rw[this,infE_lk _ i' o1 r1,r3];rcases hs' with⟨t,c,e,e2⟩|⟨ty,cs,e,e2⟩|⟨_,_,_,_,_,e2,_⟩
       ·rw[k1]at e2;cases e2
       ·simp only at e;subst e;rfl
       ·rw[e2]at k1;cases k1
      ·have h3:=hall i' hi';rw[Re,Ca]at h3;rcases h3 with⟨h3,_⟩|h3
       ·exact absurd ((hexs i' (Zm.1 h3)).2 hlt') ho'
       ·cases hf:lk X.frh i' with
        |none=>rw[hf]at h3;cases h3
        |some of=>
         rw[hfrh,Q6 (fun i=>memN i con.cst)]at hf;split at hf
         ·rename_i hmc;exact LB (hCc i' (Zm.1 hmc))
         ·cases hf
     cases o with
     |cells ty cs=> simp only[trO];rw[Ha fun v hv=>Oi fun i hi=>same i (Xa.2 ⟨v,hv,hi⟩)]
     |slo t l1 cs l2=> simp only[trO];rw[Ha fun v hv=>Oi fun i hi=>same i (Xa.2 ⟨v,hv,hi⟩)]
     |_=>rfl
    ·have nP: ∀i,i<p->ρ i≠id:=fun i h1 h2=>hP ⟨i,h1,h2⟩;have:=(v2.oth id (by rw[hG id nP,ho1];simp)).1;rw[this,hG id nP,ho1]
 ·rw[Ka]at h1 h2;cases hj:ws[j]? with
  |none=>rw[hj]at h1;cases h1
  |some w0=>
   cases hj2:B.1[j]? with
   |none=>rw[hj2]at h2;cases h2
   |some b0=> rw[hj]at h1;rw[hj2]at h2;cases h1;cases h2;exact kv ρ ρ _ _ NoZ hCmp j w0 b0 hj hj2
 ·by_cases hA: ∃i,i∈con.outS.objs.map (·.1)/\ρ i=id
  ·obtain⟨i,hi,rfl⟩:=hA;obtain⟨o,o',q1,q2,q3,q4⟩:=outO i hi;obtain⟨ob,ob',g1,g2,g3⟩:=q4 ρ ρ _ _ NoZ hCmp;exact .inr ⟨ob,ob',by rw[upA2 i hi o q1,g1],by rw[upA' i o' q2,g2],g3⟩
  ·have nA: ∀i∈con.outS.objs.map (·.1),ρ i≠id:=fun i hi e=>hA ⟨i,hi,e⟩;by_cases hB: ∃i,i<p/\i ∉ con.cst/\ρ i=id
   ·obtain⟨i,h1,h2,rfl⟩:=hB;exact .inl ⟨upB i h1 (fun h=>nA i h rfl) h2,upB' i h1 (fun h=>nA i h rfl) h2⟩
   ·have e1:=upC id nA (fun i h1 _ h2 e=>hB ⟨i,h1,h2,e⟩);have e2:=upC' id nA (fun i h1 _ h2 e=>hB ⟨i,h1,h2,e⟩);cases hg:get id with
    |none=>exact .inl ⟨by rw[e1,hg],by rw[e2,hg]⟩
    |some o=>exact .inr ⟨o,o,by rw[e1,hg],by rw[e2,hg],WkOZ.refl o⟩
theorem xP (hmix:P.follows .mixedOrders=true) (hI:IpOK P I) {A:Env0 I} (hS: ∀c∈A.S,zm P c) {con:Con I} (hwf:Og con=true) {fn:Func} {c:Code} {rs:List ResultVar} {T:TT} {fk:List (Nat×List Kd)} {exS:StSh} (hT:TOK P T fk)
  (hf:P.funcs[con.f]? =some fn) (hb:fn.body=some c) (hrs:fn.results=rs.toArray) (hname:(fn.name== "runtime.NumGoroutine")=false) (hp:A.p=con.inS.objs.length) (hlen: ∀x,((con.inS.sl I).enc x).1.length<=fn.ntmps)
  (hF: ∀x y,con.F x=some y->evF2 A T fk fn.ntmps rs c con exS x=some y):zm P con:=by
 refine⟨hwf,fun x y hxy ρ nx hinj hlt hnew=> ?_⟩;refine fQ hf hb hrs rfl hname (by rw[Ga];exact hlen x) fun get M hM hget hrd=> ?_;have hev:=hF x y hxy;have hv:=XJ (P:=P) hI hwf x T fk (ρ:=ρ) (M:=M) (get:=get) hinj (fun id o ho=>(hget id o ho).1) hrd;have hsw:=rM (nt:=fn.ntmps) hmix hI hS c (X:=inX con T fk x) hT hev hv (by rw[hp];exact Ma _);refine SW.post hsw fun xx e' lh' ⟨ρ',st',h1,h2,h3,h4⟩=> ?_;have fin: ∀{xx:Exit},(xx= .normal\/xx= .ret)->(optB (ug (inX con T fk x) st' (Lf rs)) fun vs=>(matC con.inS.objs.length (inX con T fk x) exS (Lf rs) vs st' (uh exS.objs con.inS.objs.length)).bind fun q=>
   optB (retE (inX con T fk x) (encS exS (Lf rs) (Q8 con.inS.objs.length exS.objs) q.1) rs) fun ws=>((con.outS.sl I).mat ws (lkO (inX con T fk x) (encS exS (Lf rs) (Q8 con.inS.objs.length exS.objs) q.1)) (selfs (con.outS.objs.map (·.1)))).bind fun r=>
    cond (Xk (Lf rs)&&exOK con exS ws (lkO (inX con T fk x) (encS exS (Lf rs) (Q8 con.inS.objs.length exS.objs) q.1)) r.2) (some r.1) none)=some y->
   ∃e2 lh2,Sub fn.ntmps e' lh' e2 lh2/\Jv P rs nx con.k M get (valOf (((con.outS.sl I).enc y).1.map (trT ρ (hOut con ((con.inS.sl I).enc x).2 ((con.outS.sl I).enc y).2))))
   ((((con.outS.sl I).enc y).2.map fun o=>(ρ o.1,trO P ρ (hOut con ((con.inS.sl I).enc x).2 ((con.outS.sl I).enc y).2) o.2))++
    ((con.inS.objs.filter fun o=> !(memN o.1 con.cst||memN o.1 (con.outS.objs.map (·.1)))).map fun o=>(ρ o.1,none))) xx e2 lh2:=by
  intro xx hx h;obtain⟨vs,q3,q4⟩:=QK h;obtain⟨⟨z,m⟩,q5,q6⟩:=Aa.1 q4;obtain⟨ws,q7,q8⟩:=QK q6;obtain⟨⟨y',m2⟩,q9,q10⟩:=Aa.1 q8;obtain⟨q11,q12⟩:=zk q10;cases q12;rw[Ca]at q11;exact MK hI hwf x hinj hlt hnew hM (fun id o ho=>(hget id o ho).1) hrd h2 (by rw[<-hp];exact h3) (fun i hi=>h4 i (by rw[hp];exact hi)) hT (yx q11.1) q3 q5 q7 q9 q11.2 hx
 cases xx with
 |normal=>exact fin (.inl rfl) h1
 |ret=>exact fin (.inr rfl) h1
 |_=>cases h1
end
end Go.Lv
