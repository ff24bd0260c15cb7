/- That the evaluator is right: states seen anew (forgotten, frozen, numbered anew). -/
import Derived.Test.YtcdeccnjlkkejaaGreatDoorLd
set_option linter.unusedSimpArgs false
set_option linter.unusedVariables false
namespace Go.Lv
section
variable {nt:Nat}
def RcC(Z:Nat->Prop)(get:Get)(D:Nat->Prop)(x y:CV):Prop:=WkZ Z x y\/ ∃p,y= .p p/\Fz get D x p
inductive RcT (Z:Nat->Prop) (get:Get) (D:Nat->Prop):TV->TV->Prop where
 |c (x y:CV) (h:RcC Z get D x y):RcT Z get D (.c x) (.c y)
 |agg (xs ys:List CV) (hl:ys.length=xs.length) (h: ∀(j:Nat) x y,xs[j]? =some x->ys[j]? =some y->RcC Z get D x y):RcT Z get D (.agg xs) (.agg ys)
inductive RcL (Z:Nat->Prop) (get:Get) (D:Nat->Prop):LV->LV->Prop where
 |any (x:LV):RcL Z get D x .any
 |v (x y:TV) (h:RcT Z get D x y):RcL Z get D (.v x) (.v y)
 |opt (g:Bool) (x y:TV) (h:RcT Z get D x y):RcL Z get D (.opt g x) (.opt g y)
 |tup (xs ys:List TV) (hl:ys.length=xs.length) (h: ∀(j:Nat) x y,xs[j]? =some x->ys[j]? =some y->RcT Z get D x y):RcL Z get D (.tup xs) (.tup ys)
structure RcO (Z:Nat->Prop) (get:Get) (D:Nat->Prop) (o o2:OB):Prop where
 ty:o2.ty=o.ty
 k:o2.k=o.k
 len:o2.rows.length=o.rows.length
 row: ∀(i:Nat) row row2,o.rows[i]? =some row->o2.rows[i]? =some row2->row2.length=row.length/\ ∀(j:Nat) x y,row[j]? =some x->row2[j]? =some y->RcC Z get D x y
 raw:o2.raw=o.raw
theorem RcC.refl{Z:Nat->Prop}{get:Get}{D:Nat->Prop}(x:CV):RcC Z get D x x:= .inl (WkZ.refl x)
theorem RcO.refl{Z:Nat->Prop}{get:Get}{D:Nat->Prop}(o:OB):RcO Z get D o o:=⟨rfl,rfl,rfl,fun i d b e c=>by
 rw[e]at c;cases c;exact⟨rfl,fun j x y f a=>by rw[f]at a;cases a;exact RcC.refl x⟩,rfl⟩
def rcA(ι:Asg)(Z:Nat->Prop)[DecidablePred Z](a:Get):Asg:=fun id=>match a id with
 |some o=>if Z id then .live none o.k else ι id
 |none=>match ι id with
  | .free=> .free
  |_=> .dead
open Classical in
theorem recast {e e2:Env} {lh lh2:LH} {Z:Nat->Prop} (hle:lh.next<=lh2.next) (hZ: ∀z,Z z->lh.next<=z/\z<lh2.next/\ ∃ty k,lh2.get z=some ⟨ty,k,[],none⟩)
  (hget: ∀id o2,lh2.get id=some o2-> ¬Z id-> ∃o,lh.get id=some o/\RcO Z lh.get (fun id=>lh2.get id=none) o o2)
  (henv: ∀t,RcL Z lh.get (fun id=>lh2.get id=none) (look e t) (look e2 t)):Sub nt e lh e2 lh2:=by
 intro ι a w hN
 let ι2:Asg:=rcA ι Z lh2.get
 have hfree: ∀z,Z z->ι z= .free:=fun z hz=>hN.free z (hZ z hz).1;have live2: ∀id b k,ι2 id= .live b k->(Z id/\b=none)\/(¬Z id/\(∃o,lh2.get id=some o)/\ι id= .live b k):=by
  intro id b k h;simp only[ι2,rcA]at h;cases hg:lh2.get id with
  |none=>
   grind
  |some o=>
   grind
 have nonfree: ∀id,ι id≠ .free->ι2 id=ι id\/ι2 id= .dead:=by
  intro id h;simp only[ι2,rcA];cases hg:lh2.get id with
  |none=>
   grind
  |some o=>
   grind
 have hdom: ∀b,Dom ι w b->Dom ι2 w b:=fun b hb=>⟨hb.1,fun id k h=>by
  rcases live2 id _ _ h with⟨_,h1⟩|⟨_,_,h1⟩
  ·cases h1
  ·exact hb.2 id k h1⟩
 have stp:Stp ι w ι2 w:=⟨rfl,rfl,rfl,Ya _,fun _ _ h=>h,hdom,fun _ _=>rfl,nonfree⟩;have hZl: ∀z,Z z-> ∃k,ι2 z= .live none k:=by intro z hz;obtain⟨_,_,ty,k,hg⟩:=hZ z hz;refine⟨k,?_⟩;simp only[ι2,rcA,hg,La hz]
 have conv: ∀x y v,RcC Z lh.get (fun id=>lh2.get id=none) x y->repC ι w x v->repC ι2 w y v:=by
  intro x y v h hx;rcases h with h|⟨p,rfl,h⟩
  ·exact h.rep hZl (QF stp hx)
  ·refine Fz.sound hN.rel hdom (fun id b k hd hl=>⟨hN.rel.lt hl,fun id' k' h'=> ?_⟩) h hx;rcases live2 id' _ _ h' with⟨_,h1⟩|⟨_,⟨o,ho⟩,h1⟩
   ·cases h1
   ·have:=hN.rel.inj id' id b _ _ h1 hl
    grind
 have convT: ∀x y v,RcT Z lh.get (fun id=>lh2.get id=none) x y->repT ι w x v->repT ι2 w y v:=by
  intro x y v h hx;cases h with
  |c x y h=>exact⟨hx.1,conv x y v h hx.2⟩
  |agg xs ys hl h=>
   obtain⟨vs,h1,h2,h3⟩:=hx;refine⟨vs,h1,by rw[h2,hl],fun j y hj=> ?_⟩;have hjl:j<xs.length:=by rw[<-hl];exact(Da.1 hj).1
   have hx:xs[j]? =some xs[j]:=Ja hjl
   grind
 refine⟨ι2,⟨⟨fun id o2 ho=> ?_,fun id ho=> ?_,fun i j b k k' hi hj=> ?_,hN.rel.glob.step stp⟩,fun id hid=> ?_,⟨hN.env.size,hN.env.defers,fun t=> ?_⟩⟩,⟨stp,fun id hid hf=> ?_⟩,hle⟩
 ·by_cases hz:Z id
  ·obtain⟨_,_,ty,k,hg⟩:=hZ id hz;rw[hg]at ho;cases ho;refine⟨none,by simp only[ι2,rcA,hg,La hz],by simp, .inl ⟨rfl,rfl,rfl⟩⟩
  ·obtain⟨o,h1,h2⟩:=hget id o2 ho hz;obtain⟨b,l1,l2⟩:=hN.rel.live id o h1;refine⟨b,by simp only[ι2,rcA,ho,Ga hz];rw[l1,h2.k],?_⟩;obtain⟨g1,g2⟩:=l2;have rowAt: ∀(i:Nat) (row2:List CV),o2.rows[i]? =some row2-> ∃row,o.rows[i]? =some row:=by intro i row2 hi;have:=(Da.1 hi).1;exact⟨_,Ja (by rw[<-h2.len];exact this)⟩
   refine⟨fun row2 hr=> ?_,?_⟩
   ·obtain⟨i,hi,rfl⟩:=Sg hr;have hi2:o2.rows[i]? =some o2.rows[i]:=Ja hi;obtain⟨row,hrow⟩:=rowAt i _ hi2;rw[(h2.row i row _ hrow hi2).1,h2.k]
    grind
   ·rcases g2 with⟨g0,g2,g3⟩|⟨g0,b',cur,fr,eb,g3,g4,g5,g6⟩|⟨g3,b',es,n,g4,eb,g5⟩
    ·exact .inl ⟨by rw[h2.raw,g0],g2,ib (by rw[h2.len,g3];rfl)⟩
    rotate_left
    ·exact .inr (.inr ⟨ib (by rw[h2.len,g3];rfl),b',es,n,by rw[h2.raw,g4],eb,g5⟩)
    ·refine .inr (.inl ⟨by rw[h2.raw,g0],b',cur,fr,eb,by rw[h2.ty];exact g3,g4,by rw[h2.len,h2.k];exact g5,fun i row2 j y hi hj=> ?_⟩);obtain⟨row,hrow⟩:=rowAt i row2 hi;obtain⟨l1,l2⟩:=h2.row i row row2 hrow hi;have hjl:j<row.length:=by rw[<-l1];exact(Da.1 hj).1
     have hx:row[j]? =some row[j]:=Ja hjl;obtain⟨v,a1,a2,a3⟩:=g6 i row j _ hrow hx;exact⟨v,by rw[h2.k];exact a1,a2,conv _ _ _ (l2 j _ y hx hj) a3⟩
 ·simp only[ι2,rcA,ho]
  grind
 ·rcases live2 i _ _ hi with⟨_,h1⟩|⟨_,_,h1⟩
  ·cases h1
  ·rcases live2 j _ _ hj with⟨_,h2⟩|⟨_,_,h2⟩
   ·cases h2
   ·exact hN.rel.inj i j b k k' h1 h2
 ·have h1:ι id= .free:=hN.free id (Lb hle hid);simp only[ι2,rcA]
  grind
 ·have ht:=henv t;have hr:=hN.env.rep t;generalize look e t=x at ht hr;generalize look e2 t=y at ht ⊢;cases ht with
  |any=>trivial
  |v x y h=>exact convT x y _ h hr
  |opt g x y h=>exact⟨fun hg=>convT x y _ h (hr.1 hg),hr.2⟩
  |tup xs ys hl h=>
   obtain⟨vs,h1,h2,h3⟩:=hr;refine⟨vs,h1,by rw[h2,hl],fun j y hj=> ?_⟩;have hjl:j<xs.length:=by rw[<-hl];exact(Da.1 hj).1
   have hx:xs[j]? =some xs[j]:=Ja hjl
   grind
 ·simp only[ι2,rcA]
  grind
end
section
variable {P:Program} {I:Ip}
def cE(X:Cx I)(ρ:Nat->Nat)(st:ES I.C):Env:=(st.env++X.frm).map fun p=>(p.1,trL ρ (lkO X st) (lkE X st) p.2)
def cG(P:Program)(X:Cx I)(ρ:Nat->Nat)(G:Get)(st:ES I.C):Get:=upd G ((st.heap++X.frh).map fun p=>(ρ p.1,trO P ρ (lkO X st) p.2))
theorem PM(F:EL I.C->LV): ∀(l:EEnv I.C) (t:Nat),look (l.map fun p=>(p.1,F p.2)) t=(match lk l t with|some x=>F x|none=> .any)
 |[],t=>rfl
 |(j,x)::r,t=>by
  simp only[ja,look];rw[Zg];by_cases h:t=j
  ·grind
  ·rw[Ga h,Ga h];exact PM F r t
theorem Y5(X:Cx I)(st:ES I.C)(t:Nat):lk (st.env++X.frm) t=lkE X st t:=by rw[qb];unfold lkE;grind
theorem UI(X:Cx I)(st:ES I.C)(t:Nat):lk (st.heap++X.frh) t=lkO X st t:=by rw[qb];unfold lkO;grind
theorem Rv(X:Cx I)(ρ:Nat->Nat)(st:ES I.C)(t:Nat):look (cE X ρ st) t=(match lkE X st t with|some x=>trL ρ (lkO X st) (lkE X st) x|none=> .any):=by unfold cE;rw[PM,Y5]
structure WfS (X:Cx I) (ρ:Nat->Nat) (G:Get) (st:ES I.C) (N:Nat):Prop where
 inj: ∀i j o o',lkO X st i=some o->lkO X st j=some o'->ρ i=ρ j->i=j
 oth: ∀i,G i≠none->i<N/\ ∀id o,lkO X st id=some o->ρ id≠i
 fre: ∀t x,lk X.frm t=some x->lkE X st t=some x/\Dz x=true
 fro: ∀i o,lk X.frh i=some o->lkO X st i=some o
 lt: ∀id,id<st.next->ρ id<N
 up: ∀id,st.next<=id->ρ id=N+(id - st.next)
 wfe: ∀t x,lkE X st t=some x->wfL st.next x=true
 wfh: ∀id o,lkO X st id=some o->id<st.next/\wfO st.next o=true
theorem wm{X:Cx I}{ρ:Nat->Nat}{G:Get}{st:ES I.C}{N:Nat}(h:WfS X ρ G st N){id:Nat}{o:EO I.C}(ho:lkO X st id=some o):cG P X ρ G st (ρ id)=trO P ρ (lkO X st) o:=by
 have: ∀(l:EHeap I.C),(∀p∈l,∃o,lkO X st p.1=some o)-> ∀o,lk l id=some o->upd G (l.map fun p=>(ρ p.1,trO P ρ (lkO X st) p.2)) (ρ id)=trO P ρ (lkO X st) o:=by
  intro l
  induction l with
  |nil=>intro _ o hl;cases hl
  |cons p r ih=>
   intro hp o hl;obtain⟨j,oj⟩:=p;simp only[ja,upd];rw[Zg]at hl;by_cases hij:id=j
   ·grind
   ·rw[Ga hij]at hl;obtain⟨o2,ho2⟩:=hp (j,oj) (Nb ..);rw[Ga (fun e=>hij (h.inj id j _ _ ‹_› ho2 e))]
    grind
 refine this _ (fun p hp=> ?_) o (by rw[UI];exact ho);obtain⟨o,ho⟩:=Zi (Ka.2 ⟨p,hp,rfl⟩);rw[UI]at ho;exact⟨o,ho⟩
theorem Av{X:Cx I}{ρ:Nat->Nat}{G:Get}{st:ES I.C}{i:Nat}(hi: ∀id o,lkO X st id=some o->ρ id≠i):cG P X ρ G st i=G i:=by
 refine ai fun a=> ?_;rw[Ob]at a;obtain⟨p,c,e⟩:=Ka.1 a;obtain⟨o,b⟩:=Zi (Ka.2 ⟨p,c,rfl⟩);rw[UI]at b
 grind
theorem WfS.vw{X:Cx I}{ρ:Nat->Nat}{G:Get}{st:ES I.C}{N:Nat}(h:WfS X ρ G st N):Vw P X ρ G st (cE X ρ st) ⟨N,cG P X ρ G st⟩:=
 ⟨Rv X ρ st,fun id o b=>wm h b,fun i a=>⟨Av (h.oth i a).2,(h.oth i a).2⟩,h.inj,h.lt,h.up,h.fre,h.fro,fun i a=>(h.oth i a).1,h.wfe,h.wfh⟩
variable {nt:Nat}
theorem SW.post{c:Code}{Q i:Post}{e:Env}{lh:LH}(h:SW P nt c Q e lh)(p: ∀x e lh,Q x e lh-> ∃b lh2,Sub nt e lh b lh2/\i x b lh2):SW P nt c i e lh:=by intro r a w z;refine Code.wp_mono (fun x q n ⟨g,t,d,k,v,s,j⟩=> ?_) (h r a w z);obtain⟨b,lh2,u,y⟩:=p x t d k;obtain⟨f,l,m,o⟩:=u g q n v;exact⟨f,b,lh2,y,l,s.trans m j,Lb j o⟩
end
section
variable {P:Program} {I:Ip} {X:Cx I} {ρ:Nat->Nat} {G:Get} {st:ES I.C} {e:Env} {lh:LH} {nt:Nat}
theorem dE{Z:Nat->Prop}{get:Get}{D:Nat->Prop}{ρ ρ2:Nat->Nat}{h h2:Nat->Option (EO I.C)}{x:ET I.C}(d: ∀v:EV I.C,RcC Z get D (trV ρ h v) (trV ρ2 h2 v)):RcT Z get D (trT ρ h x) (trT ρ2 h2 x):=by
 cases x with
 |c x=>exact .c _ _ (d x)
 |agg g=>
  refine .agg _ _ (by simp) fun j a b f i=> ?_
  grind
theorem fE{Z:Nat->Prop}{get:Get}{D:Nat->Prop}{ρ ρ2:Nat->Nat}{h h2:Nat->Option (EO I.C)}{E i:Nat->Option (EL I.C)}{x:EL I.C}(g: ∀v:EV I.C,RcC Z get D (trV ρ h v) (trV ρ2 h2 v))(l: ∀c t,x= .opt c t->qx i c=qx E c):RcL Z get D (trL ρ h E x) (trL ρ2 h2 i x):=by
 cases x with
 |any=>exact .any _
 |v t=>exact .v _ _ (dE g)
 |opt c t=> simp only[trL];rw[l c t rfl];exact .opt _ _ _ (dE g)
 |tup m=>
  refine .tup _ _ (by simp) fun j a b f d=> ?_;rw[Ua]at f d;cases k:m[j]? with
  |none=>grind
  |some v=>rw[k]at f d;cases f;cases d;exact dE g
theorem FL{Z:Nat->Prop}{get:Get}{D:Nat->Prop}{α:Type}{ty k:Nat}{f:α->List CV}{l1 l2:List α}{c c2:List CV}{o:OB}(p:o=⟨ty,k,l1.map f++(c::l2.map f),none⟩)(s: ∀(j:Nat) x y,c[j]? =some x->c2[j]? =some y->RcC Z get D x y)(r:c2.length=c.length):RcO Z get D o ⟨ty,k,l1.map f++(c2::l2.map f),none⟩:=by
 subst p;refine⟨rfl,rfl,by simp,fun i h g u m=> ?_,rfl⟩;by_cases t:i=l1.length
 ·grind
 ·have d:g=h:=by
   by_cases n:i<l1.length
   ·grind
   ·grind
  subst d;exact⟨rfl,fun j a b q l=>by rw[q]at l;cases l;exact RcC.refl _⟩
theorem zAh{ρ:Nat->Nat}{h h2:Nat->Option (EO I.C)}{v:EV I.C}(a: ∀i,infO h2 i=infO h i):trV ρ h2 v=trV ρ h v:=by
 cases v with
 |own id=>rw[Oi,Oi,a]
 |_=>rfl
theorem jP(hI:IpOK P I)(hv:Vw P X ρ G st e lh)(id:Nat): ∃e2 lh2,Sub nt e lh e2 lh2/\Vw P X ρ G (Wl X st id) e2 lh2:=by
 unfold Wl;split
 case h_2=>exact⟨e,lh,Sub.refl _ _ _,hv⟩
 rename_i t l hl hfr;generalize hst2:({st with heap:=(id, .frz t l)::st.heap}:ES I.C)=st2;have hE: ∀t,lkE X st2 t=lkE X st t:=fun t=>by rw[<-hst2];rfl
 have hE':lkE X st2=lkE X st:=funext hE;have hO: ∀i,lkO X st2 i=if i=id then some (.frz t l)else lkO X st i:=by
  intro i;rw[<-hst2];simp only[lkO];rw[Zg];by_cases hi:i=id
  ·grind
  ·grind
 have hid:lkO X st id=some (.sl t l):=by simp only[lkO,hl]
 have hold: ∀i o,lkO X st2 i=some o-> ∃o0,lkO X st i=some o0/\(i≠id->o0=o):=by
  intro i o ho;rw[hO]at ho;split at ho
  ·grind
  ·grind
 have hnx:st2.next=st.next:=by rw[<-hst2]
 have hw:WfS X ρ G st2 lh.next:=by
  refine⟨fun i j o o' h1 h2 he=> ?_,fun i hi=>⟨hv.glt i hi,fun j o ho=> ?_⟩,fun t x hx=> ?_,fun i o ho=> ?_,fun i hi=>hv.lt i (by grind),fun i hi=>by rw[hnx]at hi ⊢;exact hv.up i hi,fun t x hx=> ?_,fun i o ho=> ?_⟩
  ·obtain⟨o1,q1,_⟩:=hold i o h1;obtain⟨o2,q2,_⟩:=hold j o' h2;exact hv.inj i j o1 o2 q1 q2 he
  ·obtain⟨o1,q1,_⟩:=hold j o ho;exact(hv.oth i hi).2 j o1 q1
  ·rw[hE];exact hv.fre t x hx
  ·rw[hO,Ga (fun e=>by grind)];exact hv.fro i o ho
  ·rw[hE]at hx;rw[hnx];exact hv.wfe t x hx
  ·rw[hnx];rw[hO]at ho;split at ho
   ·rename_i hi;subst hi;cases ho;exact⟨(hv.wfh i _ hid).1,rfl⟩
   ·exact hv.wfh i o ho
 refine⟨_,_,?_,hw.vw (P:=P)⟩;have hgid:cG P X ρ G st2 (ρ id)=none:=by rw[wm hw (by rw[hO,La rfl])];rfl
 have hcell: ∀v:EV I.C,RcC (fun _=>False) lh.get (fun i=>cG P X ρ G st2 i=none) (trV ρ (lkO X st) v) (trV ρ (lkO X st2) v):=by
  intro v;cases v with
  |own i=>
   by_cases hi:i=id
   ·subst hi;refine .inr ⟨.sl (l.map (I.full t)),?_,?_⟩
    ·simp only[trV,hO,La]
    ·have:trV ρ (lkO X st) (.own i)= .osl (ρ i) 0 l.length:=by simp only[trV,hid]
     rw[this];have hg:lh.get (ρ i)=some ⟨t,P.cellsOf t,l.map fun x=>(I.full t x).map .p,none⟩:=hv.heap i _ hid;refine .osl (ρ i) 0 _ _ (l.map (I.full t)) hgid hg (by simp) (by simp) (fun row hr=> ?_) (fun a row j x r y ha hj hr hy=> ?_)
     ·obtain⟨z,_,rfl⟩:=Ka.1 hr;exact hI.len _ _
     ·simp only[Ua,Te]at ha hr;cases hz:l[a]? with
      |none=>grind
      |some z=> rw[hz]at ha hr;cases ha;cases hr;rw[Ua,hy]at hj;cases hj;exact .p y
   ·have:trV ρ (lkO X st2) (.own i)=trV ρ (lkO X st) (.own i):=by simp only[trV,hO,Ga hi]
    rw[this];exact RcC.refl _
  |_=>exact RcC.refl _
 refine recast (Z:=fun _=>False) (Ya _) (fun z hz=>hz.elim) (fun i o2 ho _=> ?_) (fun t=> ?_)
 ·by_cases hex: ∃j oj,lkO X st2 j=some oj/\ρ j=i
  ·obtain⟨j,oj,hj,rfl⟩:=hex;simp only[wm hw hj]at ho;obtain⟨o0,q1,q2⟩:=hold j oj hj;have hne:j≠id:=by rintro rfl;rw[hO,La rfl]at hj;cases hj;cases ho
   have:=q2 hne;subst this;have hg:=hv.heap j _ q1;cases o0 with
   |cells ty cs=>
    simp only[trO,Option.some.injEq]at ho;subst ho;refine⟨_,hg,rfl,rfl,rfl,fun a row row2 h1 h2=> ?_,rfl⟩
    grind
   |slo t' l1 cs l2=>
    simp only[trO,Option.some.injEq]at ho;subst ho;exact⟨_,hg,FL rfl (fun b x y hx hy=>by
     grind) (by simp)⟩
   |mp kd l'=> simp only[trO,Option.some.injEq]at ho;subst ho;exact⟨_,hg,RcO.refl _⟩
   |sl t' l'=> simp only[trO,Option.some.injEq]at ho;subst ho;exact⟨_,hg,RcO.refl _⟩
   |dead n=>cases ho
   |frz t' l'=>cases ho
  ·simp only[Av (fun j oj hj e=>hex ⟨j,oj,hj,e⟩)]at ho;exact⟨o2,by rw[(hv.oth i (by rw[ho];simp)).1];exact ho,RcO.refl _⟩
 ·rw[Rv,hE,hv.env t];cases hl2:lkE X st t with
  |none=>exact .any _
  |some x=>exact fE hcell (fun ks t _=>by rw[hE'])
theorem XR(hI:IpOK P I)(hv:Vw P X ρ G st e lh)(id:Nat): ∃e2 lh2,Sub nt e lh e2 lh2/\Vw P X ρ G (Yr X st id) e2 lh2:=by
 unfold Yr;split
 case h_2=>exact⟨e,lh,Sub.refl _ _ _,hv⟩
 rename_i t l1 cs l2 hl hfr;split
 case h_2=>exact⟨e,lh,Sub.refl _ _ _,hv⟩
 rename_i z hz;generalize hst2:({st with heap:=(id, .sl t (l1++z::l2))::st.heap}:ES I.C)=st2;have hE: ∀t,lkE X st2 t=lkE X st t:=fun t=>by rw[<-hst2];rfl
 have hE':lkE X st2=lkE X st:=funext hE;have hO: ∀i,lkO X st2 i=if i=id then some (.sl t (l1++z::l2))else lkO X st i:=by
  intro i;rw[<-hst2];simp only[lkO];rw[Zg];by_cases hi:i=id
  ·grind
  ·grind
 have hid:lkO X st id=some (.slo t l1 cs l2):=by simp only[lkO,hl]
 have hold: ∀i o,lkO X st2 i=some o-> ∃o0,lkO X st i=some o0/\(i≠id->o0=o):=by
  intro i o ho;rw[hO]at ho;split at ho
  ·grind
  ·grind
 have hlen:(l1++z::l2).length=l1.length+1+l2.length:=by simp;omega
 have hinf: ∀i,infO (lkO X st2) i=infO (lkO X st) i:=by
  intro i;by_cases hi:i=id
  ·subst hi;rw[zY (show lkO X st2 i=_ by rw[hO,La rfl]),zY hid];simp only[infE,hlen]
  ·simp only[infO,hO,Ga hi]
 have htr: ∀v:EV I.C,trV ρ (lkO X st2) v=trV ρ (lkO X st) v:=fun v=>zAh (fun i=>hinf i);have hnx:st2.next=st.next:=by rw[<-hst2]
 have hw:WfS X ρ G st2 lh.next:=by
  refine⟨fun i j o o' h1 h2 he=> ?_,fun i hi=>⟨hv.glt i hi,fun j o ho=> ?_⟩,fun t x hx=> ?_,fun i o ho=> ?_,fun i hi=>hv.lt i (by grind),fun i hi=>by rw[hnx]at hi ⊢;exact hv.up i hi,fun t x hx=> ?_,fun i o ho=> ?_⟩
  ·obtain⟨o1,q1,_⟩:=hold i o h1;obtain⟨o2,q2,_⟩:=hold j o' h2;exact hv.inj i j o1 o2 q1 q2 he
  ·obtain⟨o1,q1,_⟩:=hold j o ho;exact(hv.oth i hi).2 j o1 q1
  ·rw[hE];exact hv.fre t x hx
  ·rw[hO,Ga (fun e=>by grind)];exact hv.fro i o ho
  ·rw[hE]at hx;rw[hnx];exact hv.wfe t x hx
  ·rw[hnx];rw[hO]at ho;split at ho
   ·rename_i hi;subst hi;cases ho;exact⟨(hv.wfh i _ hid).1,rfl⟩
   ·exact hv.wfh i o ho
 refine⟨_,_,?_,hw.vw (P:=P)⟩;have hcell: ∀v:EV I.C,RcC (fun _=>False) lh.get (fun i=>cG P X ρ G st2 i=none) (trV ρ (lkO X st) v) (trV ρ (lkO X st2) v):=fun v=>by rw[htr];exact RcC.refl _
 refine recast (Z:=fun _=>False) (Ya _) (fun z hz=>hz.elim) (fun i o2 ho _=> ?_) (fun t=> ?_)
 ·by_cases hex: ∃j oj,lkO X st2 j=some oj/\ρ j=i
  ·obtain⟨j,oj,hj,rfl⟩:=hex;simp only[wm hw hj]at ho;obtain⟨o0,q1,q2⟩:=hold j oj hj;have hg:=hv.heap j _ q1;by_cases hne:j=id
   ·subst hne;rw[hid]at q1;cases q1;rw[hO,La rfl]at hj;cases hj;simp only[trO,Option.some.injEq]at ho;subst ho;have hm:=Ov (P:=P) hI (ρ:=ρ) (h:=lkO X st) hz;have hml:=(hI.made t _ z hz).2.1;rw[Xa]at hml;refine⟨_,hg,?_⟩;rw[ic,ja];refine FL rfl (fun b x y hx hy=> .inl (.inl (hm b x y ?_ hy))) (by grind);rw[Ob];have:cs.map (trV ρ (lkO X st)∘nrmV (lkO X st))=cs.map (trV ρ (lkO X st)):=Na fun v _=>Wv v
    grind
   ·have:=q2 hne;subst this;cases o0 with
    |cells ty cs=> simp only[trO,Option.some.injEq]at ho;subst ho;have:cs.map (trV ρ (lkO X st2))=cs.map (trV ρ (lkO X st)):=Na fun v _=>htr v;rw[this];exact⟨_,hg,RcO.refl _⟩
    |slo t' l1' cs' l2'=> simp only[trO,Option.some.injEq]at ho;subst ho;have:cs'.map (trV ρ (lkO X st2))=cs'.map (trV ρ (lkO X st)):=Na fun v _=>htr v;rw[this];exact⟨_,hg,RcO.refl _⟩
    |sl t' l'=> simp only[trO,Option.some.injEq]at ho;subst ho;exact⟨_,hg,RcO.refl _⟩
    |mp kd l'=> simp only[trO,Option.some.injEq]at ho;subst ho;exact⟨_,hg,RcO.refl _⟩
    |dead n=>cases ho
    |frz t' l'=>cases ho
  ·simp only[Av (fun j oj hj e=>hex ⟨j,oj,hj,e⟩)]at ho;exact⟨o2,by rw[(hv.oth i (by rw[ho];simp)).1];exact ho,RcO.refl _⟩
 ·rw[Rv,hE,hv.env t];cases hl2:lkE X st t with
  |none=>exact .any _
  |some x=>exact fE hcell (fun ks t _=>by rw[hE'])
theorem JQ(c:IpOK P I): ∀(l:List Nat) {st:ES I.C} {e:Env} {lh:LH},Vw P X ρ G st e lh-> ∃a lh2,Sub nt e lh a lh2/\Vw P X ρ G (Iq X l st) a lh2
 |[],st,e,lh,b=>⟨e,lh,Sub.refl _ _ _,b⟩
 |i::r,st,e,lh,b=>by obtain⟨k,j,f,h⟩:=jP (nt:=nt) c b i;obtain⟨a,lh2,g,d⟩:=JQ c r h;exact⟨a,lh2,f.trans g,d⟩
theorem BI(b:IpOK P I)(c:Vw P X ρ G st e lh)(id:Nat): ∃a lh2,Sub nt e lh a lh2/\Vw P X ρ G (Kj X st id) a lh2:=by
 unfold Kj;split
 ·obtain⟨j,i,f,h⟩:=JQ (nt:=nt) b _ c;obtain⟨a,lh2,g,d⟩:=XR (nt:=nt) b h id;exact⟨a,lh2,f.trans g,d⟩
 ·exact XR b c id
theorem JR(b:IpOK P I)(g:Vw P X ρ G st e lh)(id:Nat): ∃a lh2,Sub nt e lh a lh2/\Vw P X ρ G (SA X st id) a lh2:=by obtain⟨j,i,d,h⟩:=BI (nt:=nt) b g id;obtain⟨a,lh2,f,c⟩:=jP (nt:=nt) b h id;exact⟨a,lh2,d.trans f,c⟩
theorem eQ(c:IpOK P I): ∀(l:List Nat) {st:ES I.C} {e:Env} {lh:LH},Vw P X ρ G st e lh-> ∃a lh2,Sub nt e lh a lh2/\Vw P X ρ G (lq X l st) a lh2
 |[],st,e,lh,b=>⟨e,lh,Sub.refl _ _ _,b⟩
 |i::r,st,e,lh,b=>by obtain⟨k,j,f,h⟩:=BI (nt:=nt) c b i;obtain⟨a,lh2,g,d⟩:=eQ c r h;exact⟨a,lh2,f.trans g,d⟩
theorem xH(c:IpOK P I): ∀(l:List Nat) {st:ES I.C} {e:Env} {lh:LH},Vw P X ρ G st e lh-> ∃b lh2,Sub nt e lh b lh2/\Vw P X ρ G (Yi X l st) b lh2
 |[],st,e,lh,a=>⟨e,lh,Sub.refl _ _ _,a⟩
 |t::r,st,e,lh,a=>by
  simp only[Yi];split
  ·rename_i id _;obtain⟨j,i,f,h⟩:=BI (nt:=nt) c a id;obtain⟨b,lh2,g,d⟩:=xH c r h;exact⟨b,lh2,f.trans g,d⟩
  ·exact xH c r a
theorem iI(c:IpOK P I): ∀(l:List Nat) {st:ES I.C} {e:Env} {lh:LH},Vw P X ρ G st e lh-> ∃a lh2,Sub nt e lh a lh2/\Vw P X ρ G (Ii X l st) a lh2
 |[],st,e,lh,b=>⟨e,lh,Sub.refl _ _ _,b⟩
 |i::r,st,e,lh,b=>by obtain⟨k,j,f,h⟩:=JR (nt:=nt) c b i;obtain⟨a,lh2,g,d⟩:=iI c r h;exact⟨a,lh2,f.trans g,d⟩
theorem fG(c:IpOK P I): ∀(l:List (Nat×Option Nat)) {st:ES I.C} {e:Env} {lh:LH},Vw P X ρ G st e lh-> ∃b lh2,Sub nt e lh b lh2/\Vw P X ρ G (preE X l st) b lh2
 |[],st,e,lh,a=>⟨e,lh,Sub.refl _ _ _,a⟩
 |p::r,st,e,lh,a=>by
  simp only[preE];split
  ·rename_i id _;obtain⟨j,i,f,h⟩:=JR (nt:=nt) c a id;obtain⟨b,lh2,g,d⟩:=fG c r h;exact⟨b,lh2,f.trans g,d⟩
  ·exact fG c r a
theorem mP(st:ES I.C)(i:Nat):(Wl X st i).env=st.env/\(Wl X st i).next=st.next:=by
 unfold Wl
 grind
theorem KQ: ∀(l:List Nat) (st:ES I.C),(Iq X l st).env=st.env/\(Iq X l st).next=st.next
 |[],st=>⟨rfl,rfl⟩
 |i::r,st=>by obtain⟨h1,h2⟩:=KQ r (Wl X st i);have:=mP (X:=X) st i;exact⟨h1.trans this.1,h2.trans this.2⟩
theorem YR(st:ES I.C)(i:Nat):(Yr X st i).env=st.env/\(Yr X st i).next=st.next:=by
 unfold Yr
 grind
theorem DI(st:ES I.C)(i:Nat):(Kj X st i).env=st.env/\(Kj X st i).next=st.next:=by
 unfold Kj;split
 ·rename_i t d a g _;obtain⟨c,h⟩:=YR (X:=X) (Iq X (a.flatMap gp) st) i;obtain⟨f,b⟩:=KQ (X:=X) (a.flatMap gp) st
  grind
 ·exact YR st i
theorem fQ: ∀(l:List Nat) (st:ES I.C),(lq X l st).env=st.env/\(lq X l st).next=st.next
 |[],st=>⟨rfl,rfl⟩
 |i::r,st=>by obtain⟨h1,h2⟩:=fQ r (Kj X st i);have:=DI (X:=X) st i;exact⟨h1.trans this.1,h2.trans this.2⟩
theorem yH: ∀(l:List Nat) (st:ES I.C),(Yi X l st).env=st.env/\(Yi X l st).next=st.next
 |[],st=>⟨rfl,rfl⟩
 |t::r,st=>by
  simp only[Yi];split
  ·rename_i id _;obtain⟨b,a⟩:=yH r (Kj X st id);have:=DI (X:=X) st id
   grind
  ·exact yH r st
theorem ND: ∀(l:List Nat) (st:ES I.C),(Ii X l st).env=st.env/\(Ii X l st).next=st.next
 |[],st=>⟨rfl,rfl⟩
 |i::r,st=>by obtain⟨d,c⟩:=ND r (SA X st i);have a:=mP (X:=X) (Kj X st i) i;have b:=DI (X:=X) st i;exact⟨d.trans (a.1.trans b.1),c.trans (a.2.trans b.2)⟩
theorem XL: ∀(l:EEnv I.C) (t:Nat),lk (qG l) t=(match lk l t with|some (.opt _ _)=>some .any|x=>x)
 |[],t=>rfl
 |(j,x)::r,t=>by
  cases x<;>simp only[qG]<;>rw[Zg,Zg]<;>by_cases h:t=j
  all_goals first
   |(rw[La h,La h];done)
   |(rw[Ga h,Ga h];exact XL r t)
theorem YY(hv:Vw P X ρ G st e lh): ∃e2 lh2,Sub nt e lh e2 lh2/\Vw P X ρ G {st with env:=qG st.env} e2 lh2:=by
 generalize hst2:({st with env:=qG st.env}:ES I.C)=st2;have hO:lkO X st2=lkO X st:=by rw[<-hst2];rfl
 have hE: ∀t,lkE X st2 t=(match lkE X st t with|some (.opt _ _)=>some .any|x=>x):=by
  intro t;rw[<-hst2];simp only[lkE,XL];cases hl:lk st.env t with
  |some x=>cases x<;>rfl
  |none=>
   simp only;cases hf:lk X.frm t with
   |none=>rfl
   |some x=> have:=(hv.fre t x hf).2;cases x<;>first|rfl|cases this
 have hnx:st2.next=st.next:=by rw[<-hst2]
 have hw:WfS X ρ G st2 lh.next:=by
  refine⟨by rw[hO];exact hv.inj,fun i hi=>⟨hv.glt i hi,by rw[hO];exact(hv.oth i hi).2⟩,fun t x hx=> ?_,by rw[hO];exact hv.fro,by rw[hnx];exact hv.lt,by rw[hnx];exact hv.up,fun t x hx=> ?_,by rw[hO,hnx];exact hv.wfh⟩
  ·obtain⟨f1,f2⟩:=hv.fre t x hx;refine⟨?_,f2⟩;rw[hE,f1];cases x<;>first|rfl|cases f2
  ·rw[hE]at hx;rw[hnx];split at hx
   ·cases hx;rfl
   ·exact hv.wfe t x hx
 refine⟨_,_,?_,hw.vw (P:=P)⟩;refine recast (Z:=fun _=>False) (Ya _) (fun z hz=>hz.elim) (fun i o2 ho _=> ?_) (fun t=> ?_)
 ·by_cases hex: ∃j oj,lkO X st2 j=some oj/\ρ j=i
  ·obtain⟨j,oj,hj,rfl⟩:=hex;simp only[wm hw hj]at ho;rw[hO]at hj ho;exact⟨o2,by rw[hv.heap j oj hj];exact ho,RcO.refl _⟩
  ·simp only[Av (fun j oj hj e=>hex ⟨j,oj,hj,e⟩)]at ho;exact⟨o2,by rw[(hv.oth i (by rw[ho];simp)).1];exact ho,RcO.refl _⟩
 ·rw[Rv,hE,hv.env t,hO];cases hl2:lkE X st t with
  |none=>exact .any _
  |some x=>
   cases x with
   |opt ks t=>exact .any _
   |_=>exact fE (fun v=>RcC.refl _) (fun ks t h=>by cases h)
end
section
variable {P:Program} {I:Ip} {X:Cx I} {ρ:Nat->Nat} {G:Get} {st:ES I.C} {e:Env} {lh:LH} {nt:Nat}
theorem Em{ρ ρ2:Nat->Nat}{h h2:Nat->Option (EO I.C)}{v:EV I.C}(a: ∀i∈Zb v,ρ2 i=ρ i/\infO h2 i=infO h i):trV ρ2 h2 v=trV ρ h v:=by
 cases v with
 |own id=> obtain⟨g,b⟩:=a id (by simp[Zb]);rw[Oi,Oi,g,b]
 |osl id j n=>simp only[trV,(a id (by simp[Zb])).1]
 |optr id r c=>simp only[trV,(a id (by simp[Zb])).1]
 |mref id=>simp only[trV,(a id (by simp[Zb])).1]
 |clo f d=> simp only[trV];congr 1;refine Na fun q k=> ?_;rw[(a q.1 (by simp only[Zb,Ka];grind)).1]
 |_=>rfl
theorem CB{ρ ρ2:Nat->Nat}{h h2:Nat->Option (EO I.C)}{v:ET I.C}(a: ∀i∈Ql v,ρ2 i=ρ i/\infO h2 i=infO h i):trT ρ2 h2 v=trT ρ h v:=by
 cases v with
 |c x=>exact congrArg TV.c (Em a)
 |agg f=> simp only[trT];congr 1;exact Na fun v d=>Em fun i b=>a i (Ib.2 ⟨v,d,b⟩)
theorem Pz{n:Nat}{v:EV I.C}(h: ∀i∈Zb v,i<n):wfV n v=true:=by
 cases v<;>simp only[wfV]<;>first|rfl|exact ZJ.2 (h _ (by simp[Zb]))|skip
 rename_i f a;rw[Ta];exact fun q b=>ZJ.2 (h q.1 (by simp only[Zb,Ka];grind))
theorem KW{n:Nat}{v:ET I.C}(h: ∀i∈Ql v,i<n):wfT n v=true:=by
 cases v with
 |c x=>exact Pz h
 |agg d=> simp only[wfT,Ta];exact fun v b=>Pz fun i a=>h i (Ib.2 ⟨v,b,a⟩)
theorem Rz{n:Nat}{o:EO I.C}(h: ∀i∈yh o,i<n):wfO n o=true:=by
 cases o with
 |cells d c=> simp only[wfO,Ta];exact fun v b=>Pz fun i a=>h i (Ib.2 ⟨v,b,a⟩)
 |slo t f c g=> simp only[wfO,Ta];exact fun v b=>Pz fun i a=>h i (Ib.2 ⟨v,b,a⟩)
 |_=>rfl
theorem kV{Z:Nat->Prop}{get:Get}{D:Nat->Prop}{x y:TV}(h:WkT Z x y):RcT Z get D x y:=by
 cases h with
 |c x y h=>exact .c _ _ (.inl h)
 |agg g f b h=>exact .agg _ _ b fun j x y a d=> .inl (h j x y a d)
theorem DN{Z:Nat->Prop}{get:Get}{D:Nat->Prop}(x:LV):RcL Z get D x x:=by
 have a: ∀t,RcT Z get D t t:=fun t=>kV (WkT.refl t);cases x with
 |any=>exact .any _
 |v t=>exact .v _ _ (a t)
 |opt g t=>exact .opt _ _ _ (a t)
 |tup c=>exact .tup _ _ rfl fun j x y d b=>by grind
theorem aB: ∀{a:List Nat} {vs vals:List (ET I.C)} {t:Nat} {y:EL I.C},ni X st a=some vs->vals.length=vs.length->lk (mh a vals) t=some y->
  ∃(j:Nat) (d b:ET I.C),lkE X st t=some (.v d)/\vs[j]? =some d/\vals[j]? =some b/\y= .v b/\t∈a
 |[],vs,vals,t,y,h,f,c=>by
  cases vals<;>cases c
 |u::r,vs,vals,t,y,h,f,c=>by
  simp only[ni]at h;split at h
  ·rename_i x l i q;cases h;cases vals with
   |nil=>cases c
   |cons b s=>
    simp only[mh]at c;rw[Zg]at c;by_cases g:t=u
    ·subst g;rw[La rfl]at c;cases c;exact⟨0,x,b,i,rfl,rfl,rfl,Nb ..⟩
    ·rw[Ga g]at c;obtain⟨j,d,o,k,p,n,w,m⟩:=aB q (by simpa using f) c;exact⟨j+1,d,o,k,by simpa using p,by simpa using n,w,Eb _ m⟩
  ·cases h
theorem GH: ∀{m:Mp} {i:Nat},lk m i=some none->i∈Cg m
 |[],i,h=>by cases h
 |(j,some a)::r,i,h=>by
  rw[Zg]at h;split at h
  ·cases h
  ·exact GH (m:=r) h
 |(j,none)::r,i,h=>by
  rw[Zg]at h;simp only[Cg];split at h
  ·grind
  ·exact Eb _ (GH h)
theorem OI: ∀{l:List Nat},Fq l=true->l.Nodup
 |[],_=>List.nodup_nil
 |i::r,h=>by
  simp only[Fq]at h;cases a:memN i r with
  |true=>grind
  |false=> rw[a]at h;exact List.nodup_cons.2 ⟨CQ a,OI h⟩
theorem Aw (hI:IpOK P I) (hv:Vw P X ρ G st e lh) {sh:StSh} {tmps:List Nat} {vs:List (ET I.C)} {m0 m:Mp} {x:(sh.sl I).T} {p n:Nat} (hvs:ni X st tmps=some vs) (hm0:InjM m0) (hm:matC p X sh tmps vs st m0=some (x,m))
  (hn: ∀i∈sh.objs.map (·.1),i<n) (hf1: ∀t y,lk X.frm t=some y->wfL n y=true) (hf2: ∀i o,lk X.frh i=some o->i<n/\wfO n o=true) (hp:p<=st.next) (hpn:p<=n):
  ∃ρ2 e2 lh2,Sub nt e lh e2 lh2/\Vw P X ρ2 G (encS sh tmps n x) e2 lh2/\ ∀i,i<p->ρ2 i=ρ i:=by
 unfold matC at hm;obtain⟨⟨x',m'⟩,hmat,hm2⟩:=Ba.1 hm;obtain⟨hck,hm3⟩:=zk hm2;cases hm3;obtain⟨ea,lha,sa,va⟩:=iI (nt:=nt) hI (fzV sh.vals vs) hv;obtain⟨ec,lhc,sc,vc⟩:=eQ (nt:=nt) hI (clA (lkO X (Ii X (fzV sh.vals vs) st)) sh vs) va;generalize hst0:lq X (clA (lkO X (Ii X (fzV sh.vals vs) st)) sh vs) (Ii X (fzV sh.vals vs) st)=st0 at*;obtain⟨eb,lhb,sb,vb⟩:=iI (nt:=nt) hI (fzA (lkO X st0) sh vs) vc;generalize hst1:Ii X (fzA (lkO X st0) sh vs) st0=st1 at*;have henv1:st1.env=st.env/\st1.next=st.next:=by rw[<-hst1];obtain⟨q1,q2⟩:=ND (X:=X) (fzA (lkO X st0) sh vs) st0;have q5:=fQ (X:=X) (clA (lkO X (Ii X (fzV sh.vals vs) st)) sh vs) (Ii X (fzV sh.vals vs) st);rw[hst0]at q5;obtain⟨q3,q4⟩:=ND (X:=X) (fzV sh.vals vs) st;exact⟨q1.trans (q5.1.trans q3),q2.trans (q5.2.trans q4)⟩
 have hE1:lkE X st1=lkE X st:=by funext t;simp only[lkE,henv1.1]
 have ssub:=(sa.trans sc).trans sb;generalize hh:lkO X st1=h at*;obtain⟨_,L1⟩:=Sn (P:=P) hI sh;obtain⟨k1,k2,k3,k4,k5⟩:=L1 _ _ _ _ _ hmat;obtain⟨L0,_⟩:=Sn (P:=P) hI sh;have hkeys:=L0 x;have hinj:=k2 hm0;obtain⟨rf1,rf2⟩:=VA (P:=P) hI sh x;generalize ha:(sh.sl I).enc x=a at*;simp only[rz,Ca]at hck;obtain⟨⟨⟨⟨⟨⟨c1,c2⟩,c3⟩,c4⟩,c5⟩,c6⟩,c7⟩:=hck;have hnd:=OI c2;simp only[wfSt,Ca]at c1;have w1:=QA.1 c1.1;have w2:=QA.1 c1.2;simp only[Bb]at w1 w2;have hand:(a.2.map (·.1)).Nodup:=by rw[hkeys];exact hnd
 -- what the map binds
 have mk: ∀i z,lk m i=some z->i∈sh.objs.map (·.1)/\(i<p->isSelf m i=true)/\(∀a,z=some a->lk X.frh a=none):=by
  intro i z hz;have:=Ta.1 c5 _ (Zc hz);simp only[Ca]at this;obtain⟨⟨q1,q2⟩,q3⟩:=this;refine⟨ZB.1 q1,fun hip=> ?_,fun b hb=> ?_⟩
  ·rw[ZJ.2 hip]at q2;simpa using q2
  ·subst hb;simp only at q3;cases hl:lk X.frh b with
   |none=>rfl
   |some o=>rw[hl]at q3;cases q3
 have idfrh: ∀i∈sh.objs.map (·.1),lk X.frh i=none:=by
  intro i hi;have:=Ta.1 c3 i hi;cases hl:lk X.frh i with
  |none=>rfl
  |some o=>rw[hl]at this;cases this
 have tfrm: ∀t∈tmps,lk X.frm t=none:=by
  intro t ht;have:=Ta.1 c4 t ht;cases hl:lk X.frm t with
  |none=>rfl
  |some o=>rw[hl]at this;cases this
 let len:=(Cg m).length
 let N2:=lhb.next+len+1
 let ρ2:Nat->Nat:=fun i=>match lk m i with
  |some (some b)=>ρ b
  |some none=>lhb.next+(Cg m).idxOf i
  |none=>if i<n then(if i<st1.next then ρ i else lhb.next+len)else N2+(i - n)
 have r2a: ∀i b,lk m i=some (some b)->ρ2 i=ρ b:=fun i b hb=>by simp only[ρ2,hb]
 have r2b: ∀i,lk m i=some none->ρ2 i=lhb.next+(Cg m).idxOf i:=fun i hb=>by simp only[ρ2,hb]
 have idxlt: ∀i,lk m i=some none->(Cg m).idxOf i<len:=fun i hb=>List.idxOf_lt_length_iff.2 (GH hb)
 -- objects of the new state
 generalize hstc:encS sh tmps n x=stc at*;have stE:stc.env=mh tmps a.1:=by rw[<-hstc];simp only[encS,ha]
 have stH:stc.heap=a.2:=by rw[<-hstc];simp only[encS,ha]
 have stN:stc.next=n:=by rw[<-hstc];rfl
 have lkH: ∀i,lkO X stc i=(match lk a.2 i with|some o=>some o|none=>lk X.frh i):=fun i=>by unfold lkO;rw[stH];cases lk a.2 i<;>rfl
 have inIds: ∀i,i∈sh.objs.map (·.1)-> ∃o',lk a.2 i=some o'/\lkO X stc i=some o':=by intro i hi;rw[<-hkeys]at hi;obtain⟨o',ho⟩:=Zi hi;exact⟨o',ho,by rw[lkH,ho]⟩
 have frIds: ∀i o,lk X.frh i=some o->lkO X stc i=some o/\lk m i=none/\h i=some o:=by
  intro i o ho;have hni:i ∉ sh.objs.map (·.1):=fun hi=>by rw[idfrh i hi]at ho;cases ho
  refine⟨?_,?_,?_⟩
  ·rw[lkH,Sv (l:=a.2) (fun z hz e=>hni (by rw[<-hkeys];exact Ka.2 ⟨z,hz,e⟩))];exact ho
  ·cases hl:lk m i with
   |none=>rfl
   |some z=>exact absurd (mk i z hl).1 hni
  ·rw[<-hh];exact vb.fro i o ho
 have pres: ∀i o,lkO X stc i=some o->(∃b ob,i∈sh.objs.map (·.1)/\lk a.2 i=some o/\lk m i=some (some b)/\h b=some ob/\infE ob=infE o/\lk X.frh b=none)\/(i∈sh.objs.map (·.1)/\lk a.2 i=some o/\lk m i=some none/\ ∃t,o= .sl t [])\/(lk X.frh i=some o):=by
  intro i o ho;rw[lkH]at ho;cases hl:lk a.2 i with
  |none=>rw[hl]at ho;exact .inr (.inr ho)
  |some o'=>
   rw[hl]at ho;cases ho;have hmem:=Zc hl;have hi:i∈sh.objs.map (·.1):=by rw[<-hkeys];exact Ka.2 ⟨_,hmem,rfl⟩
   rcases k5 i o hmem with⟨b,on,q1,q2,q3,_⟩|⟨q1,q2⟩
   ·refine .inl ⟨b,?_⟩;unfold nrmH at q2;cases hb:h b with
    |none=>rw[hb]at q2;cases q2
    |some ob=> rw[hb]at q2;refine⟨ob,hi,rfl,q1,rfl,?_,(mk i _ q1).2.2 b rfl⟩;cases ob<;>simp only[Option.some.injEq]at q2<;>subst q2<;>exact q3
   ·exact .inr (.inl ⟨hi,rfl,q1,q2⟩)
 have frlt: ∀i o,lk X.frh i=some o->ρ2 i=ρ i:=by intro i o ho;obtain⟨q1,q2,q3⟩:=frIds i o ho;have h1:=(hf2 i o ho).1;have h2:=(vb.wfh i o (by rw[hh];exact q3)).1;simp only[ρ2,q2,La h1,La h2]
 have hZmem: ∀i,lk m i=some none->lhb.next<=ρ2 i/\ρ2 i<N2:=by intro i hi;rw[r2b i hi];have:=idxlt i hi;exact⟨Uc _ _,by simp only[N2];omega⟩
 let Z:Nat->Prop:=fun z=> ∃i,lk m i=some none/\z=ρ2 i
 have hcmp:Cmp ρ ρ2 h (lkO X stc) Z m:=by
  intro i z hz;obtain⟨hi,_,_⟩:=mk i z hz;obtain⟨o',q1,q2⟩:=inIds i hi;cases z with
  |some b=>
   refine⟨r2a i b hz,?_⟩;rcases pres i o' q2 with⟨b',ob,_,g2,g3,g4,g5,_⟩|⟨_,_,g3,_⟩|g
   ·rw[hz]at g3;cases g3;rw[zY q2,zY g4,g5]
   ·rw[hz]at g3;cases g3
   ·rw[idfrh i hi]at g;cases g
  |none=>
   refine⟨⟨i,hz,rfl⟩,?_⟩;rcases pres i o' q2 with⟨b',ob,_,g2,g3,g4,g5,_⟩|⟨_,_,g3,t,g4⟩|g
   ·rw[hz]at g3;cases g3
   ·rw[zY q2,g4];rfl
   ·rw[idfrh i hi]at g;cases g
 have frame: ∀i,((memN i (sh.objs.map (·.1))&&isSelf m i)||(match lk X.frh i with|some _=>true|none=>false))=true->ρ2 i=ρ i/\infO (lkO X stc) i=infO h i:=by
  intro i hi;rw[Tc]at hi;rcases hi with hi|hi
  ·rw[Ca]at hi;have h2:=hi.2;unfold isSelf at h2;split at h2
   ·rename_i b hb;have:=Cb h2;subst this;exact⟨r2a _ _ hb,(hcmp _ _ hb).2⟩
   ·cases h2
  ·cases hl:lk X.frh i with
   |none=>rw[hl]at hi;cases hi
   |some o=> obtain⟨q1,q2,q3⟩:=frIds i o hl;exact⟨frlt i o hl,by rw[zY q1,zY q3]⟩
 have hw:WfS X ρ2 G stc N2:=by
  refine⟨fun i j o o' h1 h2 he=> ?_,fun i hi=>⟨?_,fun j o ho=> ?_⟩,fun t y hy=> ?_,fun i o ho=>(frIds i o ho).1,fun i hi=> ?_,fun i hi=> ?_,fun t y hy=> ?_,fun i o ho=> ?_⟩
  ·have old: ∀i b ob,lk m i=some (some b)->h b=some ob->ρ2 i<lhb.next:=fun i b ob q1 q2=>by rw[r2a i b q1];exact vb.lt b (vb.wfh b ob (by rw[hh];exact q2)).1
   have frm: ∀i o,lk X.frh i=some o->ρ2 i<lhb.next:=fun i o q=>by rw[frlt i o q];exact vb.lt i (vb.wfh i o (by rw[hh];exact(frIds i o q).2.2)).1
   rcases pres i o h1 with⟨b,ob,_,_,g3,g4,_,g6⟩|⟨_,_,g3,_⟩|g<;>rcases pres j o' h2 with⟨b',ob',_,_,f3,f4,_,f6⟩|⟨_,_,f3,_⟩|f
   ·rw[r2a i b g3,r2a j b' f3]at he;have:=vb.inj b b' ob ob' (by rw[hh];exact g4) (by rw[hh];exact f4) he;subst this;exact hinj i j b g3 f3
   ·have:=old i b ob g3 g4;have:=(hZmem j f3).1;omega
   ·rw[r2a i b g3,frlt j o' f]at he;have:=vb.inj b j ob o' (by rw[hh];exact g4) (by rw[hh];exact(frIds j o' f).2.2) he;subst this;rw[f]at g6;cases g6
   ·have:=old j b' ob' f3 f4;have:=(hZmem i g3).1;omega
   ·rw[r2b i g3,r2b j f3]at he;have e1:(Cg m).idxOf i=(Cg m).idxOf j:=by omega
    have l1:=idxlt i g3;have l2:=idxlt j f3;have a1:(Cg m)[(Cg m).idxOf i]'l1=i:=List.getElem_idxOf l1;have a2:(Cg m)[(Cg m).idxOf j]'l2=j:=List.getElem_idxOf l2;have a3:(Cg m)[(Cg m).idxOf i]'l1=(Cg m)[(Cg m).idxOf j]'l2:=by simp only[e1]
    rw[a1,a2]at a3;exact a3
   ·have:=frm j o' f;have:=(hZmem i g3).1;omega
   ·rw[frlt i o g,r2a j b' f3]at he;have:=vb.inj i b' o ob' (by rw[hh];exact(frIds i o g).2.2) (by rw[hh];exact f4) he;subst this;rw[g]at f6;cases f6
   ·have:=frm i o g;have:=(hZmem j f3).1;omega
   ·rw[frlt i o g,frlt j o' f]at he;exact vb.inj i j o o' (by rw[hh];exact(frIds i o g).2.2) (by rw[hh];exact(frIds j o' f).2.2) he
  ·have:=vb.glt i hi;simp only[N2];omega
  ·rcases pres j o ho with⟨b,ob,_,_,g3,g4,_,_⟩|⟨_,_,g3,_⟩|g
   ·rw[r2a j b g3];exact(vb.oth i hi).2 b ob (by rw[hh];exact g4)
   ·have:=(hZmem j g3).1;have:=vb.glt i hi;omega
   ·rw[frlt j o g];exact(vb.oth i hi).2 j o (by rw[hh];exact(frIds j o g).2.2)
  ·refine⟨?_,(vb.fre t y hy).2⟩;simp only[lkE,stE];cases hl:lk (mh tmps a.1) t with
   |none=>exact hy
   |some z=> obtain⟨_,_,_,_,_,_,_,q⟩:=aB hvs (by rw[k3,Xa]) hl;rw[tfrm t q]at hy;cases hy
  ·rw[stN]at hi;simp only[ρ2];cases hl:lk m i with
   |none=>
    simp only;rw[La hi];split
    ·rename_i hlt;have:=vb.lt i hlt;simp only[N2];omega
    ·simp only[N2];omega
   |some z=>
    cases z with
    |some b=>
     obtain⟨hmi,_,_⟩:=mk i _ hl;obtain⟨o',q1,q2⟩:=inIds i hmi;rcases pres i o' q2 with⟨b',ob,_,_,g3,g4,_,_⟩|⟨_,_,g3,_⟩|g
     ·rw[hl]at g3;cases g3;have:=vb.lt b (vb.wfh b ob (by rw[hh];exact g4)).1;simp only[N2];omega
     ·rw[hl]at g3;cases g3
     ·rw[idfrh i hmi]at g;cases g
    |none=>have:=idxlt i hl;simp only[N2];omega
  ·rw[stN]at hi ⊢;have:lk m i=none:=by
    cases hl:lk m i with
    |none=>rfl
    |some z=>have:=hn i (mk i z hl).1;omega
   simp only[ρ2,this];rw[Ga (by omega)]
  ·rw[stN];simp only[lkE,stE]at hy;cases hl:lk (mh tmps a.1) t with
   |none=>rw[hl]at hy;exact hf1 t y hy
   |some z=> rw[hl]at hy;cases hy;obtain⟨j,v0,b,_,_,q3,q4,_⟩:=aB hvs (by rw[k3,Xa]) hl;subst q4;exact KW fun i hi=>hn i (w1 i (rf1 b (Va q3) i hi))
  ·rw[stN];rcases pres i o ho with⟨b,ob,g1,g2,_⟩|⟨g1,g2,_⟩|g
   ·exact⟨hn i g1,Rz fun j hj=>hn j (w2 j (rf2 (i,o) (Zc g2) j hj))⟩
   ·exact⟨hn i g1,Rz fun j hj=>hn j (w2 j (rf2 (i,o) (Zc g2) j hj))⟩
   ·exact hf2 i o g
 refine⟨ρ2,_,_,ssub.trans (recast (Z:=Z) (lh2:=⟨N2,cG P X ρ2 G stc⟩) (by simp only[N2];omega) (fun z hz=> ?_) (fun i o2 ho hnz=> ?_) (fun t=> ?_)),hw.vw (P:=P),fun i hi=> ?_⟩
 ·obtain⟨i,hi,rfl⟩:=hz;obtain⟨q1,q2⟩:=hZmem i hi;obtain⟨hmi,_,_⟩:=mk i _ hi;obtain⟨o',g1,g2⟩:=inIds i hmi;refine⟨q1,q2,?_⟩;rcases pres i o' g2 with⟨b',ob,_,_,g3,_⟩|⟨_,_,_,t,g4⟩|g
  ·rw[hi]at g3;cases g3
  ·subst g4;refine⟨t,P.cellsOf t,?_⟩;show cG P X ρ2 G stc (ρ2 i)=_;rw[wm hw g2];rfl
  ·rw[idfrh i hmi]at g;cases g
 ·by_cases hex: ∃j oj,lkO X stc j=some oj/\ρ2 j=i
  ·obtain⟨j,oj,hj,rfl⟩:=hex;simp only[wm hw hj]at ho;rcases pres j oj hj with⟨b,ob,g1,g2,g3,g4,g5,_⟩|⟨_,_,g3,_⟩|g
   ·rcases k5 j oj (Zc g2)with⟨b',on,q1,q2,_,_,_,q6⟩|⟨q1,_⟩
    ·rw[g3]at q1;cases q1;obtain⟨oa,oa',s1,s2,s3⟩:=q6 ρ ρ2 h (lkO X stc) Z hcmp;rw[ho]at s2;cases s2;refine⟨oa,?_,s3.ty,s3.k,s3.len,fun i row row2 hr hr2=>⟨(s3.row i row row2 hr hr2).1,fun j x y hx hy=> .inl ((s3.row i row row2 hr hr2).2 j x y hx hy)⟩,s3.raw⟩;rw[r2a j b g3];have hg:=vb.heap b ob (by rw[hh];exact g4);rw[hg,hh,<-s1];unfold nrmH at q2;rw[g4]at q2;cases ob<;>simp only[Option.some.injEq]at q2<;>subst q2<;>first|rfl|exact nK.symm|exact WN.symm
    ·rw[g3]at q1;cases q1
   ·exact absurd ⟨j,g3,rfl⟩ hnz
   ·obtain⟨q1,q2,q3⟩:=frIds j oj g;refine⟨o2,?_,RcO.refl _⟩;rw[frlt j oj g,vb.heap j oj (by rw[hh];exact q3),hh,<-ho];have hfr:=Ta.1 c7 _ (Zc g);have hfr:=Ta.1 hfr;cases oj with
    |cells ty cs=> simp only[trO];rw[Na fun v hv=>(Em (ρ:=ρ) (ρ2:=ρ2) (h:=h) (h2:=lkO X stc) fun i hi=>frame i (hfr i (Ib.2 ⟨v,hv,hi⟩))).symm]
    |slo t l1 cs l2=> simp only[trO];rw[Na fun v hv=>(Em (ρ:=ρ) (ρ2:=ρ2) (h:=h) (h2:=lkO X stc) fun i hi=>frame i (hfr i (Ib.2 ⟨v,hv,hi⟩))).symm]
    |_=>rfl
  ·simp only[Av (fun j oj hj e=>hex ⟨j,oj,hj,e⟩)]at ho;exact⟨o2,by rw[(vb.oth i (by rw[ho];simp)).1];exact ho,RcO.refl _⟩
 ·rw[Rv,vb.env t,hh,hE1];have hlk:lkE X stc t=(match lk (mh tmps a.1) t with|some y=>some y|none=>lk X.frm t):=by unfold lkE;rw[stE];cases lk (mh tmps a.1) t<;>rfl
  rw[hlk];cases hl:lk (mh tmps a.1) t with
  |some y=>
   obtain⟨j,v0,b,q1,q2,q3,q4,_⟩:=aB hvs (by rw[k3,Xa]) hl;subst q4;rw[q1];simp only[trL];refine .v _ _ (kV ?_);have:=k4 ρ ρ2 h (lkO X stc) Z hcmp j (nrmT h v0) b (by rw[Ua,q2];rfl) q3
   rwa [Xj]at this
  |none=>
   cases hfm:lk X.frm t with
   |none=>exact .any _
   |some y=>
    obtain⟨f1,f2⟩:=vb.fre t y hfm;rw[hE1]at f1;rw[f1];have hfr:=Ta.1 c6 _ (Zc hfm);have hfr:=Ta.1 hfr;simp only;cases y with
    |any=>exact .any _
    |v t0=> simp only[trL];rw[CB (ρ:=ρ) (ρ2:=ρ2) (h:=h) (h2:=lkO X stc) fun i hi=>frame i (hfr i hi)];exact DN _
    |opt ks t0=>cases f2
    |tup ts=> simp only[trL];rw[Na fun t0 ht=>CB (ρ:=ρ) (ρ2:=ρ2) (h:=h) (h2:=lkO X stc) fun i hi=>frame i (hfr i (Ib.2 ⟨t0,ht,hi⟩))];exact DN _
 ·cases hl:lk m i with
  |none=> simp only[ρ2,hl];rw[La (by omega),La (by rw[henv1.2];omega)]
  |some z=>
   have hself:=(mk i z hl).2.1 hi;unfold isSelf at hself;rw[hl]at hself;cases z with
   |none=>cases hself
   |some b=> have:=Cb hself;subst this;exact r2a _ _ hl
end
section
variable {P:Program} {I:Ip} {X:Cx I} {ρ:Nat->Nat} {G:Get} {st:ES I.C} {e:Env} {lh:LH} {nt:Nat}
theorem UB: ∀(l:List Nat) {b:EEnv I.C},Xp X st l=some b-> ∀t y,lk b t=some y->lkE X st t=some y/\Dz y=true
 |[],b,h,t,y,a=>by cases h;cases a
 |i::r,b,h,t,y,a=>by
  simp only[Xp]at h;split at h
  ·rename_i x l d f;cases h;rw[Zg]at a;by_cases c:t=i
   ·rw[La c]at a;cases a;subst c;exact⟨d,rfl⟩
   ·rw[Ga c]at a;exact UB r f t y a
  ·cases h
theorem EC: ∀(l:List Nat) {b:EHeap I.C},Wp X st l=some b-> ∀t y,lk b t=some y->lkO X st t=some y
 |[],b,h,t,y,a=>by cases h;cases a
 |i::r,b,h,t,y,a=>by
  simp only[Wp]at h;split at h
  ·rename_i x l f d;cases h;rw[Zg]at a;by_cases c:t=i
   ·grind
   ·rw[Ga c]at a;exact EC r d t y a
  ·cases h
def frX(X:Cx I)(a:EEnv I.C)(b:EHeap I.C):Cx I:={X with frm:=a++X.frm,frh:=b++X.frh}
theorem SV{a:EEnv I.C}{b:EHeap I.C}(st:ES I.C)(t:Nat):lkE (frX X a b) st t=(match lk st.env t with|some x=>some x|none=>match lk a t with|some x=>some x|none=>lk X.frm t):=by
 unfold lkE frX;simp only[qb]
 grind
theorem RV{b:EEnv I.C}{a:EHeap I.C}(st:ES I.C)(t:Nat):lkO (frX X b a) st t=(match lk st.heap t with|some x=>some x|none=>match lk a t with|some x=>some x|none=>lk X.frh t):=by
 unfold lkO frX;simp only[qb]
 grind
theorem SE{a:EEnv I.C}{b:EHeap I.C}(st:ES I.C):lkE X (unfr a b st)=lkE (frX X a b) st:=by
 funext t;rw[SV];unfold lkE unfr;simp only[qb]
 grind
theorem Oq{a:EEnv I.C}{b:EHeap I.C}(st:ES I.C):lkO X (unfr a b st)=lkO (frX X a b) st:=by
 funext t;rw[RV];unfold lkO unfr;simp only[qb]
 grind
structure Kept (X:Cx I) (fe:EEnv I.C) (fo:EHeap I.C):Prop where
 e: ∀t x y,lk fe t=some y->lk X.frm t=some x->y=x
 o: ∀t x y,lk fo t=some y->lk X.frh t=some x->y=x
theorem jL(hv:Vw P X ρ G st e lh){lt lo:List Nat}{fe:EEnv I.C}{fo:EHeap I.C}(h1:Xp X st lt=some fe)(h2:Wp X st lo=some fo):Vw P (frX X fe fo) ρ G st e lh/\Kept X fe fo:=by
 have hE:lkE (frX X fe fo) st=lkE X st:=by
  funext t;rw[SV];have:=UB lt h1 t;unfold lkE at this ⊢;cases hs:lk st.env t with
  |some x=>rfl
  |none=>
   grind
 have hO:lkO (frX X fe fo) st=lkO X st:=by
  funext t;rw[RV];have:=EC lo h2 t;unfold lkO at this ⊢;cases hs:lk st.heap t with
  |some x=>rfl
  |none=>
   grind
 refine⟨⟨by rw[hE,hO];exact hv.env,by rw[hO];exact hv.heap,by rw[hO];exact hv.oth,by rw[hO];exact hv.inj,hv.lt,hv.up,fun t x ht=> ?_,fun i o hi=> ?_,hv.glt,by rw[hE];exact hv.wfe,by rw[hO];exact hv.wfh⟩,?_,?_⟩
 ·rw[hE];simp only[frX,qb]at ht;cases hf:lk fe t with
  |none=>rw[hf]at ht;exact hv.fre t x ht
  |some y=>rw[hf]at ht;cases ht;exact UB lt h1 t _ hf
 ·rw[hO];simp only[frX,qb]at hi;cases hf:lk fo i with
  |none=>rw[hf]at hi;exact hv.fro i o hi
  |some y=>rw[hf]at hi;cases hi;exact EC lo h2 i _ hf
 ·intro t x y hy hx;have:=(UB lt h1 t y hy).1;rw[(hv.fre t x hx).1]at this
  grind
 ·intro t x y hy hx;have:=EC lo h2 t y hy;rw[hv.fro t x hx]at this
  grind
theorem unframe{c:EEnv I.C}{b:EHeap I.C}(g:Kept X c b)(a:Vw P (frX X c b) ρ G st e lh):Vw P X ρ G (unfr c b st) e lh:=by
 refine⟨by rw[SE,Oq];exact a.env,by rw[Oq];exact a.heap,by rw[Oq];exact a.oth,by rw[Oq];exact a.inj,a.lt,a.up,fun t x h=> ?_,fun i o f=> ?_,a.glt,by rw[SE];exact a.wfe,by rw[Oq];exact a.wfh⟩
 ·rw[SE];refine a.fre t x ?_;simp only[frX,qb];cases d:lk c t with
  |none=>exact h
  |some y=>rw[g.e t x y d h]
 ·rw[Oq];refine a.fro i o ?_;simp only[frX,qb];cases d:lk b i with
  |none=>exact f
  |some y=>rw[g.o i o y d f]
theorem Ck: ∀(l:List (Nat×OSh)) (n:Nat),n<=ig n l
 |[],n=>Ya n
 |(i,_)::r,n=>by
  simp only[ig];refine Lb ?_ (Ck r _);cases h:Nat.ble (i+1) n with
  |true=>grind
  |false=>
   simp only[Ha];have: ¬(i+1<=n):=fun a=>by rw[Nat.ble_eq_true_of_le a]at h;cases h
   omega
theorem Ht: ∀(l:List (Nat×OSh)) (n i:Nat),i∈l.map (·.1)->i<ig n l
 |(j,_)::r,n,i,h=>by
  simp only[ig];rcases Ab.1 h with h|h
  ·subst h;refine Xb ?_ (Ck r _);cases h:Nat.ble (i+1) n with
   |true=>exact Ac h
   |false=>grind
  ·exact Ht r _ i h
theorem SW.next{c:Code}{Q:Post}(h:SW P nt c Q e lh):SW P nt c (fun x d b=>Q x d b/\lh.next<=b.next) e lh:=
 fun k a w j=>Code.wp_mono (fun _ _ _ ⟨f,d,b,i,m,l,g⟩=>⟨f,d,b,⟨i,g⟩,m,l,g⟩) (h k a w j)
theorem Vw.le{c:ES I.C}{d:Env}{lh2:LH}(h:Vw P X ρ G st e lh)(h2:Vw P X ρ G c d lh2)(f:lh.next<=lh2.next):st.next<=c.next:=by have a:=h.up (st.next+c.next) (Uc _ _);have b:=h2.up (st.next+c.next) (Nat.le_add_left _ _);omega
theorem X5{S Y R:Type}{step:S->Option (LO S Y R)}{s:S}{x:LX Y R}(h:Tg step s=some x): ∃n,Qn step n s=some x:=by
 unfold Tg at h;split at h
 ·grind
 ·cases h
theorem Ak{α R:Type}{c:Option α}{f:α->Option R}{r:R}(h:optB c f=some r): ∃x,c=some x/\f x=some r:=by
 cases c with
 |none=>cases h
 |some x=>exact⟨x,rfl,h⟩
def Ru(P:Program)(p:Nat)(X:Cx I)(ρ:Nat->Nat)(G:Get){R:Type}(K:Exit->ES I.C->Option R)(r:R):Post:=fun x d c=>
 ∃b a,K x a=some r/\Vw P X b G a d c/\p<=a.next/\ ∀i,i<p->b i=ρ i
theorem OE(a:Vw P X ρ G st e lh){n:Nat}(b:st.next<=n):(∀t y,lk X.frm t=some y->wfL n y=true)/\ ∀i o,lk X.frh i=some o->i<n/\wfO n o=true:=by refine⟨fun t y f=>MN b (a.wfe t y (a.fre t y f).1),fun i o d=> ?_⟩;obtain⟨c,g⟩:=a.wfh i o (a.fro i o d);exact⟨Xb c b,EG b g⟩
theorem nC(l:List Nat):InjM (selfs l):=by
 have: ∀(l:List Nat) i a,lk (selfs l) i=some (some a)->i=a:=by
  intro l
  induction l with
  |nil=>intro i a h;cases h
  |cons j r c=>
   intro i a h;have h:lk ((j,some j)::selfs r) i=some (some a):=h;rw[Zg]at h
   grind
 intro i j a d b
 grind
end
section
variable {P:Program} {I:Ip} {nt:Nat} {G:Get}
theorem iX{X:Cx I}{ρ:Nat->Nat}{st:ES I.C}{e:Env}{lh:LH}(g:Vw P X ρ G st e lh){c:Operand}{b:Bool}(h:useE [] (opdE X st c)=some (.c (.bool b)))(ι:Asg)(a:Act)(w:World)(f:Qo ι w nt e a):a.eval c= .bool b:=by have i:=Hr g (.inl rfl) c _ h;have d:=zZ (ww f) c;rw[i]at d;exact Ox (t:=trT ρ (lkO X st) (.c (.bool b))) rfl d
theorem TH{X:Cx I}: ∀(l:List (Nat×Option Nat)) (st:ES I.C),(preE X l st).next=st.next
 |[],st=>rfl
 |p::r,st=>by
  simp only[preE];split
  ·rename_i id _;rw[TH r];exact(ND [id] st).2
  ·exact TH r st
theorem TZ {S Y R:Type} {step:S->Option (LO S Y R)} {z:LX Y R} {t:Nat} {y:S} (hit:Qn step t y=some z) (J:S->(Nat->Nat)->Env->LH->Prop) {b:Code} {Q:Post} {e q:Env} {lh j:LH} {l:Nat->Nat} (A:J y l q j) (v:Sub nt e lh q j)
  (i: ∀s a c lhs s',J s a c lhs->step s=some (.again s')->SW P nt b (Gu (fun m f=> ∃ρ2 n lh2,J s' ρ2 n lh2/\Sub nt m f n lh2) Q) c lhs)
  (r: ∀s a c lhs x,J s a c lhs->step s=some (.out x)->z= .out x->SW P nt b (Gu (fun _ _=>False) Q) c lhs)
  (o: ∀s a c lhs x,J s a c lhs->step s=some (.ret x)->z= .ret x->SW P nt b (Gu (fun _ _=>False) Q) c lhs):SW P nt (.loop b) Q e lh:=by
 refine MH (α:=Nat×S×(Nat->Nat)×Env×LH) (fun x=>x.2.2.2.1) (fun x=>x.2.2.2.2) (fun x=>Qn step x.1 x.2.1=some z/\J x.2.1 x.2.2.1 x.2.2.2.1 x.2.2.2.2) (fun x=>x.1) (t,y,l,q,j) ⟨hit,A⟩ v ?_;rintro⟨k,s,a,c,lhs⟩ ⟨g,p⟩;cases k with
 |zero=>cases g
 |succ k=>
  simp only[Qn]at g;split at g
  ·cases g
  ·rename_i s' d;refine SW.mono (i s a c lhs s' p d) fun x m f h=> ?_;cases x with
   |normal=> obtain⟨ρ2,n,lh2,u,w⟩:=h;exact⟨(k,s',ρ2,n,lh2),⟨g,u⟩,Ub k,w⟩
   |_=>exact h
  ·rename_i x d;cases g;refine SW.mono (r s a c lhs x p d rfl) fun x m f h=> ?_;cases x with
   |normal=>exact False.elim h
   |_=>exact h
  ·rename_i x d;cases g;refine SW.mono (o s a c lhs x p d rfl) fun x m f h=> ?_;cases x with
   |normal=>exact False.elim h
   |_=>exact h
theorem IZ(hmix:P.follows .mixedOrders=true)(hI:IpOK P I){A:Env0 I}(hS: ∀c∈A.S,zn P c):
  ∀(c:Code) {X:Cx I} {R:Type} {K:Exit->ES I.C->Option R} {st:ES I.C} {r:R} {ρ:Nat->Nat} {e:Env} {lh:LH},TOK P X.T X.fk->evC A nt c X K st=some r->Vw P X ρ G st e lh->A.p<=st.next->
   SW P nt c (Ru P A.p X ρ G K r) e lh:=by
 intro c
 induction c with
 |skip=> intro X R K st r ρ e lh hT h hv hp;exact SW.end_ (x:= .normal) ⟨ρ,st,h,hv,hp,fun _ _=>rfl⟩ (fun _ _ _=>wp_skip)
 |label l=> intro X R K st r ρ e lh hT h hv hp;exact SW.end_ (x:= .normal) ⟨ρ,st,h,hv,hp,fun _ _=>rfl⟩ (fun _ _ _=>wp_label)
 |exit id=> intro X R K st r ρ e lh hT h hv hp;exact SW.end_ (x:= .exit id) ⟨ρ,st,h,hv,hp,fun _ _=>rfl⟩ (fun _ _ _=>wp_exit)
 |ret=> intro X R K st r ρ e lh hT h hv hp;exact SW.end_ (x:= .ret) ⟨ρ,st,h,hv,hp,fun _ _=>rfl⟩ (fun _ _ _=>wp_ret)
 |region id ops draw=>
  intro X R K st r ρ e lh hT h hv hp;obtain⟨e0,lh0,s0,v0⟩:=xH (nt:=nt) hI (lkD A.cls id) hv;obtain⟨e1,lh1,s1',v1⟩:=fG (nt:=nt) hI (lkD A.pre id) v0;have s1:=s0.trans s1';have fin: ∀{Q:Post},SW P nt (.region id ops draw) Q e1 lh1->(∀x e' lh',Q x e' lh'->x= .normal/\ ∃st',K .normal {st' with env:=qG st'.env}=some r/\Vw P X ρ G st' e' lh')->SW P nt (.region id ops draw) (Ru P A.p X ρ G K r) e lh:=by intro Q hsw hq;refine SW.sub s1 (SW.post (SW.next hsw) fun x e' lh' ⟨hQ,hle⟩=> ?_);obtain⟨rfl,st',k1,k2⟩:=hq x e' lh' hQ;obtain⟨e2,lh2,s2,v2⟩:=YY (nt:=nt) k2;refine⟨e2,lh2,s2,ρ,_,k1,v2,?_,fun _ _=>rfl⟩;have:=Vw.le v1 k2 hle;have h3:(preE X (lkD A.pre id) (Yi X (lkD A.cls id) st)).next=st.next:=(TH _ _).trans (yH _ _).2;show A.p<=st'.next;omega
  cases draw with
  |false=>
   simp only[evC]at h;split at h
   ·exact fin (R7 (Q:=fun x e' lh'=>x= .normal/\ ∃st',K .normal {st' with env:=qG st'.env}=some r/\Vw P X ρ G st' e' lh') (K:=fun st'=>K .normal {st' with env:=qG st'.env}) hI hT hS v1 h fun st' e' lh' h1 h2=>⟨rfl,st',h1,h2⟩) fun x e' lh' hq=>hq
   ·exact fin (zo0 (Q:=fun x e' lh'=>x= .normal/\ ∃st',K .normal {st' with env:=qG st'.env}=some r/\Vw P X ρ G st' e' lh') hI hT hS v1 h fun st' e' lh' h1 h2=>⟨rfl,st',h1,h2⟩) fun x e' lh' hq=>hq
  |true=>
   simp only[evC]at h;split at h
   ·exact fin (U7 (Q:=fun x e' lh'=>x= .normal/\ ∃st',K .normal {st' with env:=qG st'.env}=some r/\Vw P X ρ G st' e' lh') (K:=fun st'=>K .normal {st' with env:=qG st'.env}) hmix hI hT hS v1 h fun st' e' lh' h1 h2=>⟨rfl,st',h1,h2⟩) fun x e' lh' hq=>hq
   ·exact fin (R9 (Q:=fun x e' lh'=>x= .normal/\ ∃st',K .normal {st' with env:=qG st'.env}=some r/\Vw P X ρ G st' e' lh') (K:=fun st'=>K .normal {st' with env:=qG st'.env}) hmix hI hT hS v1 h fun st' e' lh' h1 h2=>⟨rfl,st',h1,h2⟩) fun x e' lh' hq=>hq
 |seq a b iha ihb=>
  intro X R K st r ρ e lh hT h hv hp;simp only[evC]at h;split at h
  ·refine SW.seq (SW.mono (iha hT h hv hp) fun x e' lh' ⟨ρ',st',h1,h2,h3,h4⟩=> ?_);cases x with
   |normal=>exact SW.mono (ihb hT h1 h2 h3) fun x e2 lh2 ⟨ρ2,st2,k1,k2,k3,k4⟩=>⟨ρ2,st2,k1,k2,k3,fun i hi=>(k4 i hi).trans (h4 i hi)⟩
   |_=>exact⟨ρ',st',h1,h2,h3,h4⟩
  ·rename_i c _;split at h
   ·rename_i fe fo hk1 hk2;obtain⟨hv',hkept⟩:=jL hv hk1 hk2;obtain⟨z,hz1,hz2⟩:=Ba.1 h;have hT':TOK P (frX X fe fo).T (frX X fe fo).fk:=hT;have ha:=iha (X:=frX X fe fo) hT' hz1 hv' hp;refine SW.seq (SW.mono ha fun x e' lh' ⟨ρ',st',h1,h2,h3,h4⟩=> ?_);have other: ∀(x:Exit),(K x (unfr fe fo st')).map LX.ret=some z->Ru P A.p X ρ G K r x e' lh':=by intro x h1;obtain⟨y,q1,q2⟩:=Yb.1 h1;subst q2;simp only[Option.some.injEq]at hz2;subst hz2;exact⟨ρ',_,q1,unframe hkept h2,h3,h4⟩
    cases x with
    |normal=>
     obtain⟨vs,q1,q2⟩:=Ak h1;obtain⟨⟨y,m⟩,q3,q4⟩:=Ba.1 q2;cases q4;obtain⟨w1,w2⟩:=OE (st:=st) hv' (Ck c.sh.objs st.next);obtain⟨ρ2,e2,lh2,s2,v2,g2⟩:=Aw (nt:=nt) hI h2 q1 (nC _) q3 (fun i hi=>Ht _ _ i hi) w1 w2 h3 (Lb hp (Ck _ _));refine SW.sub s2 (SW.mono (ihb (X:=frX X fe fo) hT' hz2 v2 (Lb hp (Ck _ _))) fun x e3 lh3 ⟨ρ3,st3,k1,k2,k3,k4⟩=>⟨ρ3,_,k1,unframe hkept k2,k3,fun i hi=> ?_⟩)
     grind
    |exit i=>exact other (.exit i) h1
    |goto l=>exact other (.goto l) h1
    |ret=>exact other .ret h1
    |panic c=>exact other (.panic c) h1
    |outgrown=>exact other .outgrown h1
   ·cases h
 |cond c x y ihx ihy=>
  intro X R K st r ρ e lh hT h hv hp;simp only[evC]at h;split at h
  ·rename_i b hb;refine SW.cond (b:=b) (fun ι a w hE=>iX hv hb ι a w hE) (fun hb=> ?_) (fun hb=> ?_)
   ·grind
   grind
  ·cases h
 |block id c ih=>
  intro X R K st r ρ e lh hT h hv hp;simp only[evC]at h;refine SW.block (SW.mono (ih hT h hv hp) fun x e' lh' ⟨ρ',st',h1,h2,h3,h4⟩=> ?_);cases x with
  |exit i=>
   simp only[uz];by_cases hi:i=id
   ·rw[La hi];simp only[hi,Nat.beq_refl,Ea]at h1;exact⟨ρ',st',h1,h2,h3,h4⟩
   ·rw[Ga hi];have hb:Nat.beq i id=false:=by
     cases hb:Nat.beq i id with
     |false=>rfl
     |true=>simp_all
    simp only[hb,Ha]at h1;exact⟨ρ',st',h1,h2,h3,h4⟩
  |_=>exact⟨ρ',st',h1,h2,h3,h4⟩
 |scope c ih=>
  intro X R K st r ρ e lh hT h hv hp;simp only[evC]at h;refine SW.scope (SW.mono (ih hT h hv hp) fun x e' lh' ⟨ρ',st',h1,h2,h3,h4⟩=> ?_);cases x with
  |goto l=>cases h1
  |_=>exact⟨ρ',st',h1,h2,h3,h4⟩
 |loop c ih=>
  intro X R K st r ρ e lh hT h hv hp;simp only[evC]at h;split at h
  ·cases h
  ·rename_i u _;split at h
   ·rename_i fe fo hk1 hk2;obtain⟨hv',hkept⟩:=jL hv hk1 hk2;have hT':TOK P (frX X fe fo).T (frX X fe fo).fk:=hT;obtain⟨vs,q1,q2⟩:=Ak h;obtain⟨⟨y,m⟩,q3,q4⟩:=Ba.1 q2;obtain⟨z,hz1,hz2⟩:=Ba.1 q4;obtain⟨n0,hit⟩:=X5 hz1;have hn1:=Ck u.sh.objs st.next;have hn2:=Ck u.xsh.objs (ig st.next u.sh.objs);obtain⟨w1,w2⟩:=OE (st:=st) hv' hn1;obtain⟨w3,w4⟩:=OE (st:=st) hv' (Lb hn1 hn2);obtain⟨ρ1,e1,lh1,s1,v1,g1⟩:=Aw (nt:=nt) hI hv' q1 (nC _) q3 (fun i hi=>Ht _ _ i hi) w1 w2 hp (Lb hp hn1);refine SW.post (Q:=fun x e' lh'=> ∃e2 lh2,Sub nt e' lh' e2 lh2/\Ru P A.p X ρ G K r x e2 lh2) ?_ (fun x e' lh' h=>h);refine TZ hit (fun s ρs es lhs=>Vw P (frX X fe fo) ρs G (encS u.sh u.tmps (ig st.next u.sh.objs) s) es lhs/\ ∀i,i<A.p->ρs i=ρ i) ⟨v1,g1⟩ s1 ?_ ?_ ?_
    ·-- another round
     intro s ρs es lhs s' ⟨i2,i3⟩ hs;refine SW.mono (ih (X:=frX X fe fo) hT' hs i2 (Lb hp hn1)) fun x e' lh' ⟨ρ',st',h1,h2,h3,h4⟩=> ?_;cases x with
     |normal=>
      obtain⟨vs,r1,r2⟩:=Ak h1;obtain⟨⟨y',m'⟩,r3,r4⟩:=Ba.1 r2;cases r4;obtain⟨ρ2,e2,lh2,s2,v2,g2⟩:=Aw (nt:=nt) hI h2 r1 (nC _) r3 (fun i hi=>Ht _ _ i hi) w1 w2 h3 (Lb hp hn1);exact⟨ρ2,e2,lh2,⟨v2,fun i hi=>by grind⟩,s2⟩
     |exit i=>
      exfalso;simp only at h1;cases hb:Nat.beq i u.xid with
      |true=>
       rw[hb]at h1;obtain⟨vs,r1,r2⟩:=Ak h1;obtain⟨p',r3,r4⟩:=Ba.1 r2;cases r4
      |false=> simp_all
     |goto l=>simp_all
     |ret=>simp_all
     |panic c=>simp_all
     |outgrown=>simp_all
    ·-- out
     intro s ρs es lhs xo ⟨i2,i3⟩ hs hz;subst hz;refine SW.mono (ih (X:=frX X fe fo) hT' hs i2 (Lb hp hn1)) fun x e' lh' ⟨ρ',st',h1,h2,h3,h4⟩=> ?_;cases x with
     |normal=>
      exfalso;obtain⟨vs,r1,r2⟩:=Ak h1;obtain⟨p',r3,r4⟩:=Ba.1 r2;cases r4
     |exit i=>
      simp only at h1;cases hb:Nat.beq i u.xid with
      |true=>
       rw[hb]at h1;obtain⟨vs,r1,r2⟩:=Ak h1;obtain⟨⟨y',m'⟩,r3,r4⟩:=Ba.1 r2;cases r4;obtain⟨ρ2,e2,lh2,s2,v2,g2⟩:=Aw (nt:=nt) hI h2 r1 (nC _) r3 (fun i hi=>Ht _ _ i hi) w3 w4 h3 (Lb hp (Lb hn1 hn2));have:=Cb hb;subst this;exact⟨e2,lh2,s2,ρ2,_,hz2,unframe hkept v2,Lb hp (Lb hn1 hn2),fun i hi=>by grind⟩
      |false=> simp_all
     |goto l=>simp_all
     |ret=>simp_all
     |panic c=>simp_all
     |outgrown=>simp_all
    ·-- the end, by way of the loop
     intro s ρs es lhs rr ⟨i2,i3⟩ hs hz;subst hz;refine SW.mono (ih (X:=frX X fe fo) hT' hs i2 (Lb hp hn1)) fun x e' lh' ⟨ρ',st',h1,h2,h3,h4⟩=> ?_;have other: ∀(x:Exit),(K x (unfr fe fo st')).map LO.ret=some (LO.ret (S:=(u.sh.sl I).T) (X:=(u.xsh.sl I).T) rr)-> ∃e2 lh2,Sub nt e' lh' e2 lh2/\Ru P A.p X ρ G K r x e2 lh2:=by intro x h1;obtain⟨y,q1,q2⟩:=Yb.1 h1;cases q2;simp only[Option.some.injEq]at hz2;subst hz2;exact⟨e',lh',Sub.refl _ _ _,ρ',_,q1,unframe hkept h2,h3,fun i hi=>by grind⟩
     cases x with
     |normal=>
      exfalso;obtain⟨vs,r1,r2⟩:=Ak h1;obtain⟨p',r3,r4⟩:=Ba.1 r2;cases r4
     |exit i=>
      simp only at h1;cases hb:Nat.beq i u.xid with
      |true=>
       exfalso;rw[hb]at h1;obtain⟨vs,r1,r2⟩:=Ak h1;obtain⟨⟨y',m'⟩,r3,r4⟩:=Ba.1 r2;cases r4
      |false=> rw[hb]at h1;exact other (.exit i) h1
     |goto l=>exact other (.goto l) h1
     |ret=>exact other .ret h1
     |panic c=>exact other (.panic c) h1
     |outgrown=>exact other .outgrown h1
   ·cases h
 |_=>intro X R K st r ρ e lh hT h;cases h
end
theorem El{α:Type}(q:Nat->Bool)(i:Nat): ∀(l:List (Nat×α)),lk (l.filter fun o=>q o.1) i=(if q i=true then lk l i else none)
 |[]=>by simp[lk]
 |(j,x)::r=>by
  rw[List.filter_cons];by_cases a:i=j
  ·subst a;cases c:q i with
   |true=>rw[La rfl,La rfl,Zg,Zg,La rfl,La rfl]
   |false=>
    have:=El q i r
    grind
  ·have b:=El q i r;rw[Zg,Ga a,<-b];split
   ·rw[Zg,Ga a]
   ·rfl
theorem IG{α:Type}{get:Get}{f:Nat->Nat}{g:α->Option OB}{i:Nat}: ∀{l:List (Nat×α)} {o:α},(∀p∈l,f p.1=f i->p.1=i)->lk l i=some o->upd get (l.map fun p=>(f p.1,g p.2)) (f i)=g o
 |(j,d)::r,o,a,b=>by
  rw[Zg]at b;simp only[ja,upd];by_cases c:i=j
  ·grind
  ·rw[Ga c]at b;rw[Ga (fun h=>c (a (j,d) (Nb ..) h.symm).symm)];exact IG (fun p e=>a p (Eb _ e)) b
section
variable {I:Ip}
theorem nN: ∀(l:List (ET I.C)) (i j:Nat),lk (Lp i l) j=if i<=j then(match l[j - i]? with|some t=>some (.v t)|none=>none)else none
 |[],i,j=>by simp[Lp,lk]
 |t::r,i,j=>by
  simp only[Lp];rw[Zg];by_cases h:j=i
  ·subst h;simp
  ·rw[Ga h,nN r (i+1) j]
   grind
def inX(con:Con I)(T:TT)(a:List (Nat×List Kd))(x:(con.inS.sl I).T):Cx I:=⟨T,a,[],((con.inS.sl I).enc x).2.filter fun o=>memN o.1 con.cst⟩
def inE(con:Con I)(x:(con.inS.sl I).T):ES I.C:=⟨Lp 0 ((con.inS.sl I).enc x).1,((con.inS.sl I).enc x).2.filter fun o=> !(memN o.1 con.cst),con.inS.objs.length⟩
def inR(con:Con I)(ρ:Nat->Nat)(M:Nat):Nat->Nat:=fun i=>if i<con.inS.objs.length then ρ i else M+(i - con.inS.objs.length)
open Classical in
noncomputable def inG(con:Con I)(ρ:Nat->Nat)(get:Get):Get:=fun i=>if∃j,j<con.inS.objs.length/\ρ j=i then none else get i
theorem Yp(con:Con I)(T:TT)(a:List (Nat×List Kd))(x:(con.inS.sl I).T):lkO (inX con T a x) (inE con x)=lk ((con.inS.sl I).enc x).2:=by
 funext i;unfold lkO inX inE;simp only;rw[El (fun i=> !memN i con.cst),El (fun i=>memN i con.cst)]
 grind
theorem wU(con:Con I)(T:TT)(a:List (Nat×List Kd))(x:(con.inS.sl I).T)(t:Nat):lkE (inX con T a x) (inE con x) t=(match((con.inS.sl I).enc x).1[t]? with|some t=>some (.v t)|none=>none):=by unfold lkE inX inE;simp only;rw[nN,La (Bc _),Nat.sub_zero];cases ((con.inS.sl I).enc x).1[t]? <;>rfl
variable {P:Program}
structure WfIn (con:Con I) (x:(con.inS.sl I).T):Prop where
 keys:((con.inS.sl I).enc x).2.map (·.1)=List.range con.inS.objs.length
 r1: ∀t∈((con.inS.sl I).enc x).1,∀i∈Ql t,i<con.inS.objs.length
 r2: ∀o∈((con.inS.sl I).enc x).2,∀i∈yh o.2,i<con.inS.objs.length
theorem wfIn(g:IpOK P I){con:Con I}(a:Ei con=true)(x:(con.inS.sl I).T):WfIn con x:=by simp only[Ei,Ca]at a;obtain⟨⟨⟨⟨⟨⟨⟨k,b⟩,r⟩,s⟩,v⟩,q⟩,p⟩,u⟩:=a;have h:=mq k;obtain⟨l,_⟩:=Sn (P:=P) g con.inS;obtain⟨e,c⟩:=VA (P:=P) g con.inS x;simp only[wfSt,Ca]at b;have j:=QA.1 b.1;have f:=QA.1 b.2;simp only[Bb,h,Kc]at j f;exact⟨by rw[l,h],fun t n i d=>j i (e t n i d),fun o m i d=>f i (c o m i d)⟩
theorem ry{con:Con I}{x:(con.inS.sl I).T}(h:WfIn con x){i:Nat}:(∃o,lk ((con.inS.sl I).enc x).2 i=some o)↔i<con.inS.objs.length:=by
 constructor
 ·intro ⟨o,ho⟩;have:i∈((con.inS.sl I).enc x).2.map (·.1):=Ka.2 ⟨_,Zc ho,rfl⟩;rw[h.keys]at this
  grind
 ·intro hi;exact Zi (by rw[h.keys];grind)
theorem ny(j:IpOK P I){con:Con I}{x:(con.inS.sl I).T}{ρ:Nat->Nat}{h:Nat->Option (EO I.C)}{i:Nat}{o:EO I.C}(d:lk ((con.inS.sl I).enc x).2 i=some o): ∃a,trO P ρ h o=some a:=by
 obtain⟨s,_,⟨t,c,e,_⟩|⟨f,b,e,_⟩|⟨t,g,b,k,_,_,e⟩⟩:=Hm con.inS x _ (Zc d)
 ·simp only at e;subst e;exact⟨_,rfl⟩
 ·simp only at e;subst e;exact⟨_,rfl⟩
 ·simp only at e;subst e;exact⟨_,rfl⟩
theorem zBM (hI:IpOK P I) {con:Con I} (hwf:Ei con=true) (x:(con.inS.sl I).T) (T:TT) (fk:List (Nat×List Kd)) {ρ:Nat->Nat} {M:Nat} {get:Get}
  (hinj: ∀i j,i<con.inS.objs.length->j<con.inS.objs.length->ρ i=ρ j->i=j) (hget: ∀id o,get id=some o->id<M)
  (hrd: ∀q∈((con.inS.sl I).enc x).2.filterMap fun o=>(trO P ρ (lk ((con.inS.sl I).enc x).2) o.2).map fun ob=>(ρ o.1,ob),get q.1=some q.2):
  Vw P (inX con T fk x) (inR con ρ M) (inG con ρ get) (inE con x) (Tn 0 (((con.inS.sl I).enc x).1.map (trT ρ (lk ((con.inS.sl I).enc x).2)))) ⟨M,get⟩:=by
 have hw:=wfIn hI hwf x;have hr: ∀i,i<con.inS.objs.length->inR con ρ M i=ρ i:=fun i hi=>La hi;have hat: ∀i o,lk ((con.inS.sl I).enc x).2 i=some o->get (ρ i)=trO P ρ (lk ((con.inS.sl I).enc x).2) o:=by intro i o ho;obtain⟨ob,hob⟩:=ny (P:=P) hI (ρ:=ρ) (h:=lk ((con.inS.sl I).enc x).2) ho;rw[hob];exact hrd (ρ i,ob) (Xd.2 ⟨(i,o),Zc ho,by rw[hob];rfl⟩)
 have hlt: ∀i,i<con.inS.objs.length->ρ i<M:=by intro i hi;obtain⟨o,ho⟩:=(ry hw).2 hi;obtain⟨ob,hob⟩:=ny (P:=P) hI (ρ:=ρ) (h:=lk ((con.inS.sl I).enc x).2) ho;exact hget _ ob (by grind)
 have hid: ∀i o,lk ((con.inS.sl I).enc x).2 i=some o->i<con.inS.objs.length:=fun i o ho=>(ry hw).1 ⟨o,ho⟩;refine⟨fun t=> ?_,fun id o ho=> ?_,fun i hi=> ?_,fun i j o o' ho ho' e=> ?_,fun id hi=> ?_,fun id hi=> ?_,fun t y h=> ?_,fun i o ho=> ?_,fun i hi=> ?_,fun t y h=> ?_,fun id o ho=> ?_⟩
 ·rw[wU,PD,La (Bc _),Nat.sub_zero,Ua];cases ht:((con.inS.sl I).enc x).1[t]? with
  |none=>rfl
  |some v=> simp only[Pb,trL];rw[Yp];congr 1;exact(CB fun i hi=>⟨hr i (hw.r1 v (Va ht) i hi),rfl⟩).symm
 ·rw[Yp]at ho ⊢;show get _=_;rw[hr id (hid id o ho),hat id o ho];cases o with
  |cells ty cs=> simp only[trO];rw[Na fun v hv=>(Em (ρ:=ρ) (ρ2:=inR con ρ M) (h:=lk ((con.inS.sl I).enc x).2) (h2:=lk ((con.inS.sl I).enc x).2) fun i hi=>⟨hr i (hw.r2 _ (Zc ho) i (Ib.2 ⟨v,hv,hi⟩)),rfl⟩).symm]
  |slo t l1 cs l2=> simp only[trO];rw[Na fun v hv=>(Em (ρ:=ρ) (ρ2:=inR con ρ M) (h:=lk ((con.inS.sl I).enc x).2) (h2:=lk ((con.inS.sl I).enc x).2) fun i hi=>⟨hr i (hw.r2 _ (Zc ho) i (Ib.2 ⟨v,hv,hi⟩)),rfl⟩).symm]
  |_=>rfl
 ·unfold inG at hi ⊢;split at hi
  ·grind
  ·rename_i hn;rw[Ga hn];refine⟨rfl,fun id o ho e=>hn ?_⟩;rw[Yp]at ho
   grind
 ·rw[Yp]at ho ho'
  grind
 ·rw[hr id hi];exact hlt id hi
 ·have: ¬id<con.inS.objs.length:=Nat.not_lt.2 hi;show inR con ρ M id=_;unfold inR;rw[Ga this];rfl
 ·cases h
 ·rw[Yp];have ho:lk (((con.inS.sl I).enc x).2.filter fun o=>memN o.1 con.cst) i=some o:=ho;rw[El (fun i=>memN i con.cst)]at ho
  grind
 ·unfold inG at hi;split at hi
  ·grind
  ·cases hg:get i with
   |none=>grind
   |some o=>exact hget i o hg
 ·rw[wU]at h;split at h
  ·rename_i v hv;cases h;exact KW (hw.r1 v (Va hv))
  ·cases h
 ·rw[Yp]at ho;exact⟨hid id o ho,Rz (hw.r2 _ (Zc ho))⟩
end
section
variable {I:Ip} {P:Program}
theorem zDE{f:Nat->Nat}{k nx:Nat}{i:Nat}(a: ∀j,j<k->f j=f i->j=i)(hi:i<k):rnI ((List.range k).map f) nx (f i)=nx+i:=by
 unfold rnI;cases h:((List.range k).map f).idxOf? (f i)with
 |none=>grind
 |some j=>
  have:=XM h
  grind
theorem zCo{a:List Nat}{nx i:Nat}(h:i ∉ a):rnI a nx i=i:=by
 unfold rnI
 grind
theorem cz{ρ ρ2:Nat->Nat}{h h2:Nat->Option (EO I.C)}{d:List Nat}{nx:Nat}{v:EV I.C}(a: ∀i∈Zb v,rnI d nx (ρ2 i)=ρ i/\infO h2 i=infO h i):rnC d nx (trV ρ2 h2 v)=trV ρ h v:=by
 cases v with
 |own id=> obtain⟨g,b⟩:=a id (by simp[Zb]);rw[Oi,Oi,b,<-g];split<;>rfl
 |osl id j n=>simp only[trV,rnC,(a id (by simp[Zb])).1]
 |optr id r c=>simp only[trV,rnC,(a id (by simp[Zb])).1]
 |mref id=>simp only[trV,rnC,(a id (by simp[Zb])).1]
 |clo f e=> simp only[trV,rnC,Ob];congr 1;refine Na fun q k=> ?_;simp only[Function.comp];rw[(a q.1 (by simp only[Zb,Ka];grind)).1]
 |_=>rfl
theorem SB{ρ2:Nat->Nat}{h2:Nat->Option (EO I.C)}{v:EV I.C}{Q:Nat->Prop}(b: ∀i∈Zb v,Q (ρ2 i)): ∀i∈zI (trV ρ2 h2 v),Q i:=by
 intro i a;cases v with
 |own id=> rw[Oi]at a;split at a<;>simp[zI]at a<;>subst a<;>exact b id (by simp[Zb])
 |osl id e n=>simp only[trV,zI,Oa]at a;subst a;exact b id (by simp[Zb])
 |optr id r c=>simp only[trV,zI,Oa]at a;subst a;exact b id (by simp[Zb])
 |mref id=>simp only[trV,zI,Oa]at a;subst a;exact b id (by simp[Zb])
 |clo f d=> simp only[trV,zI,Ob,Ka,Function.comp]at a;obtain⟨q,g,rfl⟩:=a;exact b q.1 (by simp only[Zb,Ka];grind)
 |_=>simp[trV,zI]at a
theorem zDF{ρ ρ2:Nat->Nat}{h h2:Nat->Option (EO I.C)}{a:List Nat}{nx:Nat}{t:ET I.C}(b: ∀i∈Ql t,rnI a nx (ρ2 i)=ρ i/\infO h2 i=infO h i):rnT a nx (trT ρ2 h2 t)=trT ρ h t:=by
 cases t with
 |c v=>exact congrArg TV.c (cz b)
 |agg f=> simp only[trT,rnT,Ob];congr 1;exact Na fun v e=>cz fun i d=>b i (Ib.2 ⟨v,e,d⟩)
theorem uW{ρ2:Nat->Nat}{h2:Nat->Option (EO I.C)}{t:ET I.C}{Q:Nat->Prop}(b: ∀i∈Ql t,Q (ρ2 i)): ∀i∈Eu (trT ρ2 h2 t),Q i:=by
 cases t with
 |c v=>exact SB b
 |agg e=> intro i a;simp only[trT,Eu,Ib,Ka]at a;obtain⟨c,⟨v,d,rfl⟩,a⟩:=a;exact SB (fun i a=>b i (Ib.2 ⟨v,d,a⟩)) i a
theorem jV{ρ ρ2:Nat->Nat}{h h2:Nat->Option (EO I.C)}{m:List Nat}{nx:Nat}{o:EO I.C}{Q:Nat->Prop}(k: ∀i∈yh o,(rnI m nx (ρ2 i)=ρ i/\infO h2 i=infO h i)/\Q (ρ2 i)){r:OB}(e:trO P ρ2 h2 o=some r):trO P ρ h o=some (rnO m nx r)/\ ∀i∈Rh r,Q i:=by
 cases o with
 |cells w s=>
  simp only[trO,Option.some.injEq]at e ⊢;subst e;refine⟨?_,fun i a=> ?_⟩
  ·simp only[rnO,ja,Oc,Ob];congr 2;rw[Na fun v g=>(cz (ρ:=ρ) (h:=h) fun i a=>(k i (Ib.2 ⟨v,g,a⟩)).1).symm];rfl
  ·simp only[Rh,List.flatMap_cons,List.flatMap_nil,Bb,Ib,Ka]at a;obtain⟨c,⟨v,g,rfl⟩,a⟩:=a;exact SB (fun i a=>(k i (Ib.2 ⟨v,g,a⟩)).2) i a
 |sl t l=>
  simp only[trO,Option.some.injEq]at e ⊢;subst e;refine⟨?_,fun i a=> ?_⟩
  ·simp only[rnO,Ob,OB.mk.injEq,true_and,and_true];refine Na fun x y=> ?_;simp[Function.comp,Ob,rnC]
  ·exfalso;simp only[Rh,Ib,Ka]at a;obtain⟨f,⟨x,_,rfl⟩,c,j,a⟩:=a;obtain⟨q,_,rfl⟩:=Ka.1 j;simp[zI]at a
 |mp z l=> simp only[trO,Option.some.injEq]at e ⊢;subst e;exact⟨rfl,fun i a=>by simp[Rh]at a⟩
 |slo t A s B=>
  simp only[trO,Option.some.injEq]at e ⊢;subst e;have b: ∀l:List (I.C t),(l.map fun x=>(I.full t x).map CV.p).map (·.map (rnC m nx))=l.map fun x=>(I.full t x).map CV.p:=by intro l;rw[Ob];refine Na fun x _=> ?_;simp[Function.comp,Ob,rnC]
  have u: ∀l:List (I.C t),∀f∈(l.map fun x=>(I.full t x).map CV.p),∀c∈f,zI c=[]:=by intro l f b c j;obtain⟨x,_,rfl⟩:=Ka.1 b;obtain⟨q,_,rfl⟩:=Ka.1 j;rfl
  refine⟨?_,fun i a=> ?_⟩
  ·simp only[rnO,ic,ja,b];congr 3;rw[Ob];rw[Na fun v g=>(cz (ρ:=ρ) (h:=h) fun i a=>(k i (Ib.2 ⟨v,g,a⟩)).1).symm];rfl
  ·simp only[Rh,Ib]at a;obtain⟨f,d,c,j,a⟩:=a;rcases Vb.1 d with d|d
   ·grind
   ·rcases Ab.1 d with rfl|d
    ·obtain⟨v,g,rfl⟩:=Ka.1 j;exact SB (fun i a=>(k i (Ib.2 ⟨v,g,a⟩)).2) i a
    grind
 |dead n=>cases e
 |frz t l=>cases e
end
section
variable {I:Ip} {P:Program}
theorem kL{h h2:Nat->Option (EO I.C)}{i:Nat}(e:h2 i=h i):infO h2 i=infO h i:=by unfold infO;rw[e]
end
section
variable {I:Ip} {P:Program}
theorem zn.told{f:Nat}{inS:StSh}{cst:List Nat}{outS:StSh}{k:Nat}{F:(inS.sl I).T->Option (outS.sl I).T}{ι:Type}{Fn:ι->(inS.sl I).T->Option (outS.sl I).T}(d:ι)(b: ∀n,zn P ⟨f,inS,cst,outS,k,Fn n⟩)(c: ∀x y,F x=some y-> ∃n,Fn n x=some y):
  zn P (⟨f,inS,cst,outS,k,F⟩:Con I):=
 ⟨(b d).wf,fun x y a=>let⟨n,h⟩:=c x y a;(b n).ok x y h⟩
theorem zn.none{f:Nat}{inS:StSh}{cst:List Nat}{outS:StSh}{k:Nat}(a:Ei (⟨f,inS,cst,outS,k,fun _=>Option.none⟩:Con I)=true):zn P (⟨f,inS,cst,outS,k,fun _=>Option.none⟩:Con I):=
 ⟨a,fun x y h=>by cases h⟩
theorem zn.recf {f:Nat} {inS:StSh} {cst:List Nat} {outS:StSh} {k:Nat} {F:(inS.sl I).T->Option (outS.sl I).T} (B:((inS.sl I).T->Option (outS.sl I).T)->(inS.sl I).T->Option (outS.sl I).T)
  (a:Ei (⟨f,inS,cst,outS,k,fun _=>Option.none⟩:Con I)=true) (c: ∀S,zn P (⟨f,inS,cst,outS,k,S⟩:Con I)->zn P (⟨f,inS,cst,outS,k,B S⟩:Con I))
  (b: ∀x y,F x=some y-> ∃n:Nat,Nat.rec (motive:=fun _=>(inS.sl I).T->Option (outS.sl I).T) (fun _=>Option.none) (fun _ S=>B S) n x=some y):zn P (⟨f,inS,cst,outS,k,F⟩:Con I):=by
 refine zn.told 0 (Fn:=fun n=>Nat.rec (motive:=fun _=>(inS.sl I).T->Option (outS.sl I).T) (fun _=>Option.none) (fun _ S=>B S) n) (fun n=> ?_) b
 induction n with
 |zero=>exact zn.none a
 |succ n d=>exact c _ d
theorem zDT{l:List Nat}{b:List (Nat×List Kd)}(a: ∀p∈b,Uj P p.1=some p.2):TOK P (l.map fun t=>(t,ti P t)) b:=by
 refine⟨fun t i h=> ?_,fun t d h=>a _ (Zc h)⟩;obtain⟨c,_,e⟩:=Ka.1 (Zc h)
 grind
end
section
variable {P:Program}
def NoZ:Nat->Prop:=fun _=>False
end
section
variable {I:Ip}
def Eg:List ResultVar->List Nat
 |[]=>[]
 | .tmp t::r=>t::Eg r
 | .cell a _::r=>a::Eg r
def retE(X:Cx I)(st:ES I.C):List ResultVar->Option (List (ET I.C))
 |[]=>some []
 | .tmp t::r=>match useE [] (opdE X st (.tmp t)),retE X st r with
  |some x,some l=>some (x::l)
  |_,_=>none
 | .cell a t::r=>match useE [] (opdE X st (.tmp a)),retE X st r with
  |some (.c (.optr id 0 b)),some l=>match lkO X st id with
   |some (.cells _ d)=>match Nl (X.T.at t) d b with
    |some x=>some (x::l)
    |none=>none
   |_=>none
  |_,_=>none
def exOK(con:Con I)(exS:StSh)(b:List (ET I.C))(h:Nat->Option (EO I.C))(m:Mp):Bool:=
 let a:=con.outS.objs.map (·.1)
 subN a (exS.objs.map (·.1))&&(exS.objs.all fun o=> !(memN o.1 con.cst)&&(memN o.1 a|| !(Nat.blt o.1 con.inS.objs.length)))&&
  ((a.all fun i=>isSelf m i)&&m.all fun z=>isSelf m z.1&&memN z.1 (a++con.cst))&&subN (b.flatMap Ql) (a++con.cst)&&(a.all fun i=>match h i with|some o=>subN (yh o) (a++con.cst)|none=>false)
noncomputable def evF2(A:Env0 I)(T:TT)(g:List (Nat×List Kd))(nt:Nat)(rs:List ResultVar)(d:Code)(con:Con I)(exS:StSh)(x:(con.inS.sl I).T):Option (con.outS.sl I).T:=
 let a:=(con.inS.sl I).enc x
 let p:=con.inS.objs.length
 let X:Cx I:=⟨T,g,[],a.2.filter fun o=>memN o.1 con.cst⟩
 let b:=fun(e:ES I.C)=>optB (ni X e (Eg rs)) fun h=>(matC p X exS (Eg rs) h e (Kl exS.objs p)).bind fun q=>
  let c:=encS exS (Eg rs) (ig p exS.objs) q.1
  optB (retE X c rs) fun f=>((con.outS.sl I).mat f (lkO X c) (selfs (con.outS.objs.map (·.1)))).bind fun r=>cond (Fq (Eg rs)&&exOK con exS f (lkO X c) r.2) (some r.1) none
 evC A nt d X (fun x e=>match x with| .normal=>b e| .ret=>b e|_=>none) ⟨Lp 0 a.1,a.2.filter fun o=> !(memN o.1 con.cst),p⟩
end
section
variable {P:Program}
theorem zBI {ι:Asg} {w w':World} {get:Get} {nx k:Nat} {ts c:List TV} {up d:List (Nat×Option OB)} {v:Value}
  (n:c.length=ts.length) (B: ∀(j:Nat) a b,ts[j]? =some a->c[j]? =some b->WkT NoZ a b)
  (hu: ∀id,(upd get up id=none/\upd get d id=none)\/ ∃o p,upd get up id=some o/\upd get d id=some p/\WkOZ NoZ o p) (h:Good ι w get nx k (valOf ts) up v w'):Good ι w get nx k (valOf c) d v w':=by
 obtain⟨e,f,s,M,J⟩:=h;refine⟨e,?_,?_,M,J⟩
 ·have g: ∀z,NoZ z-> ∃k,e z= .live none k:=fun z A=>A.elim;refine⟨fun id p x=> ?_,fun id x=> ?_,f.inj,f.glob⟩
  ·rcases hu id with⟨_,y⟩|⟨o,r,i,y,C⟩
   ·grind
   ·rw[y]at x;cases x;obtain⟨b,m,q⟩:=f.live id o i;exact⟨b,by rw[C.k];exact m,q.wkZ g C⟩
  ·rcases hu id with⟨i,_⟩|⟨o,r,_,y,_⟩
   ·exact f.gone id i
   grind
 ·have g: ∀z,NoZ z-> ∃k,e z= .live none k:=fun z A=>A.elim
  match ts,c,n with
  |[],[],_=>exact s
  |[t],[H],_=>exact(B 0 t H rfl rfl).rep g s
  |a::b::l,O::Q::N,n=>
   obtain⟨L,F,R,G⟩:=s;refine⟨L,F,by grind,fun j t D=> ?_⟩;have K:j<(a::b::l).length:=by rw[<-n];exact(Da.1 D).1
   have E:(a::b::l)[j]? =some (a::b::l)[j]:=Ja K;obtain⟨u,m,q⟩:=G j _ E;exact⟨u,m,(B j _ t E D).rep g q⟩
def uE(P:Program)(rs:List ResultVar)(nx k M:Nat)(c:Get)(val:LV)(up:List (Nat×Option OB)):Post:=fun x e i=>
 ∃f g d,UV P rs nx k M c (valOf f) d x e i/\val=valOf g/\g.length=f.length/\(∀(j:Nat) a b,f[j]? =some a->g[j]? =some b->WkT NoZ a b)/\
  ∀id,(upd c d id=none/\upd c up id=none)\/ ∃o h,upd c d id=some o/\upd c up id=some h/\WkOZ NoZ o h
theorem zn2 {f:FuncId} {fn:Func} {c:Code} {rs:List ResultVar} {k nt nx:Nat} {args:List TV} {rd:List (Nat×OB)} {val:LV} {up:List (Nat×Option OB)} (hf:P.funcs[f]? =some fn) (hb:fn.body=some c) (hrs:fn.results=rs.toArray) (hnt:fn.ntmps=nt)
  (hname:(fn.name== "runtime.NumGoroutine")=false) (hlen:args.length<=nt)
  (h: ∀(get:Get) (M:Nat),nx+k<=M->(∀id o,get id=some o->id<M/\(id<nx\/nx+k<=id))->(∀p∈rd,get p.1=some p.2)->
   SW P nt c (uE P rs nx k M get val up) (Tn 0 args) ⟨M,get⟩):zc8 P f args rd nx k val up:=by
 refine⟨⟨fn,hf,hname,by rw[hb];rfl⟩,fun ι get w N vs hR hN hfr hargs hrd=> ?_⟩;have hsw:=h get (max N (nx+k)) (mf _ _) (fun id o ho=>by
  obtain⟨b,h1,_⟩:=hR.live id o ho;have hne:ι id≠ .free:=by rw[h1];simp
  refine⟨?_,?_⟩
  ·rcases Lc id N with h2|h2
   ·omega
   ·exact absurd (hN id h2) hne
  ·rcases Lc id nx with h2|h2
   ·exact .inl h2
   ·rcases Lc id (nx+k)with h3|h3
    ·have:=hfr (id - nx) (by omega)
     grind
    ·exact .inr h3) hrd
 refine calls_of_wp hf hb (Code.wp_mono (fun x a' w' hx=> ?_) (hsw ι {tmps:=vs++Array.replicate (fn.ntmps - vs.size) undef,defers:=[]} w ⟨hR,fun id hid=>hN id (Lb (Nat.le_max_left N (nx+k)) hid),⟨?_,rfl,fun i=> ?_⟩⟩))
 ·obtain⟨ι',e',lh',h1,h2,h3,h4⟩:=hx;obtain⟨ts1,ts2,up1,hB,e2,hl2,hv2,hu2⟩:=h1;obtain⟨hxe,hs,ts,q1,q2,q3,q4,q5,q6,q7⟩:=hB;subst q1;replace q3: ∀i∈hs,max N (nx+hs.length)<=i\/upd get up1 i=none:=by
   intro i hi;rcases q3 i hi with h|h|⟨h5,o,h6⟩
   ·exact .inl h
   ·exact .inr h
   ·rcases Lc i (max N (nx+hs.length))with h7|h7
    ·exfalso;obtain⟨b,h8,_⟩:=h2.rel.live i o h6;rcases hR.gone i h5 with h9|h9
     ·rw[h3.keepf i h7 h9]at h8;cases h8
     ·rcases h3.stp.slots i (by rw[h9];simp)with h10|h10
      ·grind
      grind
    ·exact .inl h7
  have main: ∃v,(results fn a'.tmps).run P w'= .ok v w'/\ ∃v0,Ending.returned v= .returned v0/\Good ι w get nx hs.length (valOf ts1) up1 v0 w':=by
   obtain⟨g1,g2,g3,g4⟩:=LQ hR h2.rel h3 hN (Nat.le_max_left _ _) (mf _ _) hfr q2 q3 q7;obtain⟨us,r1,r2,r3⟩:=vM (P:=P) h2.rel h2.env q4;have conv: ∀(t:TV) (u:Value),repT ι' w' t u->t∈ts->repT (Rj ι ι' (upd get up1) hs nx) w' (rnT hs nx t) u:=by
    intro t u hx hm;have hok:=q5 t hm;cases t with
    |c x=>exact⟨hx.1,g4 x u hx.2 hok⟩
    |agg xs=>
     obtain⟨vs',e1,e2,e3⟩:=hx;refine⟨vs',e1,by simpa using e2,fun j y hj=> ?_⟩;rw[Ua]at hj;cases hx0:xs[j]? with
     |none=>grind
     |some x0=>
      rw[hx0]at hj;simp only[Pb,Option.some.injEq]at hj;subst hj;obtain⟨u',f1,f2,f3⟩:=e3 j _ hx0;refine⟨u',f1,f2,g4 _ u' f3 (fun id hid=>hok id ?_)⟩;simp only[Eu,Ib]
      grind
   have hrun:(fn.results.mapM (rd1 a'.tmps)).run P w'= .ok us.toArray w':=by rw[hrs,List.mapM_toArray,Sem.run_map,r1];rfl
   rw[rQ,Sem.run_bind,hrun];simp only[Result.andThen_ok,Sem.run_pure];refine⟨_,rfl,_,rfl,_,g1,?_,g2,g3⟩;rw[q6]
   match ts,us,r2,r3,conv with
   |[],[],_,_,_=>exact⟨#[],by simp,rfl,fun j t ht=>by simp at ht⟩
   |[t],[u],_,r3,conv=> obtain⟨u',k1,k2⟩:=r3 0 t rfl;simp at k1;subst k1;have:=conv t u k2 (by simp);simpa [valOf,repL] using this
   |t1::t2::ts,u1::u2::us,r2,r3,conv=>
    refine⟨(u1::u2::us).toArray,by simp,by simpa using r2,fun j t ht=> ?_⟩
    grind
  replace main: ∃v,(results fn a'.tmps).run P w'= .ok v w'/\ ∃v0,Ending.returned v= .returned v0/\Good ι w get nx hs.length val up v0 w':=by obtain⟨v,m1,v0,m2,m3⟩:=main;exact⟨v,m1,v0,m2,by rw[e2];exact zBI hl2 hv2 hu2 m3⟩
  rcases hxe with rfl|rfl
  ·exact⟨h2.env.defers,main⟩
  ·exact⟨h2.env.defers,main⟩
 ·simp only[dh,Lf,hargs.1,hnt];omega
 ·rw[PD];simp only[Bc,yc,Nat.sub_zero];cases hi:args[i]? with
  |none=>trivial
  |some t=>
   obtain⟨u,h1,h2⟩:=hargs.2 i t hi;have:(vs++Array.replicate (fn.ntmps - vs.size) undef).getD i undef=u:=by have hil:=(Xe.1 h1).1;rw[Ed,Array.getElem?_append,La hil,h1];rfl
   rw[this];exact h2
end
section
variable {I:Ip} {P:Program} {X:Cx I} {ρ:Nat->Nat} {G:Get} {st:ES I.C} {e:Env} {lh:LH}
theorem xU{t:Nat}{v:ET I.C}{x:ET I.C}(a:lkE X st t=some (.v v))(h:useE [] (opdE X st (.tmp t))=some x):x=nrmT (lkO X st) v:=by
 simp only[opdE,a,nrmL,useE]at h
 grind
theorem RN{t:Nat}{x:ET I.C}(b: ∀t y,lkE X st t=some y-> ∃v,y= .v v)(h:useE [] (opdE X st (.tmp t))=some x): ∃v,lkE X st t=some (.v v):=by
 simp only[opdE]at h;cases a:lkE X st t with
 |none=>rw[a]at h;cases h
 |some y=>grind
theorem YE(c: ∀t y,lkE X st t=some y-> ∃v,y= .v v): ∀(rs:List ResultVar) {d:List (ET I.C)},retE X st rs=some d-> ∀t∈Eg rs,∃v,lkE X st t=some (.v v)
 |[],d,_,t,b=>by cases b
 | .tmp j::r,d,h,t,b=>by
  simp only[retE]at h;split at h
  ·rename_i x l f g;rcases Ab.1 b with e|e
   ·subst e;exact RN c f
   ·exact YE c r g t e
  ·cases h
 | .cell a j::r,d,h,t,b=>by
  simp only[retE]at h;split at h
  ·rename_i id i l f g;rcases Ab.1 b with e|e
   ·subst e;exact RN c f
   ·exact YE c r g t e
  ·cases h
theorem WL: ∀{ts:List Nat} {vs:List (ET I.C)} {t:Nat} {y:EL I.C},lk (mh ts vs) t=some y-> ∃v,y= .v v
 |[],vs,t,y,h=>by cases vs<;>cases h
 |a::ts,[],t,y,h=>by cases h
 |a::ts,b::vs,t,y,h=>by
  simp only[mh]at h;rw[Zg]at h;split at h
  ·grind
  ·exact WL h
theorem NB(hT:TOK P X.T X.fk)(hv:Vw P X ρ G st e lh): ∀(rs:List ResultVar) {ws:List (ET I.C)},(∀t∈Eg rs,∃v,lkE X st t=some (.v v))->retE X st rs=some ws->resB P e lh.get rs (ws.map (trT ρ (lkO X st)))
 |[],ws,_,h=>by cases h;trivial
 | .tmp t::r,ws,hl,h=>by
  simp only[retE]at h;split at h
  ·rename_i x l h1 h2;cases h;obtain⟨v,hv1⟩:=hl t (Nb ..);refine⟨⟨True,?_,trivial⟩,NB hT hv r (fun t ht=>hl t (Eb _ ht)) h2⟩;have:=hv.env t;rw[hv1]at this;simp only[trL]at this;rw[xU hv1 h1,Xj];simp only[resV,this]
  ·cases h
 | .cell a t::r,ws,hl,h=>by
  simp only[retE]at h;split at h
  ·rename_i id cell l h1 h2;split at h
   ·rename_i ty cs ho;split at h
    ·rename_i x hx;cases h;obtain⟨v,hv1⟩:=hl a (Nb ..);have he:=hv.env a;rw[hv1]at he;simp only[trL]at he;have hn:=xU hv1 h1;have htr:trT ρ (lkO X st) v= .c (.optr (ρ id) 0 cell):=by rw[<-Xj,<-hn];rfl
     rw[htr]at he;have hg:=hv.heap id _ ho;obtain⟨hk,h5⟩:=Fs hx;have hti:=wh hT hk;rw[hti]at hk h5;have hload:=NC (get:=lh.get) (id:=ρ id) (cell:=cell) hk hg (row:=0) (cs:=cs.map (trV ρ (lkO X st))) rfl;rcases h5 with⟨g1,g2,g3⟩|⟨g1,y,g2,g3⟩
     ·rw[La g1]at hload;subst g3;refine⟨⟨_,?_,(by grind:cell+(ti P t).sz<=(cs.map (trV ρ (lkO X st))).length)⟩,NB hT hv r (fun t ht=>hl t (Eb _ ht)) h2⟩;simp only[resV,he,hload,trT,jc,Ad]
     ·rw[Ga (by rw[g1];simp),Ua,g2]at hload;subst g3;refine⟨⟨True,?_,trivial⟩,NB hT hv r (fun t ht=>hl t (Eb _ ht)) h2⟩;simp only[resV,he,hload,trT,Pb]
    ·cases h
   ·cases h
  ·cases h
end
section
variable {I:Ip} {P:Program}
theorem UY (hI:IpOK P I) {con:Con I} (hwf:Ei con=true) (x:(con.inS.sl I).T) {T:TT} {fk:List (Nat×List Kd)} {ρ:Nat->Nat} {nx M nt:Nat} {get:Get}
  (hinj: ∀i j,i<con.inS.objs.length->j<con.inS.objs.length->ρ i=ρ j->i=j) (hlt: ∀i,i<con.inS.objs.length->ρ i<nx\/nx+con.k<=ρ i) (hnew: ∀j,ρ (con.inS.objs.length+j)=nx+j)
  (hM:nx+con.k<=M) (hget: ∀id o,get id=some o->id<M)
  (hrd: ∀q∈((con.inS.sl I).enc x).2.filterMap fun o=>(trO P ρ (lk ((con.inS.sl I).enc x).2) o.2).map fun ob=>(ρ o.1,ob),get q.1=some q.2)
  {ρ':Nat->Nat} {st:ES I.C} {e:Env} {lh:LH} (hv:Vw P (inX con T fk x) ρ' (inG con ρ get) st e lh) (hn:con.inS.objs.length<=st.next) (hρ: ∀i,i<con.inS.objs.length->ρ' i=inR con ρ M i)
  (hT:TOK P T fk) {rs:List ResultVar} {vs ws:List (ET I.C)} {exS:StSh} {z:(exS.sl I).T} {y:(con.outS.sl I).T} {m m2:Mp} (hnd:(Eg rs).Nodup) (hvs:ni (inX con T fk x) st (Eg rs)=some vs)
  (hm:matC con.inS.objs.length (inX con T fk x) exS (Eg rs) vs st (Kl exS.objs con.inS.objs.length)=some (z,m))
  (hws:retE (inX con T fk x) (encS exS (Eg rs) (ig con.inS.objs.length exS.objs) z) rs=some ws)
  (hy:(con.outS.sl I).mat ws (lkO (inX con T fk x) (encS exS (Eg rs) (ig con.inS.objs.length exS.objs) z)) (selfs (con.outS.objs.map (·.1)))=some (y,m2))
  (hex:exOK con exS ws (lkO (inX con T fk x) (encS exS (Eg rs) (ig con.inS.objs.length exS.objs) z)) m2=true) {xx:Exit} (hx:xx= .normal\/xx= .ret):
  ∃e2 lh2,Sub nt e lh e2 lh2/\uE P rs nx con.k M get (valOf (((con.outS.sl I).enc y).1.map (trT ρ (hOut con ((con.inS.sl I).enc x).2 ((con.outS.sl I).enc y).2))))
   ((((con.outS.sl I).enc y).2.map fun o=>(ρ o.1,trO P ρ (hOut con ((con.inS.sl I).enc x).2 ((con.outS.sl I).enc y).2) o.2))++
    ((con.inS.objs.filter fun o=> !(memN o.1 con.cst||memN o.1 (con.outS.objs.map (·.1)))).map fun o=>(ρ o.1,none))) xx e2 lh2:=by
 have hw:=wfIn hI hwf x;have hwf0:=hwf;generalize hp:con.inS.objs.length=p at*;simp only[Ei,Ca]at hwf;obtain⟨⟨⟨⟨⟨⟨⟨c1,c2⟩,c3⟩,c4⟩,c5⟩,c6⟩,c7⟩,c8⟩:=hwf;rw[hp]at c1 c4 c5 c6;have hik:=mq c1;have hok:=mq c6;have hcst:=QA.1 c4;have hond:(con.outS.objs.map (·.1)).Nodup:=by simpa using c7
 simp only[wfSt,Ca]at c3;have w1:=QA.1 c3.1;have w2:=QA.1 c3.2
 -- the numbers of what comes out
 have hout: ∀i∈con.outS.objs.map (·.1),i<p+con.k:=by
  intro i hi;rcases Lc i p with h|h
  ·omega
  ·have:i∈(con.outS.objs.map (·.1)).filter fun i=> !(Nat.blt i p):=Gd.2 ⟨hi,by
    cases hb:Nat.blt i p with
    |false=>rfl
    |true=>exact absurd (ZJ.1 hb) (by omega)⟩
   grind
 have hnewout: ∀j,j<con.k->p+j∈con.outS.objs.map (·.1):=by intro j hj;have:p+j∈List.range' p con.k:=List.mem_range'_1.2 ⟨by omega,by omega⟩;rw[<-hok]at this;exact(Gd.1 this).1
 have hcp: ∀i∈con.cst,i<p:=fun i hi=>by
  grind
 have houtp: ∀i∈con.outS.objs.map (·.1),i<p->i ∉ con.cst/\ ∀s,(i,s)∈con.outS.objs->Mh s=false/\ ∃s',lk con.inS.objs i=some s'/\Mh s'=false:=by
  intro i hi hip;have key: ∀s,(i,s)∈con.outS.objs->i ∉ con.cst/\Mh s=false/\ ∃s',lk con.inS.objs i=some s'/\Mh s'=false:=by
   intro s hs;have:=Ta.1 c5 _ hs;simp only[ZJ.2 hip,Ea,Ca]at this;obtain⟨⟨q1,q2⟩,q3⟩:=this;refine⟨fun h=> ?_,by simpa using q2,?_⟩
   ·rw[ZB.2 h]at q1;cases q1
   ·grind
  obtain⟨⟨i',s⟩,hs,rfl⟩:=Ka.1 hi;exact⟨(key s hs).1,fun s hs=>(key s hs).2⟩
 -- the state seen anew
 have hck:rz p (inX con T fk x) exS (Eg rs) m=true:=by unfold matC at hm;obtain⟨⟨x',m'⟩,hmat,hm2⟩:=Ba.1 hm;obtain⟨hck,hm3⟩:=zk hm2;cases hm3;exact hck
 simp only[rz,Ca]at hck;obtain⟨⟨⟨⟨⟨⟨d1,d2⟩,d3⟩,d4⟩,d5⟩,d6⟩,d7⟩:=hck;have hself:InjM (Kl exS.objs p):=by
  have: ∀(l:List (Nat×OSh)) i a,lk (Kl l p) i=some (some a)->i=a:=by
   intro l
   induction l with
   |nil=>intro i a h;cases h
   |cons o r ih=>
    intro i a h;obtain⟨j,s⟩:=o;simp only[Kl]at h;cases hb:Nat.blt j p with
    |false=>grind
    |true=>
     rw[hb]at h;simp only[Ea]at h;rw[Zg]at h
     grind
  intro i j a h1 h2;rw[this _ i a h1,this _ j a h2]
 have hfrh:(inX con T fk x).frh=((con.inS.sl I).enc x).2.filter fun o=>memN o.1 con.cst:=rfl;obtain⟨ρ2,e2,lh2,ss,v2,hr2⟩:=Aw (nt:=nt) (n:=ig p exS.objs) hI hv hvs hself hm (fun i hi=>Ht _ _ i hi) (fun t y h=>by cases h) (fun i o h=>by
  rw[hfrh,El (fun i=>memN i con.cst)]at h;split at h
  ·have:=(ry hw).1 ⟨o,h⟩;rw[hp]at this;exact⟨Xb this (Ck _ _),EG (Ck _ _) (Rz fun i hi=>by have:=hw.r2 _ (Zc h) i hi;rwa [hp]at this)⟩
  ·cases h) hn (Ck _ _)
 refine⟨e2,lh2,ss,?_⟩;have hr: ∀i,i<p->ρ2 i=ρ i:=fun i hi=>by
  rw[hr2 i hi,hρ i hi];unfold inR
  grind
 obtain⟨L0,_⟩:=Sn (P:=P) hI exS;have hkeys:=L0 z;obtain⟨M0,M1⟩:=Sn (P:=P) hI con.outS;have okeys:=M0 y;obtain⟨_,_,klen,kv,ko⟩:=M1 _ _ _ _ _ hy;have hkind:=Hm (I:=I) exS z;have okind:=Hm (I:=I) con.outS y;simp only[exOK,Ca]at hex;obtain⟨⟨⟨⟨x1,x2⟩,x3⟩,x4⟩,x5⟩:=hex;have hsub:=QA.1 x1;have hexs: ∀i∈exS.objs.map (·.1),i ∉ con.cst/\(i<p->i∈con.outS.objs.map (·.1)):=by
  intro i hi;obtain⟨q,hq,rfl⟩:=Ka.1 hi;have:=Ta.1 x2 _ hq;rw[Ca,Tc]at this;refine⟨fun h=> ?_,fun h=> ?_⟩
  ·rw[ZB.2 h]at this;cases this.1
  ·rcases this.2 with h2|h2
   ·exact ZB.1 h2
   ·rw[hp,ZJ.2 h]at h2;cases h2
 have hwr:=QA.1 x4;generalize hstc:encS exS (Eg rs) (ig p exS.objs) z=stc at*;generalize hb:(exS.sl I).enc z=b at*;have stE:stc.env=mh (Eg rs) b.1:=by rw[<-hstc];simp only[encS,hb]
 have stH:stc.heap=b.2:=by rw[<-hstc];simp only[encS,hb]
 generalize ha:((con.inS.sl I).enc x)=a at*;generalize hB:((con.outS.sl I).enc y)=B at*;have hC: ∀i,lkO (inX con T fk x) stc i=(if i∈exS.objs.map (·.1)then lk b.2 i else if memN i con.cst=true then lk a.2 i else none):=by
  intro i;unfold lkO;rw[stH];by_cases hi:i∈exS.objs.map (·.1)
  ·grind
  ·rw[Ga hi,Sv (l:=b.2) (fun o ho e=>hi (by rw[<-hkeys];exact Ka.2 ⟨o,ho,e⟩))];simp only;rw[hfrh,El (fun i=>memN i con.cst)]
 generalize hX:inX con T fk x=X at*;have par: ∀i,i<p-> ∃o ob,lk a.2 i=some o/\get (ρ i)=some ob/\trO P ρ (lk a.2) o=some ob:=by intro i hi;obtain⟨o,ho⟩:=(ry hw).2 (by rw[hp];exact hi);obtain⟨ob,hob⟩:=ny (P:=P) hI (ρ:=ρ) (h:=lk a.2) ho;rw[ha]at ho;exact⟨o,ob,ho,hrd (ρ i,ob) (Xd.2 ⟨(i,o),Zc ho,by rw[hob];rfl⟩),hob⟩
 have parlt: ∀i,i<p->ρ i<M:=fun i hi=>by obtain⟨o,ob,_,h,_⟩:=par i hi;exact hget _ _ h
 have hobjO: ∀i∈con.outS.objs.map (·.1),∃o,lkO X stc i=some o/\ ∀j∈yh o,(j∈con.outS.objs.map (·.1)\/j∈con.cst):=by
  intro i hi;have:=Ta.1 x5 i hi;cases hl:lkO X stc i with
  |none=>rw[hl]at this;cases this
  |some o=> rw[hl]at this;exact⟨o,rfl,fun j hj=>Vb.1 (QA.1 this j hj)⟩
 have obj: ∀i,(i∈con.outS.objs.map (·.1)\/i∈con.cst)-> ∃o ob,lkO X stc i=some o/\trO P ρ2 (lkO X stc) o=some ob/\lh2.get (ρ2 i)=some ob:=by
  intro i hi;by_cases ho:i∈con.outS.objs.map (·.1)
  ·obtain⟨o,h1,_⟩:=hobjO i ho;have h2:=h1;rw[hC,La (hsub i ho)]at h2;have: ∃ob,trO P ρ2 (lkO X stc) o=some ob:=by
    obtain⟨s,_,⟨t,c,e,_⟩|⟨ty,cs,e,_⟩|⟨_,_,_,_,_,_,e⟩⟩:=hkind _ (Zc h2)
    ·simp only at e;subst e;exact⟨_,rfl⟩
    ·simp only at e;subst e;exact⟨_,rfl⟩
    ·simp only at e;subst e;exact⟨_,rfl⟩
   obtain⟨ob,hob⟩:=this;exact⟨o,ob,h1,hob,by rw[v2.heap i o h1,hob]⟩
  ·have hc:=hi.resolve_left ho;obtain⟨o,ob,h,_⟩:=par i (hcp i hc);have h1:lkO X stc i=some o:=by rw[hC,Ga (fun h=>(hexs i h).1 hc),La (ZB.2 hc),h]
   obtain⟨ob,hob⟩:=ny (P:=P) hI (x:=x) (ρ:=ρ2) (h:=lkO X stc) (by rw[ha];exact h);exact⟨o,ob,h1,hob,by rw[v2.heap i o h1,hob]⟩
 have inj2: ∀i j,(i∈con.outS.objs.map (·.1)\/i∈con.cst)->(j∈con.outS.objs.map (·.1)\/j∈con.cst)->ρ2 i=ρ2 j->i=j:=by intro i j hi hj e;obtain⟨o,_,h1,_⟩:=obj i hi;obtain⟨o',_,h2,_⟩:=obj j hj;exact v2.inj i j o o' h1 h2 e
 have mem_hs: ∀i,i∈(List.range con.k).map (fun j=>ρ2 (p+j))↔ ∃j,j<con.k/\ρ2 (p+j)=i:=fun i=>by simp[Ka]
 have rn: ∀i,(i∈con.outS.objs.map (·.1)\/i∈con.cst)->rnI ((List.range con.k).map fun j=>ρ2 (p+j)) nx (ρ2 i)=ρ i/\(ρ2 i∈(List.range con.k).map (fun j=>ρ2 (p+j))\/ρ2 i<M):=by
  intro i hi;rcases Lc i p with h|h
  ·refine⟨?_, .inr (by rw[hr i h];exact parlt i h)⟩;rw[zCo,hr i h];intro hm;obtain⟨j,hj,e⟩:=(mem_hs _).1 hm;have:=inj2 _ _ (.inl (hnewout j hj)) hi e;omega
  ·have hi':i∈con.outS.objs.map (·.1):=hi.resolve_right fun hc=>by have:=hcp i hc;omega
   have hik:=hout i hi';have e:i=p+(i - p):=by omega
   refine⟨?_, .inl ((mem_hs _).2 ⟨i - p,by omega,by rw[<-e]⟩)⟩;have:=zDE (f:=fun j=>ρ2 (p+j)) (k:=con.k) (nx:=nx) (i:=i - p) (fun j hj e'=>by
    have:=inj2 _ _ (.inl (hnewout j hj)) (.inl (hnewout (i - p) (by omega))) e';omega) (by omega)
   rw[<-e]at this;rw[this,<-hnew (i - p),<-e]
 have refs1: ∀t∈ws,∀i∈Ql t,(i∈con.outS.objs.map (·.1)\/i∈con.cst):=fun t ht i hi=>Vb.1 (hwr i (Ib.2 ⟨t,ht,hi⟩));have hnew': ∀i,p<=i->ρ i=nx+(i - p):=fun i hi=>by
  have:=hnew (i - p)
  rwa [show p+(i - p)=i by omega]at this
 have ρk: ∀i j,i<p+con.k->j<p+con.k->ρ i=ρ j->i=j:=by
  intro i j hi hj e;rcases Lc i p with h|h<;>rcases Lc j p with h'|h'
  ·exact hinj i j h h' e
  ·rw[hnew' j h']at e;rcases hlt i h with h2|h2<;>omega
  ·rw[hnew' i h]at e;rcases hlt j h' with h2|h2<;>omega
  ·rw[hnew' i h,hnew' j h']at e;omega
 generalize hL:(con.outS.objs.map (·.1)).map (fun i=>(i,i))=L at*;have hLk: ∀i,i∈con.outS.objs.map (·.1)->lk L i=some i:=by intro i hi;obtain⟨j,hj⟩:=Zi (l:=L) (i:=i) (by rw[<-hL,Ob];simpa using hi);have:=Zc hj;rw[<-hL]at this;obtain⟨j',_,e⟩:=Ka.1 this;injection e with e1 e2;rw[hj,<-e2,e1]
 have hLm: ∀q∈L,q.1∈con.outS.objs.map (·.1):=by intro q hq;rw[<-hL]at hq;obtain⟨j',h,e⟩:=Ka.1 hq;rw[<-e];exact h
 generalize hgone:(con.inS.objs.filter fun o=> !(memN o.1 con.cst||memN o.1 (con.outS.objs.map (·.1))))=gone at*;have gin: ∀i,i∈gone.map (·.1)↔(i<p/\i ∉ con.outS.objs.map (·.1)/\i ∉ con.cst):=by
  intro i;rw[<-hgone];constructor
  ·intro h;obtain⟨q,hq,rfl⟩:=Ka.1 h;obtain⟨hq1,hq2⟩:=Gd.1 hq;have:q.1∈con.inS.objs.map (·.1):=Ka.2 ⟨q,hq1,rfl⟩;rw[hik]at this;refine⟨Kc.1 this,fun h=> ?_,fun h=> ?_⟩
   ·rw[ZB.2 h]at hq2;simp at hq2
   ·rw[ZB.2 h]at hq2;simp at hq2
  ·intro ⟨hi,h1,h2⟩;have:i∈con.inS.objs.map (·.1):=by rw[hik];exact Kc.2 hi
   obtain⟨q,hq,rfl⟩:=Ka.1 this;refine Ka.2 ⟨q,Gd.2 ⟨hq,?_⟩,rfl⟩;cases m1:memN q.1 con.cst with
   |true=>exact absurd (ZB.1 m1) h2
   |false=>
    cases m2:memN q.1 (con.outS.objs.map (·.1))with
    |true=>exact absurd (ZB.1 m2) h1
    |false=>rfl
 -- updates of any such form
 have upG: ∀{α:Type} (l:List (Nat×α)) (g:α->Option OB),(∀i,i∈l.map (·.1)↔i∈con.outS.objs.map (·.1))->
   (∀i o,lk l i=some o->upd get ((l.map fun q=>(ρ q.1,g q.2))++gone.map fun o=>(ρ o.1,none)) (ρ i)=g o)/\
   (∀i,i<p->i ∉ con.outS.objs.map (·.1)->i ∉ con.cst->upd get ((l.map fun q=>(ρ q.1,g q.2))++gone.map fun o=>(ρ o.1,none)) (ρ i)=none)/\
   ∀id,(∀i∈con.outS.objs.map (·.1),ρ i≠id)->(∀i,i<p->i ∉ con.outS.objs.map (·.1)->i ∉ con.cst->ρ i≠id)->upd get ((l.map fun q=>(ρ q.1,g q.2))++gone.map fun o=>(ρ o.1,none)) id=get id:=by
  intro α l g hl;have outA: ∀id,(∀i∈con.outS.objs.map (·.1),ρ i≠id)->id ∉ (l.map fun q=>(ρ q.1,g q.2)).map (·.1):=by intro id h hm;rw[Ob]at hm;obtain⟨q,hq,e⟩:=Ka.1 hm;exact h q.1 ((hl q.1).1 (Ka.2 ⟨q,hq,rfl⟩)) e
  refine⟨fun i o ho=> ?_,fun i hi h1 h2=> ?_,fun id h1 h2=> ?_⟩
  ·rw[Xx];exact IG (f:=ρ) (g:=g) (fun q hq e=>ρk _ _ (hout _ ((hl q.1).1 (Ka.2 ⟨q,hq,rfl⟩))) (hout _ ((hl i).1 (Ka.2 ⟨_,Zc ho,rfl⟩))) e) ho
  ·rw[Xx,ai (outA _ fun j hj e=>h1 (by rw[<-ρk j i (hout j hj) (by omega) e];exact hj))];obtain⟨s,hs⟩:=Zi ((gin i).2 ⟨hi,h1,h2⟩);exact IG (f:=ρ) (g:=fun _=>none) (fun q hq e=>hinj _ _ ((gin q.1).1 (Ka.2 ⟨q,hq,rfl⟩)).1 hi e) hs
  ·rw[Xx,ai (outA _ h1),ai];intro hm;rw[Ob]at hm;obtain⟨q,hq,e⟩:=Ka.1 hm;obtain⟨g1,g2,g3⟩:=(gin q.1).1 (Ka.2 ⟨q,hq,rfl⟩);exact h2 q.1 g1 g2 g3 e
 obtain⟨upA,upB,upC⟩:=upG L (fun i=>(lkO X stc i).bind (trO P ρ (lkO X stc))) (fun i=>by rw[<-hL,Ob];simp);obtain⟨upA',upB',upC'⟩:=upG B.2 (trO P ρ (hOut con a.2 B.2)) (fun i=>by rw[okeys]);have x3':=x3;have hmem2: ∀i z,lk m2 i=some z->z=some i/\(i∈con.outS.objs.map (·.1)\/i∈con.cst):=by
  intro i z hz;have:=Ta.1 x3'.2 _ (Zc hz);rw[Ca]at this;obtain⟨q1,q2⟩:=this;refine⟨?_,Vb.1 (ZB.1 q2)⟩;simp only[isSelf,hz]at q1;cases z with
  |none=>cases q1
  |some a=>rw[Cb q1]
 have infE_lk: ∀(h:Nat->Option (EO I.C)) i o,h i=some o->infO h i=infE o:=by intro h i o ho;unfold infO;rw[ho];cases o<;>rfl
 have hCc: ∀i,i∈con.cst->lkO X stc i=lk a.2 i:=fun i hi=>by rw[hC,Ga (fun h=>(hexs i h).1 hi),La (ZB.2 hi)]
 have hcO: ∀i,i∈con.cst->i ∉ con.outS.objs.map (·.1):=fun i hi h=>(hexs i (hsub i h)).1 hi;have hOc: ∀i,i∈con.cst->hOut con a.2 B.2 i=lk a.2 i:=by intro i hi;unfold hOut;rw[Sv (l:=B.2) (fun o ho' e=>hcO i hi (by rw[<-okeys];exact Ka.2 ⟨o,ho',e⟩))];obtain⟨o,ob,h,_⟩:=par i (hcp i hi);simp only[h,ZB.2 hi,Ea]
 have outO: ∀i∈con.outS.objs.map (·.1),∃o o',lkO X stc i=some o/\lk B.2 i=some o'/\infE o=infE o'/\ ∀ρ ρ' h h' Z,Cmp ρ ρ' h h' Z m2-> ∃ob ob',trO P ρ h o=some ob/\trO P ρ' h' o'=some ob'/\WkOZ Z ob ob':=by
  intro i hi;obtain⟨o',ho'⟩:=Zi (l:=B.2) (i:=i) (by rw[okeys];exact hi);rcases ko i o' (Zc ho')with⟨a',o,q1,q2,q3,_,_,q6⟩|⟨q1,_⟩
  ·have:=(hmem2 i _ q1).1;cases this;exact⟨o,o',q2,ho',q3,q6⟩
  ·have:=(hmem2 i _ q1).1;cases this
 have hCmp:Cmp ρ ρ (lkO X stc) (hOut con a.2 B.2) NoZ m2:=by
  intro i z hz;obtain⟨rfl,hi⟩:=hmem2 i z hz;refine⟨rfl,?_⟩;by_cases ho:i∈con.outS.objs.map (·.1)
  ·obtain⟨o,o',q1,q2,q3,_⟩:=outO i ho;rw[infE_lk _ i o q1,infE_lk (hOut con a.2 B.2) i o' (by unfold hOut;rw[q2]),q3]
  ·have hc:=hi.resolve_left ho;exact kL (by rw[hOc i hc,hCc i hc])
 have hG: ∀id,(∀i,i<p->ρ i≠id)->inG con ρ get id=get id:=by intro id h;unfold inG;rw[hp,Ga];intro ⟨j,h1,h2⟩;exact h j h1 h2
 have oks: ∀i,(i∈con.outS.objs.map (·.1)\/i∈con.cst)->(rnI ((List.range con.k).map fun j=>ρ2 (p+j)) nx (ρ2 i)=ρ i/\infO (lkO X stc) i=infO (lkO X stc) i)/\(ρ2 i∈(List.range con.k).map (fun j=>ρ2 (p+j))\/ρ2 i<M):=
  fun i hi=>⟨⟨(rn i hi).1,rfl⟩,(rn i hi).2⟩
 have upA2: ∀i∈con.outS.objs.map (·.1),∀o,lkO X stc i=some o->upd get ((L.map fun q=>(ρ q.1,(lkO X stc q.2).bind (trO P ρ (lkO X stc))))++gone.map fun o=>(ρ o.1,none)) (ρ i)=trO P ρ (lkO X stc) o:=by intro i hi o ho;rw[upA i i (hLk i hi),ho];rfl
 refine⟨ws.map (trT ρ (lkO X stc)),B.1.map (trT ρ (hOut con a.2 B.2)),(L.map fun q=>(ρ q.1,(lkO X stc q.2).bind (trO P ρ (lkO X stc))))++gone.map fun o=>(ρ o.1,none),⟨hx,(List.range con.k).map (fun j=>ρ2 (p+j)),ws.map (trT ρ2 (lkO X stc)),by simp,?_,fun i hi=> ?_,?_,fun t ht=> ?_,?_,⟨fun j hj=> ?_,fun id o1 ho1=> ?_⟩⟩,rfl,by rw[Xa,Xa,klen],fun j v v' h1 h2=> ?_,fun id=> ?_⟩
 ·rw[List.Nodup,List.pairwise_map];refine List.Pairwise.imp_of_mem (fun {i j} hi hj hne e=>hne ?_) List.nodup_range;have:=inj2 _ _ (.inl (hnewout i (Kc.1 hi))) (.inl (hnewout j (Kc.1 hj))) e;omega
 ·obtain⟨j,hj,rfl⟩:=(mem_hs i).1 hi;obtain⟨o,ob,h1,h2,h3⟩:=obj (p+j) (.inl (hnewout j hj));cases hg:get (ρ2 (p+j))with
  |none=>exact .inr (.inr ⟨rfl,_,h3⟩)
  |some o0=>
   by_cases hex: ∃i,i<p/\ρ i=ρ2 (p+j)
   ·obtain⟨i,hi1,hi2⟩:=hex;have hni: ¬(i∈con.outS.objs.map (·.1)\/i∈con.cst):=fun h=>by have:=inj2 _ _ h (.inl (hnewout j hj)) (by rw[hr i hi1];exact hi2);omega
    refine .inr (.inl ?_);rw[<-hi2];exact upB i hi1 (fun h=>hni (.inl h)) (fun h=>hni (.inr h))
   ·exfalso;have:=hG (ρ2 (p+j)) fun i h1 h2=>hex ⟨i,h1,h2⟩;exact(v2.oth (ρ2 (p+j)) (by rw[this,hg];simp)).2 (p+j) o h1 rfl
 ·have hTX:TOK P X.T X.fk:=by rw[<-hX];exact hT
  refine NB hTX v2 rs (YE (fun t y h=> ?_) rs hws) hws;unfold lkE at h;rw[stE]at h;cases hl:lk (mh (Eg rs) b.1) t with
  |some y'=>rw[hl]at h;cases h;exact WL hl
  |none=> rw[hl,<-hX]at h;cases h
 ·obtain⟨v0,hv0,rfl⟩:=Ka.1 ht;exact uW (Q:=fun i=>i∈(List.range con.k).map (fun j=>ρ2 (p+j))\/i<M) fun i hi=>(oks i (refs1 v0 hv0 i hi)).2
 ·rw[Ob];congr 1;exact Na fun t ht=>(zDF fun i hi=>(oks i (refs1 t ht i hi)).1).symm
 ·have hj':j<con.k:=by simpa using hj
  obtain⟨o,ob,h1,h2,h3⟩:=obj (p+j) (.inl (hnewout j hj'));obtain⟨o'',g1,g2⟩:=hobjO (p+j) (hnewout j hj');rw[h1]at g1;cases g1;have:=(jV (Q:=fun i=>i∈(List.range con.k).map (fun j=>ρ2 (p+j))\/i<M) (fun i hi=>oks i (g2 i hi)) h2).1;rw[<-hnew j,upA2 _ (hnewout j hj') o h1,this];rfl
 ·by_cases hA: ∃i,i∈con.outS.objs.map (·.1)/\ρ i=id
  ·obtain⟨i,hi,rfl⟩:=hA;obtain⟨o,ob,h1,h2,h3⟩:=obj i (.inl hi);obtain⟨o'',g1,g2⟩:=hobjO i hi;rw[h1]at g1;cases g1;obtain⟨q1,q2⟩:=jV (Q:=fun i=>i∈(List.range con.k).map (fun j=>ρ2 (p+j))\/i<M) (fun i hi=>oks i (g2 i hi)) h2;rw[upA2 i hi o h1,q1]at ho1;cases ho1;rcases Lc i p with h|h
   ·obtain⟨_,o0,_,g1,_⟩:=par i h;rw[hr i h]at h3;exact .inr ⟨o0,ob,g1,h3, .inr ⟨rfl,q2⟩⟩
   ·refine .inl ⟨i - p,ρ2 i,ob,?_,hnew' i h,h3,rfl,q2⟩;have:=hout i hi;rw[Ua,List.getElem?_range (by omega)];simp only[Pb];rw[show p+(i - p)=i by omega]
  ·have nA: ∀i∈con.outS.objs.map (·.1),ρ i≠id:=fun i hi e=>hA ⟨i,hi,e⟩;by_cases hB: ∃i,i<p/\i ∉ con.cst/\ρ i=id
   ·obtain⟨i,h1,h2,rfl⟩:=hB;rw[upB i h1 (fun h=>nA i h rfl) h2]at ho1;cases ho1
   ·rw[upC id nA (fun i h1 _ h2 e=>hB ⟨i,h1,h2,e⟩)]at ho1;refine .inr ⟨o1,o1,ho1,?_, .inl ⟨rfl,rfl⟩⟩;by_cases hP: ∃i,i<p/\ρ i=id
    ·obtain⟨i,hi,rfl⟩:=hP;have hc:i∈con.cst:=Classical.byContradiction fun h=>hB ⟨i,hi,h,rfl⟩;obtain⟨o,ob,g1,g2,g3⟩:=par i hi;have hno:i ∉ con.outS.objs.map (·.1):=fun h=>nA i h rfl;have h1:lkO X stc i=some o:=by rw[hCc i hc,g1]
     have:=v2.heap i o h1;rw[hr i hi]at this;rw[this];rw[g2]at ho1;cases ho1;rw[<-g3];have hfi:lk X.frh i=some o:=by rw[hfrh,El (fun i=>memN i con.cst),La (ZB.2 hc),g1]
     have hall:=Ta.1 (Ta.1 d7 _ (Zc hfi));have same: ∀i'∈yh o,ρ2 i'=ρ i'/\infO (lkO X stc) i'=infO (lk a.2) i':=by
      intro i' hi';have hlt':i'<p:=by
       have g1':=g1;rw[<-ha]at g1';have:=hw.r2 _ (Zc g1') i' hi'
       rwa [hp]at this
      refine⟨hr i' hlt',?_⟩;by_cases ho':i'∈con.outS.objs.map (·.1)
      ·-- its cells may be others, but it is no slice
       obtain⟨_,hk⟩:=houtp i' ho' hlt';obtain⟨o1,o',r1,hb',r3,_⟩:=outO i' ho';obtain⟨s,hs,hs'⟩:=okind _ (Zc hb');obtain⟨k1,s',k2,k3⟩:=hk s hs;obtain⟨oa,oab,f1,_,_⟩:=par i' hlt';have:infO (lk a.2) i'=none:=by
        have f1':=f1;rw[<-ha]at f1';obtain⟨sa,hsa,hsb⟩:=Hm con.inS x _ (Zc f1');have hnd:(con.inS.objs.map (·.1)).Nodup:=by rw[hik];exact List.nodup_range
        have:sa=s':=by have:=Dl hnd hsa;simp only at this;rw[k2]at this;cases this;rfl
        subst this;rcases hsb with⟨t,c,e,e2⟩|⟨ty,cs,e,e2⟩|⟨_,_,_,_,_,e2,_⟩
        rotate_right
        ·rw[e2]at k3;cases k3
        ·rw[k3]at e2;cases e2
        ·simp only at e;subst e;unfold infO;rw[f1]
       rw[this,infE_lk _ i' o1 r1,r3];rcases hs' with⟨t,c,e,e2⟩|⟨ty,cs,e,e2⟩|⟨_,_,_,_,_,e2,_⟩
       ·rw[k1]at e2;cases e2
       ·simp only at e;subst e;rfl
       ·rw[e2]at k1;cases k1
      ·have h3:=hall i' hi';rw[Tc,Ca]at h3;rcases h3 with⟨h3,_⟩|h3
       ·exact absurd ((hexs i' (ZB.1 h3)).2 hlt') ho'
       ·cases hf:lk X.frh i' with
        |none=>rw[hf]at h3;cases h3
        |some of=>
         rw[hfrh,El (fun i=>memN i con.cst)]at hf;split at hf
         ·rename_i hmc;exact kL (hCc i' (ZB.1 hmc))
         ·cases hf
     cases o with
     |cells ty cs=> simp only[trO];rw[Na fun v hv=>Em fun i hi=>same i (Ib.2 ⟨v,hv,hi⟩)]
     |slo t l1 cs l2=> simp only[trO];rw[Na fun v hv=>Em fun i hi=>same i (Ib.2 ⟨v,hv,hi⟩)]
     |_=>rfl
    ·have nP: ∀i,i<p->ρ i≠id:=fun i h1 h2=>hP ⟨i,h1,h2⟩;have:=(v2.oth id (by rw[hG id nP,ho1];simp)).1;rw[this,hG id nP,ho1]
 ·rw[Ua]at h1 h2;cases hj:ws[j]? with
  |none=>rw[hj]at h1;cases h1
  |some w0=>
   cases hj2:B.1[j]? with
   |none=>rw[hj2]at h2;cases h2
   |some b0=> rw[hj]at h1;rw[hj2]at h2;cases h1;cases h2;exact kv ρ ρ _ _ NoZ hCmp j w0 b0 hj hj2
 ·by_cases hA: ∃i,i∈con.outS.objs.map (·.1)/\ρ i=id
  ·obtain⟨i,hi,rfl⟩:=hA;obtain⟨o,o',q1,q2,q3,q4⟩:=outO i hi;obtain⟨ob,ob',g1,g2,g3⟩:=q4 ρ ρ _ _ NoZ hCmp;exact .inr ⟨ob,ob',by rw[upA2 i hi o q1,g1],by rw[upA' i o' q2,g2],g3⟩
  ·have nA: ∀i∈con.outS.objs.map (·.1),ρ i≠id:=fun i hi e=>hA ⟨i,hi,e⟩;by_cases hB: ∃i,i<p/\i ∉ con.cst/\ρ i=id
   ·obtain⟨i,h1,h2,rfl⟩:=hB;exact .inl ⟨upB i h1 (fun h=>nA i h rfl) h2,upB' i h1 (fun h=>nA i h rfl) h2⟩
   ·have e1:=upC id nA (fun i h1 _ h2 e=>hB ⟨i,h1,h2,e⟩);have e2:=upC' id nA (fun i h1 _ h2 e=>hB ⟨i,h1,h2,e⟩);cases hg:get id with
    |none=>exact .inl ⟨by rw[e1,hg],by rw[e2,hg]⟩
    |some o=>exact .inr ⟨o,o,by rw[e1,hg],by rw[e2,hg],WkOZ.refl o⟩
theorem zn8 (u:P.follows .mixedOrders=true) (H:IpOK P I) {A:Env0 I} (hS: ∀c∈A.S,zn P c) {con:Con I} (g:Ei con=true) {fn:Func} {c:Code} {rs:List ResultVar} {T:TT} {a:List (Nat×List Kd)} {exS:StSh} (U:TOK P T a)
  (hf:P.funcs[con.f]? =some fn) (hb:fn.body=some c) (B:fn.results=rs.toArray) (e:(fn.name== "runtime.NumGoroutine")=false) (J:A.p=con.inS.objs.length) (s: ∀x,((con.inS.sl I).enc x).1.length<=fn.ntmps)
  (Z: ∀x y,con.F x=some y->evF2 A T a fn.ntmps rs c con exS x=some y):zn P con:=by
 refine⟨g,fun x y Q ρ Y d E n=> ?_⟩;refine zn2 hf hb B rfl e (by rw[Xa];exact s x) fun get M hM b v=> ?_;have K:=Z x y Q;have hv:=zBM (P:=P) H g x T a (ρ:=ρ) (M:=M) (get:=get) d (fun id o L=>(b id o L).1) v;have G:=IZ (nt:=fn.ntmps) u H hS c (X:=inX con T a x) U K hv (by rw[J];exact Ya _);refine SW.post G fun l e' C ⟨a0,w,D,h2,h3,h4⟩=> ?_;have fin: ∀{l:Exit},(l= .normal\/l= .ret)->(optB (ni (inX con T a x) w (Eg rs)) fun V=>(matC con.inS.objs.length (inX con T a x) exS (Eg rs) V w (Kl exS.objs con.inS.objs.length)).bind fun q=>
   optB (retE (inX con T a x) (encS exS (Eg rs) (ig con.inS.objs.length exS.objs) q.1) rs) fun R=>((con.outS.sl I).mat R (lkO (inX con T a x) (encS exS (Eg rs) (ig con.inS.objs.length exS.objs) q.1)) (selfs (con.outS.objs.map (·.1)))).bind fun r=>
    cond (Fq (Eg rs)&&exOK con exS R (lkO (inX con T a x) (encS exS (Eg rs) (ig con.inS.objs.length exS.objs) q.1)) r.2) (some r.1) none)=some y->
   ∃W t,Sub fn.ntmps e' C W t/\uE P rs Y con.k M get (valOf (((con.outS.sl I).enc y).1.map (trT ρ (hOut con ((con.inS.sl I).enc x).2 ((con.outS.sl I).enc y).2))))
   ((((con.outS.sl I).enc y).2.map fun o=>(ρ o.1,trO P ρ (hOut con ((con.inS.sl I).enc x).2 ((con.outS.sl I).enc y).2) o.2))++
    ((con.inS.objs.filter fun o=> !(memN o.1 con.cst||memN o.1 (con.outS.objs.map (·.1)))).map fun o=>(ρ o.1,none))) l W t:=by
  intro l hx h;obtain⟨V,q3,q4⟩:=Ak h;obtain⟨⟨z,m⟩,q5,q6⟩:=Ba.1 q4;obtain⟨R,q7,q8⟩:=Ak q6;obtain⟨⟨y',m2⟩,q9,N⟩:=Ba.1 q8;obtain⟨j,O⟩:=zk N;cases O;rw[Ca]at j;exact UY H g x d E n hM (fun id o L=>(b id o L).1) v h2 (by rw[<-J];exact h3) (fun i hi=>h4 i (by rw[J];exact hi)) U (OI j.1) q3 q5 q7 q9 j.2 hx
 cases l with
 |normal=>exact fin (.inl rfl) D
 |ret=>exact fin (.inr rfl) D
 |_=>cases D
end
end Go.Lv
