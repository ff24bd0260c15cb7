/- That the evaluator is right: states seen anew (forgotten, frozen, numbered anew). -/
import Derived.Test.YtcdeccnjlkkejaaGreatDoorLd
set_option linter.unusedSimpArgs false
set_option linter.unusedVariables false
namespace Go.Lv
section
variable {nt:Nat}
def RcC(Z:Nat->Prop)(get:Get)(D:Nat->Prop)(x y:CV):Prop:=WkZ Z x y\/ ∃p,y= .p p/\Fz get D x p
inductive RcT (Z:Nat->Prop) (get:Get) (D:Nat->Prop):TV->TV->Prop where
 |c (x y:CV) (h:RcC Z get D x y):RcT Z get D (.c x) (.c y)
 |agg (xs ys:List CV) (hl:ys.length=xs.length) (h: ∀(j:Nat) x y,xs[j]? =some x->ys[j]? =some y->RcC Z get D x y):RcT Z get D (.agg xs) (.agg ys)
inductive RcL (Z:Nat->Prop) (get:Get) (D:Nat->Prop):LV->LV->Prop where
 |any (x:LV):RcL Z get D x .any
 |v (x y:TV) (h:RcT Z get D x y):RcL Z get D (.v x) (.v y)
 |opt (g:Bool) (x y:TV) (h:RcT Z get D x y):RcL Z get D (.opt g x) (.opt g y)
 |tup (xs ys:List TV) (hl:ys.length=xs.length) (h: ∀(j:Nat) x y,xs[j]? =some x->ys[j]? =some y->RcT Z get D x y):RcL Z get D (.tup xs) (.tup ys)
structure RcO (Z:Nat->Prop) (get:Get) (D:Nat->Prop) (o o2:OB):Prop where
 ty:o2.ty=o.ty
 k:o2.k=o.k
 len:o2.rows.length=o.rows.length
 row: ∀(i:Nat) row row2,o.rows[i]? =some row->o2.rows[i]? =some row2->row2.length=row.length/\ ∀(j:Nat) x y,row[j]? =some x->row2[j]? =some y->RcC Z get D x y
 raw:o2.raw=o.raw
theorem RcC.refl{Z:Nat->Prop}{get:Get}{D:Nat->Prop}(x:CV):RcC Z get D x x:= .inl (WkZ.refl x)
theorem RcO.refl{Z:Nat->Prop}{get:Get}{D:Nat->Prop}(o:OB):RcO Z get D o o:=⟨rfl,rfl,rfl,fun i row row2 h1 h2=>by
 rw[h1]at h2;cases h2;exact⟨rfl,fun j x y h3 h4=>by rw[h3]at h4;cases h4;exact RcC.refl x⟩,rfl⟩
def rcA(ι:Asg)(Z:Nat->Prop)[DecidablePred Z](c:Get):Asg:=fun id=>match c id with
 |some o=>if Z id then .live none o.k else ι id
 |none=>match ι id with
  | .free=> .free
  |_=> .dead
open Classical in
theorem recast {e e2:Env} {lh lh2:LH} {Z:Nat->Prop} (Y:lh.next<=lh2.next) (hZ: ∀z,Z z->lh.next<=z/\z<lh2.next/\ ∃ty k,lh2.get z=some ⟨ty,k,[],none⟩)
  (a5: ∀id o2,lh2.get id=some o2-> ¬Z id-> ∃o,lh.get id=some o/\RcO Z lh.get (fun id=>lh2.get id=none) o o2)
  (a6: ∀t,RcL Z lh.get (fun id=>lh2.get id=none) (look e t) (look e2 t)):Sub nt e lh e2 lh2:=by
 intro ι a w J
 let d:Asg:=rcA ι Z lh2.get
 have W: ∀z,Z z->ι z= .free:=fun z f=>J.free z (hZ z f).1;have m: ∀id b k,d id= .live b k->(Z id/\b=none)\/(¬Z id/\(∃o,lh2.get id=some o)/\ι id= .live b k):=by
  intro id b k h;simp only[d,rcA]at h;cases B:lh2.get id with
  |none=>
   rw[B]at h;simp only at h;split at h<;>cases h
  |some o=>
   rw[B]at h;simp only at h;split at h
   ·rename_i f;injection h with h1 h2;exact .inl ⟨f,h1.symm⟩
   ·rename_i f;exact .inr ⟨f,⟨o,rfl⟩,h⟩
 have L: ∀id,ι id≠ .free->d id=ι id\/d id= .dead:=by
  intro id h;simp only[d,rcA];cases B:lh2.get id with
  |none=>
   cases hf:ι id with
   |free=>exact absurd hf h
   |dead=>exact .inr rfl
   |live b k=>exact .inr rfl
  |some o=>
   simp only;by_cases f:Z id
   ·exact absurd (W id f) h
   ·rw[Ha f];exact .inl rfl
 have V: ∀b,Dom ι w b->Dom d w b:=fun b hb=>⟨hb.1,fun id k h=>by
  rcases m id _ _ h with⟨_,h1⟩|⟨_,_,h1⟩
  ·cases h1
  ·exact hb.2 id k h1⟩
 have stp:Stp ι w d w:=⟨rfl,rfl,rfl,Va _,fun _ _ h=>h,V,fun _ _=>rfl,L⟩;have ab: ∀z,Z z-> ∃k,d z= .live none k:=by intro z f;obtain⟨_,_,ty,k,B⟩:=hZ z f;refine⟨k,?_⟩;simp only[d,rcA,B,La f]
 have conv: ∀x y v,RcC Z lh.get (fun id=>lh2.get id=none) x y->repC ι w x v->repC d w y v:=by
  intro x y v h r;rcases h with h|⟨p,rfl,h⟩
  ·exact h.rep ab (Qq stp r)
  ·refine Fz.sound J.rel V (fun id b k hd hl=>⟨J.rel.lt hl,fun a7 k' h'=> ?_⟩) h r;rcases m a7 _ _ h' with⟨_,h1⟩|⟨_,⟨o,ho⟩,h1⟩
   ·cases h1
   ·have:=J.rel.inj a7 id b _ _ h1 hl;subst a8;rw[hd]at ho;cases ho
 have A: ∀x y v,RcT Z lh.get (fun id=>lh2.get id=none) x y->repT ι w x v->repT d w y v:=by
  intro x y v h r;cases h with
  |c x y h=>exact⟨r.1,conv x y v h r.2⟩
  |agg xs ys hl h=>
   obtain⟨vs,h1,h2,h3⟩:=r;refine⟨vs,h1,by rw[h2,hl],fun j y U=> ?_⟩;have O:j<xs.length:=by rw[<-hl];exact(Fa.1 U).1
   have r:xs[j]? =some xs[j]:=Ma O;obtain⟨u,a1,a2,a3⟩:=h3 j _ r;exact⟨u,a1,a2,conv _ _ _ (h j _ y r U) a3⟩
 refine⟨d,⟨⟨fun id o2 ho=> ?_,fun id ho=> ?_,fun i j b k k' hi U=> ?_,J.rel.glob.step stp⟩,fun id hid=> ?_,⟨J.env.size,J.env.defers,fun t=> ?_⟩⟩,⟨stp,fun id hid hf=> ?_⟩,Y⟩
 ·by_cases f:Z id
  ·obtain⟨_,_,ty,k,B⟩:=hZ id f;rw[B]at ho;cases ho;refine⟨none,by simp only[d,rcA,B,La f],by simp, .inl ⟨rfl,rfl,rfl⟩⟩
  ·obtain⟨o,h1,h2⟩:=a5 id o2 ho f;obtain⟨b,l1,l2⟩:=J.rel.live id o h1;refine⟨b,by simp only[d,rcA,ho,Ha f];rw[l1,h2.k],?_⟩;obtain⟨g1,g2⟩:=l2;have rowAt: ∀(i:Nat) (row2:List CV),o2.rows[i]? =some row2-> ∃row,o.rows[i]? =some row:=by intro i row2 hi;have:=(Fa.1 hi).1;exact⟨_,Ma (by rw[<-h2.len];exact a8)⟩
   refine⟨fun row2 hr=> ?_,?_⟩
   ·obtain⟨i,hi,rfl⟩:=Oh hr;have a9:o2.rows[i]? =some o2.rows[i]:=Ma hi;obtain⟨row,hrow⟩:=rowAt i _ a9;rw[(h2.row i row _ hrow a9).1,h2.k];exact g1 row (Ua hrow)
   ·rcases g2 with⟨g0,g2,g3⟩|⟨g0,b',cur,fr,eb,g3,g4,g5,g6⟩|⟨g3,b',es,n,g4,eb,g5⟩
    ·exact .inl ⟨by rw[h2.raw,g0],g2,Xb (by rw[h2.len,g3];rfl)⟩
    rotate_left
    ·exact .inr (.inr ⟨Xb (by rw[h2.len,g3];rfl),b',es,n,by rw[h2.raw,g4],eb,g5⟩)
    ·refine .inr (.inl ⟨by rw[h2.raw,g0],b',cur,fr,eb,by rw[h2.ty];exact g3,g4,by rw[h2.len,h2.k];exact g5,fun i row2 j y hi U=> ?_⟩);obtain⟨row,hrow⟩:=rowAt i row2 hi;obtain⟨l1,l2⟩:=h2.row i row row2 hrow hi;have O:j<row.length:=by rw[<-l1];exact(Fa.1 U).1
     have r:row[j]? =some row[j]:=Ma O;obtain⟨v,a1,a2,a3⟩:=g6 i row j _ hrow r;exact⟨v,by rw[h2.k];exact a1,a2,conv _ _ _ (l2 j _ y r U) a3⟩
 ·simp only[d,rcA,ho];cases ι id<;>simp
 ·rcases m i _ _ hi with⟨_,h1⟩|⟨_,_,h1⟩
  ·cases h1
  ·rcases m j _ _ U with⟨_,h2⟩|⟨_,_,h2⟩
   ·cases h2
   ·exact J.rel.inj i j b k k' h1 h2
 ·have h1:ι id= .free:=J.free id (Sb Y hid);simp only[d,rcA];cases B:lh2.get id with
  |none=>simp only[h1]
  |some o=>
   simp only;by_cases f:Z id
   ·have:=(hZ id f).2.1;omega
   ·rw[Ha f];exact h1
 ·have ht:=a6 t;have hr:=J.env.rep t;generalize look e t=x at ht hr;generalize look e2 t=y at ht ⊢;cases ht with
  |any=>trivial
  |v x y h=>exact A x y _ h hr
  |opt g x y h=>exact⟨fun B=>A x y _ h (hr.1 B),hr.2⟩
  |tup xs ys hl h=>
   obtain⟨vs,h1,h2,h3⟩:=hr;refine⟨vs,h1,by rw[h2,hl],fun j y U=> ?_⟩;have O:j<xs.length:=by rw[<-hl];exact(Fa.1 U).1
   have r:xs[j]? =some xs[j]:=Ma O;obtain⟨u,a1,a2⟩:=h3 j _ r;exact⟨u,a1,A _ _ _ (h j _ y r U) a2⟩
 ·simp only[d,rcA];cases B:lh2.get id with
  |none=>simp only[hf]
  |some o=>
   simp only;by_cases f:Z id
   ·have:=(hZ id f).1;omega
   ·rw[Ha f];exact hf
end
section
variable {P:Program} {I:Ip}
def cE(X:Cx I)(ρ:Nat->Nat)(st:ES I.C):Env:=(st.env++X.frm).map fun p=>(p.1,trL ρ (lkO X st) (lkE X st) p.2)
def cG(P:Program)(X:Cx I)(ρ:Nat->Nat)(G:Get)(st:ES I.C):Get:=upd G ((st.heap++X.frh).map fun p=>(ρ p.1,trO P ρ (lkO X st) p.2))
theorem fO(F:EL I.C->LV): ∀(l:EEnv I.C) (t:Nat),look (l.map fun p=>(p.1,F p.2)) t=(match lk l t with|some x=>F x|none=> .any)
 |[],t=>rfl
 |(j,x)::r,t=>by
  simp only[aa,look];rw[Zk];by_cases h:t=j
  ·rw[La h,La h]
  ·rw[Ha h,Ha h];exact fO F r t
theorem I6(X:Cx I)(st:ES I.C)(t:Nat):lk (st.env++X.frm) t=lkE X st t:=by rw[qg];unfold lkE;cases lk st.env t<;>rfl
theorem UJ(X:Cx I)(st:ES I.C)(t:Nat):lk (st.heap++X.frh) t=lkO X st t:=by rw[qg];unfold lkO;cases lk st.heap t<;>rfl
theorem ax(X:Cx I)(ρ:Nat->Nat)(st:ES I.C)(t:Nat):look (cE X ρ st) t=(match lkE X st t with|some x=>trL ρ (lkO X st) (lkE X st) x|none=> .any):=by unfold cE;rw[fO,I6]
structure WfS (X:Cx I) (ρ:Nat->Nat) (G:Get) (st:ES I.C) (N:Nat):Prop where
 inj: ∀i j o o',lkO X st i=some o->lkO X st j=some o'->ρ i=ρ j->i=j
 oth: ∀i,G i≠none->i<N/\ ∀id o,lkO X st id=some o->ρ id≠i
 fre: ∀t x,lk X.frm t=some x->lkE X st t=some x/\eF x=true
 fro: ∀i o,lk X.frh i=some o->lkO X st i=some o
 lt: ∀id,id<st.next->ρ id<N
 up: ∀id,st.next<=id->ρ id=N+(id - st.next)
 wfe: ∀t x,lkE X st t=some x->wfL st.next x=true
 wfh: ∀id o,lkO X st id=some o->id<st.next/\wfO st.next o=true
theorem Vo{X:Cx I}{ρ:Nat->Nat}{G:Get}{st:ES I.C}{N:Nat}(h:WfS X ρ G st N){id:Nat}{o:EO I.C}(ho:lkO X st id=some o):cG P X ρ G st (ρ id)=trO P ρ (lkO X st) o:=by
 have: ∀(l:EHeap I.C),(∀p∈l,∃o,lkO X st p.1=some o)-> ∀o,lk l id=some o->upd G (l.map fun p=>(ρ p.1,trO P ρ (lkO X st) p.2)) (ρ id)=trO P ρ (lkO X st) o:=by
  intro l
  induction l with
  |nil=>intro _ o hl;cases hl
  |cons p r m=>
   intro hp o hl;obtain⟨j,u⟩:=p;simp only[aa,upd];rw[Zk]at hl;by_cases c:id=j
   ·subst c;rw[La rfl]at hl ⊢;cases hl;rfl
   ·rw[Ha c]at hl;obtain⟨o2,d⟩:=hp (j,u) (Jb ..);rw[Ha (fun e=>c (h.inj id j _ _ ‹_› d e))];exact m (fun p f=>hp p (Eb _ f)) o hl
 refine i _ (fun p hp=> ?_) o (by rw[UJ];exact ho);obtain⟨o,ho⟩:=Zf (Oa.2 ⟨p,hp,rfl⟩);rw[UJ]at ho;exact⟨o,ho⟩
theorem iw{X:Cx I}{ρ:Nat->Nat}{G:Get}{st:ES I.C}{i:Nat}(hi: ∀id o,lkO X st id=some o->ρ id≠i):cG P X ρ G st i=G i:=by refine yj fun hm=> ?_;rw[Ac]at hm;obtain⟨p,hp,e⟩:=Oa.1 hm;obtain⟨o,ho⟩:=Zf (Oa.2 ⟨p,hp,rfl⟩);rw[UJ]at ho;exact hi p.1 o ho e
theorem WfS.vw{X:Cx I}{ρ:Nat->Nat}{G:Get}{st:ES I.C}{N:Nat}(h:WfS X ρ G st N):Vw P X ρ G st (cE X ρ st) ⟨N,cG P X ρ G st⟩:=
 ⟨ax X ρ st,fun id o ho=>Vo h ho,fun i hi=>⟨iw (h.oth i hi).2,(h.oth i hi).2⟩,h.inj,h.lt,h.up,h.fre,h.fro,fun i hi=>(h.oth i hi).1,h.wfe,h.wfh⟩
variable {nt:Nat}
theorem SW.post{c:Code}{Q i:Post}{e:Env}{lh:LH}(h:SW P nt c Q e lh)(j: ∀x e lh,Q x e lh-> ∃e2 lh2,Sub nt e lh e2 lh2/\i x e2 lh2):SW P nt c i e lh:=by intro ι a w m;refine Code.wp_mono (fun x p w' ⟨ι',e',d,h1,h2,h3,h4⟩=> ?_) (h ι a w m);obtain⟨e2,lh2,r,u⟩:=j x e' d h1;obtain⟨f,k1,k2,k3⟩:=r ι' p w' h2;exact⟨f,e2,lh2,u,k1,h3.trans k2 h4,Sb h4 k3⟩
end
section
variable {P:Program} {I:Ip} {X:Cx I} {ρ:Nat->Nat} {G:Get} {st:ES I.C} {e:Env} {lh:LH} {nt:Nat}
theorem oF{Z:Nat->Prop}{get:Get}{D:Nat->Prop}{ρ ρ2:Nat->Nat}{h h2:Nat->Option (EO I.C)}{x:ET I.C}(hc: ∀v:EV I.C,RcC Z get D (trV ρ h v) (trV ρ2 h2 v)):RcT Z get D (trT ρ h x) (trT ρ2 h2 x):=by
 cases x with
 |c x=>exact .c _ _ (hc x)
 |agg xs=>
  refine .agg _ _ (by simp) fun j a b ha hb=> ?_;rw[Ta]at ha hb;cases d:xs[j]? with
  |none=>rw[d]at ha;cases ha
  |some v=>rw[d]at ha hb;cases ha;cases hb;exact hc v
theorem pF{Z:Nat->Prop}{get:Get}{D:Nat->Prop}{ρ ρ2:Nat->Nat}{h h2:Nat->Option (EO I.C)}{E c:Nat->Option (EL I.C)}{x:EL I.C}(hc: ∀v:EV I.C,RcC Z get D (trV ρ h v) (trV ρ2 h2 v))(f: ∀ks t,x= .opt ks t->qB c ks=qB E ks):RcL Z get D (trL ρ h E x) (trL ρ2 h2 c x):=by
 cases x with
 |any=>exact .any _
 |v t=>exact .v _ _ (oF hc)
 |opt ks t=> simp only[trL];rw[f ks t rfl];exact .opt _ _ _ (oF hc)
 |tup ts=>
  refine .tup _ _ (by simp) fun j a b ha hb=> ?_;rw[Ta]at ha hb;cases d:ts[j]? with
  |none=>rw[d]at ha;cases ha
  |some v=>rw[d]at ha hb;cases ha;cases hb;exact oF hc
theorem VM{Z:Nat->Prop}{get:Get}{D:Nat->Prop}{α:Type}{ty k:Nat}{f:α->List CV}{l1 l2:List α}{c c2:List CV}{o:OB}(ho:o=⟨ty,k,l1.map f++(c::l2.map f),none⟩)(hc: ∀(j:Nat) x y,c[j]? =some x->c2[j]? =some y->RcC Z get D x y)(hl:c2.length=c.length):RcO Z get D o ⟨ty,k,l1.map f++(c2::l2.map f),none⟩:=by
 subst ho;refine⟨rfl,rfl,by simp,fun i row row2 hr d=> ?_,rfl⟩;by_cases hi:i=l1.length
 ·rw[Dx hi]at hr d;cases hr;cases d;exact⟨hl,hc⟩
 ·have m:row2=row:=by
   by_cases p:i<l1.length
   ·rw[Fb (by rw[Ra];exact p)]at hr d;rw[hr]at d;cases d;rfl
   ·obtain⟨k,hk⟩: ∃k,i=l1.length+(k+1):=⟨i - l1.length - 1,by omega⟩;subst hk;rw[Xc (by rw[Ra];omega),Ra]at hr d;have e:l1.length+(k+1) - l1.length=k+1:=by omega
    rw[e,Ef]at hr d;rw[hr]at d;cases d;rfl
  subst m;exact⟨rfl,fun j a b ha hb=>by rw[ha]at hb;cases hb;exact RcC.refl _⟩
theorem zAN{ρ:Nat->Nat}{h h2:Nat->Option (EO I.C)}{v:EV I.C}(c: ∀i,infO h2 i=infO h i):trV ρ h2 v=trV ρ h v:=by
 cases v with
 |own id=>rw[Sj,Sj,c]
 |_=>rfl
theorem FQ(hI:IpOK P I)(hv:Vw P X ρ G st e lh)(id:Nat): ∃e2 lh2,Sub nt e lh e2 lh2/\Vw P X ρ G (gm X st id) e2 lh2:=by
 unfold gm;split
 case h_2=>exact⟨e,lh,Sub.refl _ _ _,hv⟩
 rename_i t l hl a3;generalize m:({st with heap:=(id, .frz t l)::st.heap}:ES I.C)=st2;have Y: ∀t,lkE X st2 t=lkE X st t:=fun t=>by rw[<-m];rfl
 have a5:lkE X st2=lkE X st:=funext Y;have hO: ∀i,lkO X st2 i=if i=id then some (.frz t l)else lkO X st i:=by
  intro i;rw[<-m];simp only[lkO];rw[Zk];by_cases hi:i=id
  ·rw[La hi,La hi]
  ·rw[Ha hi,Ha hi]
 have hid:lkO X st id=some (.sl t l):=by simp only[lkO,hl]
 have f: ∀i o,lkO X st2 i=some o-> ∃o0,lkO X st i=some o0/\(i≠id->o0=o):=by
  intro i o ho;rw[hO]at ho;split at ho
  ·rename_i hi;subst hi;exact⟨_,hid,fun h=>absurd rfl h⟩
  ·exact⟨o,ho,fun _=>rfl⟩
 have u:st2.next=st.next:=by rw[<-m]
 have hw:WfS X ρ G st2 lh.next:=by
  refine⟨fun i j o o' h1 h2 he=> ?_,fun i hi=>⟨hv.glt i hi,fun j o ho=> ?_⟩,fun t x c=> ?_,fun i o ho=> ?_,fun i hi=>hv.lt i (by rw[<-u];exact hi),fun i hi=>by rw[u]at hi ⊢;exact hv.up i hi,fun t x c=> ?_,fun i o ho=> ?_⟩
  ·obtain⟨o1,O,_⟩:=f i o h1;obtain⟨o2,q2,_⟩:=f j o' h2;exact hv.inj i j o1 o2 O q2 he
  ·obtain⟨o1,O,_⟩:=f j o ho;exact(hv.oth i hi).2 j o1 O
  ·rw[Y];exact hv.fre t x c
  ·rw[hO,Ha (fun e=>by subst e;rw[a3]at ho;cases ho)];exact hv.fro i o ho
  ·rw[Y]at c;rw[u];exact hv.wfe t x c
  ·rw[u];rw[hO]at ho;split at ho
   ·rename_i hi;subst hi;cases ho;exact⟨(hv.wfh i _ hid).1,rfl⟩
   ·exact hv.wfh i o ho
 refine⟨_,_,?_,hw.vw (P:=P)⟩;have U:cG P X ρ G st2 (ρ id)=none:=by rw[Vo hw (by rw[hO,La rfl])];rfl
 have d: ∀v:EV I.C,RcC (fun _=>False) lh.get (fun i=>cG P X ρ G st2 i=none) (trV ρ (lkO X st) v) (trV ρ (lkO X st2) v):=by
  intro v;cases v with
  |own i=>
   by_cases hi:i=id
   ·subst hi;refine .inr ⟨.sl (l.map (I.full t)),?_,?_⟩
    ·simp only[trV,hO,La]
    ·have:trV ρ (lkO X st) (.own i)= .osl (ρ i) 0 l.length:=by simp only[trV,hid]
     rw[J];have L:lh.get (ρ i)=some ⟨t,P.cellsOf t,l.map fun x=>(I.full t x).map .p,none⟩:=hv.heap i _ hid;refine .osl (ρ i) 0 _ _ (l.map (I.full t)) U L (by simp) (by simp) (fun row hr=> ?_) (fun a row j x r y ha A hr B=> ?_)
     ·obtain⟨z,_,rfl⟩:=Oa.1 hr;exact hI.len _ _
     ·simp only[Ta,Be]at ha hr;cases hz:l[a]? with
      |none=>rw[hz]at ha;cases ha
      |some z=> rw[hz]at ha hr;cases ha;cases hr;rw[Ta,B]at A;cases A;exact .p y
   ·have:trV ρ (lkO X st2) (.own i)=trV ρ (lkO X st) (.own i):=by simp only[trV,hO,Ha hi]
    rw[J];exact RcC.refl _
  |_=>exact RcC.refl _
 refine recast (Z:=fun _=>False) (Va _) (fun z hz=>hz.elim) (fun i o2 ho _=> ?_) (fun t=> ?_)
 ·by_cases V: ∃j W,lkO X st2 j=some W/\ρ j=i
  ·obtain⟨j,W,A,rfl⟩:=V;simp only[Vo hw A]at ho;obtain⟨o0,O,q2⟩:=f j W A;have a6:j≠id:=by rintro rfl;rw[hO,La rfl]at A;cases A;cases ho
   have:=q2 a6;subst J;have L:=hv.heap j _ O;cases o0 with
   |cells ty cs=>
    simp only[trO,Option.some.injEq]at ho;subst ho;refine⟨_,L,rfl,rfl,rfl,fun a row row2 h1 h2=> ?_,rfl⟩;cases a with
    |a7 a=>simp at h1
    |zero=>
     simp only[De,Option.some.injEq]at h1 h2;subst h1;subst h2;refine⟨by simp,fun b x y c B=> ?_⟩;rw[Ta]at c B;cases hb:cs[b]? with
     |none=>rw[hb]at c;cases c
     |some v=>rw[hb]at c B;cases c;cases B;exact d v
   |slo t' l1 cs l2=>
    simp only[trO,Option.some.injEq]at ho;subst ho;exact⟨_,L,VM rfl (fun b x y c B=>by
     rw[Ta]at c B;cases hb:cs[b]? with
     |none=>rw[hb]at c;cases c
     |some v=>rw[hb]at c B;cases c;cases B;exact d v) (by simp)⟩
   |mp kd l'=> simp only[trO,Option.some.injEq]at ho;subst ho;exact⟨_,L,RcO.refl _⟩
   |sl t' l'=> simp only[trO,Option.some.injEq]at ho;subst ho;exact⟨_,L,RcO.refl _⟩
   |dead n=>cases ho
   |frz t' l'=>cases ho
  ·simp only[iw (fun j W A e=>V ⟨j,W,A,e⟩)]at ho;exact⟨o2,by rw[(hv.oth i (by rw[ho];simp)).1];exact ho,RcO.refl _⟩
 ·rw[ax,Y,hv.env t];cases a8:lkE X st t with
  |none=>exact .any _
  |some x=>exact pF d (fun ks t _=>by rw[a5])
theorem AU(hI:IpOK P I)(hv:Vw P X ρ G st e lh)(id:Nat): ∃e2 lh2,Sub nt e lh e2 lh2/\Vw P X ρ G (Gu X st id) e2 lh2:=by
 unfold Gu;split
 case h_2=>exact⟨e,lh,Sub.refl _ _ _,hv⟩
 rename_i t l1 cs l2 hl a3;split
 case h_2=>exact⟨e,lh,Sub.refl _ _ _,hv⟩
 rename_i z hz;generalize d:({st with heap:=(id, .sl t (l1++z::l2))::st.heap}:ES I.C)=st2;have hE: ∀t,lkE X st2 t=lkE X st t:=fun t=>by rw[<-d];rfl
 have a5:lkE X st2=lkE X st:=funext hE;have hO: ∀i,lkO X st2 i=if i=id then some (.sl t (l1++z::l2))else lkO X st i:=by
  intro i;rw[<-d];simp only[lkO];rw[Zk];by_cases hi:i=id
  ·rw[La hi,La hi]
  ·rw[Ha hi,Ha hi]
 have hid:lkO X st id=some (.slo t l1 cs l2):=by simp only[lkO,hl]
 have c: ∀i o,lkO X st2 i=some o-> ∃o0,lkO X st i=some o0/\(i≠id->o0=o):=by
  intro i o ho;rw[hO]at ho;split at ho
  ·rename_i hi;subst hi;exact⟨_,hid,fun h=>absurd rfl h⟩
  ·exact⟨o,ho,fun _=>rfl⟩
 have J:(l1++z::l2).length=l1.length+1+l2.length:=by simp;omega
 have L: ∀i,infO (lkO X st2) i=infO (lkO X st) i:=by
  intro i;by_cases hi:i=id
  ·subst hi;rw[Zc (show lkO X st2 i=_ by rw[hO,La rfl]),Zc hid];simp only[infE,J]
  ·simp only[infO,hO,Ha hi]
 have p: ∀v:EV I.C,trV ρ (lkO X st2) v=trV ρ (lkO X st) v:=fun v=>zAN (fun i=>L i);have m:st2.next=st.next:=by rw[<-d]
 have hw:WfS X ρ G st2 lh.next:=by
  refine⟨fun i j o o' h1 h2 he=> ?_,fun i hi=>⟨hv.glt i hi,fun j o ho=> ?_⟩,fun t x A=> ?_,fun i o ho=> ?_,fun i hi=>hv.lt i (by rw[<-m];exact hi),fun i hi=>by rw[m]at hi ⊢;exact hv.up i hi,fun t x A=> ?_,fun i o ho=> ?_⟩
  ·obtain⟨o1,r,_⟩:=c i o h1;obtain⟨o2,q2,_⟩:=c j o' h2;exact hv.inj i j o1 o2 r q2 he
  ·obtain⟨o1,r,_⟩:=c j o ho;exact(hv.oth i hi).2 j o1 r
  ·rw[hE];exact hv.fre t x A
  ·rw[hO,Ha (fun e=>by subst e;rw[a3]at ho;cases ho)];exact hv.fro i o ho
  ·rw[hE]at A;rw[m];exact hv.wfe t x A
  ·rw[m];rw[hO]at ho;split at ho
   ·rename_i hi;subst hi;cases ho;exact⟨(hv.wfh i _ hid).1,rfl⟩
   ·exact hv.wfh i o ho
 refine⟨_,_,?_,hw.vw (P:=P)⟩;have u: ∀v:EV I.C,RcC (fun _=>False) lh.get (fun i=>cG P X ρ G st2 i=none) (trV ρ (lkO X st) v) (trV ρ (lkO X st2) v):=fun v=>by rw[p];exact RcC.refl _
 refine recast (Z:=fun _=>False) (Va _) (fun z hz=>hz.elim) (fun i o2 ho _=> ?_) (fun t=> ?_)
 ·by_cases O: ∃j U,lkO X st2 j=some U/\ρ j=i
  ·obtain⟨j,U,B,rfl⟩:=O;simp only[Vo hw B]at ho;obtain⟨o0,r,q2⟩:=c j U B;have V:=hv.heap j _ r;by_cases W:j=id
   ·subst W;rw[hid]at r;cases r;rw[hO,La rfl]at B;cases B;simp only[trO,Option.some.injEq]at ho;subst ho;have hm:=Wx (P:=P) hI (ρ:=ρ) (h:=lkO X st) hz;have Y:=(hI.made t _ z hz).2.1;rw[Ra]at Y;refine⟨_,V,?_⟩;rw[yc,aa];refine VM rfl (fun b x y A hy=> .inl (.inl (hm b x y ?_ hy))) (by rw[Ra,Ra,Y]);rw[Ac];have:cs.map (trV ρ (lkO X st)∘nrmV (lkO X st))=cs.map (trV ρ (lkO X st)):=Ya fun v _=>uw v;rw[f];exact A
   ·have:=q2 W;subst f;cases o0 with
    |cells ty cs=> simp only[trO,Option.some.injEq]at ho;subst ho;have:cs.map (trV ρ (lkO X st2))=cs.map (trV ρ (lkO X st)):=Ya fun v _=>p v;rw[f];exact⟨_,V,RcO.refl _⟩
    |slo t' a6 cs' a7=> simp only[trO,Option.some.injEq]at ho;subst ho;have:cs'.map (trV ρ (lkO X st2))=cs'.map (trV ρ (lkO X st)):=Ya fun v _=>p v;rw[f];exact⟨_,V,RcO.refl _⟩
    |sl t' l'=> simp only[trO,Option.some.injEq]at ho;subst ho;exact⟨_,V,RcO.refl _⟩
    |mp kd l'=> simp only[trO,Option.some.injEq]at ho;subst ho;exact⟨_,V,RcO.refl _⟩
    |dead n=>cases ho
    |frz t' l'=>cases ho
  ·simp only[iw (fun j U B e=>O ⟨j,U,B,e⟩)]at ho;exact⟨o2,by rw[(hv.oth i (by rw[ho];simp)).1];exact ho,RcO.refl _⟩
 ·rw[ax,hE,hv.env t];cases a8:lkE X st t with
  |none=>exact .any _
  |some x=>exact pF u (fun ks t _=>by rw[a5])
theorem wR(hI:IpOK P I): ∀(l:List Nat) {st:ES I.C} {e:Env} {lh:LH},Vw P X ρ G st e lh-> ∃e2 lh2,Sub nt e lh e2 lh2/\Vw P X ρ G (Ms X l st) e2 lh2
 |[],st,e,lh,hv=>⟨e,lh,Sub.refl _ _ _,hv⟩
 |i::r,st,e,lh,hv=>by obtain⟨e1,c,h1,h2⟩:=FQ (nt:=nt) hI hv i;obtain⟨e2,lh2,h3,h4⟩:=wR hI r h2;exact⟨e2,lh2,h1.trans h3,h4⟩
theorem iJ(hI:IpOK P I)(hv:Vw P X ρ G st e lh)(id:Nat): ∃e2 lh2,Sub nt e lh e2 lh2/\Vw P X ρ G (Tk X st id) e2 lh2:=by
 unfold Tk;split
 ·obtain⟨e1,c,h1,h2⟩:=wR (nt:=nt) hI _ hv;obtain⟨e2,lh2,h3,h4⟩:=AU (nt:=nt) hI h2 id;exact⟨e2,lh2,h1.trans h3,h4⟩
 ·exact AU hI hv id
theorem SS(hI:IpOK P I)(hv:Vw P X ρ G st e lh)(id:Nat): ∃e2 lh2,Sub nt e lh e2 lh2/\Vw P X ρ G (KC X st id) e2 lh2:=by obtain⟨e1,c,h1,h2⟩:=iJ (nt:=nt) hI hv id;obtain⟨e2,lh2,h3,h4⟩:=FQ (nt:=nt) hI h2 id;exact⟨e2,lh2,h1.trans h3,h4⟩
theorem NR(hI:IpOK P I): ∀(l:List Nat) {st:ES I.C} {e:Env} {lh:LH},Vw P X ρ G st e lh-> ∃e2 lh2,Sub nt e lh e2 lh2/\Vw P X ρ G (Nr X l st) e2 lh2
 |[],st,e,lh,hv=>⟨e,lh,Sub.refl _ _ _,hv⟩
 |i::r,st,e,lh,hv=>by obtain⟨e1,c,h1,h2⟩:=iJ (nt:=nt) hI hv i;obtain⟨e2,lh2,h3,h4⟩:=NR hI r h2;exact⟨e2,lh2,h1.trans h3,h4⟩
theorem fJ(hI:IpOK P I): ∀(l:List Nat) {st:ES I.C} {e:Env} {lh:LH},Vw P X ρ G st e lh-> ∃e2 lh2,Sub nt e lh e2 lh2/\Vw P X ρ G (uj X l st) e2 lh2
 |[],st,e,lh,hv=>⟨e,lh,Sub.refl _ _ _,hv⟩
 |t::r,st,e,lh,hv=>by
  simp only[uj];split
  ·rename_i id _;obtain⟨e1,c,h1,h2⟩:=iJ (nt:=nt) hI hv id;obtain⟨e2,lh2,h3,h4⟩:=fJ hI r h2;exact⟨e2,lh2,h1.trans h3,h4⟩
  ·exact fJ hI r hv
theorem sJ(hI:IpOK P I): ∀(l:List Nat) {st:ES I.C} {e:Env} {lh:LH},Vw P X ρ G st e lh-> ∃e2 lh2,Sub nt e lh e2 lh2/\Vw P X ρ G (Oj X l st) e2 lh2
 |[],st,e,lh,hv=>⟨e,lh,Sub.refl _ _ _,hv⟩
 |i::r,st,e,lh,hv=>by obtain⟨e1,c,h1,h2⟩:=SS (nt:=nt) hI hv i;obtain⟨e2,lh2,h3,h4⟩:=sJ hI r h2;exact⟨e2,lh2,h1.trans h3,h4⟩
theorem RH(hI:IpOK P I): ∀(l:List (Nat×Option Nat)) {st:ES I.C} {e:Env} {lh:LH},Vw P X ρ G st e lh-> ∃e2 lh2,Sub nt e lh e2 lh2/\Vw P X ρ G (preE X l st) e2 lh2
 |[],st,e,lh,hv=>⟨e,lh,Sub.refl _ _ _,hv⟩
 |p::r,st,e,lh,hv=>by
  simp only[preE];split
  ·rename_i id _;obtain⟨e1,c,h1,h2⟩:=SS (nt:=nt) hI hv id;obtain⟨e2,lh2,h3,h4⟩:=RH hI r h2;exact⟨e2,lh2,h1.trans h3,h4⟩
  ·exact RH hI r hv
theorem GQ(st:ES I.C)(i:Nat):(gm X st i).env=st.env/\(gm X st i).next=st.next:=by unfold gm;split<;>exact⟨rfl,rfl⟩
theorem xR: ∀(l:List Nat) (st:ES I.C),(Ms X l st).env=st.env/\(Ms X l st).next=st.next
 |[],st=>⟨rfl,rfl⟩
 |i::r,st=>by obtain⟨h1,h2⟩:=xR r (gm X st i);have:=GQ (X:=X) st i;exact⟨h1.trans c.1,h2.trans c.2⟩
theorem BU(st:ES I.C)(i:Nat):(Gu X st i).env=st.env/\(Gu X st i).next=st.next:=by
 unfold Gu;split
 ·split<;>exact⟨rfl,rfl⟩
 ·exact⟨rfl,rfl⟩
theorem jJ(st:ES I.C)(i:Nat):(Tk X st i).env=st.env/\(Tk X st i).next=st.next:=by
 unfold Tk;split
 ·rename_i t l1 cs l2 _;obtain⟨h1,h2⟩:=BU (X:=X) (Ms X (cs.flatMap Xq) st) i;obtain⟨h3,h4⟩:=xR (X:=X) (cs.flatMap Xq) st;exact⟨h1.trans h3,h2.trans h4⟩
 ·exact BU st i
theorem PR: ∀(l:List Nat) (st:ES I.C),(Nr X l st).env=st.env/\(Nr X l st).next=st.next
 |[],st=>⟨rfl,rfl⟩
 |i::r,st=>by obtain⟨h1,h2⟩:=PR r (Tk X st i);have:=jJ (X:=X) st i;exact⟨h1.trans c.1,h2.trans c.2⟩
theorem gJ: ∀(l:List Nat) (st:ES I.C),(uj X l st).env=st.env/\(uj X l st).next=st.next
 |[],st=>⟨rfl,rfl⟩
 |t::r,st=>by
  simp only[uj];split
  ·rename_i id _;obtain⟨h1,h2⟩:=gJ r (Tk X st id);have:=jJ (X:=X) st id;exact⟨h1.trans c.1,h2.trans c.2⟩
  ·exact gJ r st
theorem NE: ∀(l:List Nat) (st:ES I.C),(Oj X l st).env=st.env/\(Oj X l st).next=st.next
 |[],st=>⟨rfl,rfl⟩
 |i::r,st=>by obtain⟨h1,h2⟩:=NE r (KC X st i);have h3:=GQ (X:=X) (Tk X st i) i;have h4:=jJ (X:=X) st i;exact⟨h1.trans (h3.1.trans h4.1),h2.trans (h3.2.trans h4.2)⟩
theorem UN: ∀(l:EEnv I.C) (t:Nat),lk (qK l) t=(match lk l t with|some (.opt _ _)=>some .any|x=>x)
 |[],t=>rfl
 |(j,x)::r,t=>by
  cases x<;>simp only[qK]<;>rw[Zk,Zk]<;>by_cases h:t=j
  all_goals first
   |(rw[La h,La h];done)
   |(rw[Ha h,Ha h];exact UN r t)
theorem kX(hv:Vw P X ρ G st e lh): ∃e2 lh2,Sub nt e lh e2 lh2/\Vw P X ρ G {st with env:=qK st.env} e2 lh2:=by
 generalize c:({st with env:=qK st.env}:ES I.C)=st2;have hO:lkO X st2=lkO X st:=by rw[<-c];rfl
 have u: ∀t,lkE X st2 t=(match lkE X st t with|some (.opt _ _)=>some .any|x=>x):=by
  intro t;rw[<-c];simp only[lkE,UN];cases hl:lk st.env t with
  |some x=>cases x<;>rfl
  |none=>
   simp only;cases hf:lk X.frm t with
   |none=>rfl
   |some x=> have:=(hv.fre t x hf).2;cases x<;>first|rfl|cases y
 have d:st2.next=st.next:=by rw[<-c]
 have A:WfS X ρ G st2 lh.next:=by
  refine⟨by rw[hO];exact hv.inj,fun i hi=>⟨hv.glt i hi,by rw[hO];exact(hv.oth i hi).2⟩,fun t x f=> ?_,by rw[hO];exact hv.fro,by rw[d];exact hv.lt,by rw[d];exact hv.up,fun t x f=> ?_,by rw[hO,d];exact hv.wfh⟩
  ·obtain⟨f1,B⟩:=hv.fre t x f;refine⟨?_,B⟩;rw[u,f1];cases x<;>first|rfl|cases B
  ·rw[u]at f;rw[d];split at f
   ·cases f;rfl
   ·exact hv.wfe t x f
 refine⟨_,_,?_,A.vw (P:=P)⟩;refine recast (Z:=fun _=>False) (Va _) (fun z J=>J.elim) (fun i o2 ho _=> ?_) (fun t=> ?_)
 ·by_cases m: ∃j p,lkO X st2 j=some p/\ρ j=i
  ·obtain⟨j,p,r,rfl⟩:=m;simp only[Vo A r]at ho;rw[hO]at r ho;exact⟨o2,by rw[hv.heap j p r];exact ho,RcO.refl _⟩
  ·simp only[iw (fun j p r e=>m ⟨j,p,r,e⟩)]at ho;exact⟨o2,by rw[(hv.oth i (by rw[ho];simp)).1];exact ho,RcO.refl _⟩
 ·rw[ax,u,hv.env t,hO];cases L:lkE X st t with
  |none=>exact .any _
  |some x=>
   cases x with
   |opt ks t=>exact .any _
   |_=>exact pF (fun v=>RcC.refl _) (fun ks t h=>by cases h)
end
section
variable {P:Program} {I:Ip} {X:Cx I} {ρ:Nat->Nat} {G:Get} {st:ES I.C} {e:Env} {lh:LH} {nt:Nat}
theorem Sn{ρ ρ2:Nat->Nat}{h h2:Nat->Option (EO I.C)}{v:EV I.C}(d: ∀i∈Ze v,ρ2 i=ρ i/\infO h2 i=infO h i):trV ρ2 h2 v=trV ρ h v:=by
 cases v with
 |own id=> obtain⟨h1,j⟩:=d id (by simp[Ze]);rw[Sj,Sj,h1,j]
 |osl id off n=>simp only[trV,(d id (by simp[Ze])).1]
 |optr id r c=>simp only[trV,(d id (by simp[Ze])).1]
 |mref id=>simp only[trV,(d id (by simp[Ze])).1]
 |clo f caps=> simp only[trV];congr 1;refine Ya fun q m=> ?_;rw[(d q.1 (by simp only[Ze,Oa];exact⟨q,m,rfl⟩)).1]
 |_=>rfl
theorem NC{ρ ρ2:Nat->Nat}{h h2:Nat->Option (EO I.C)}{v:ET I.C}(d: ∀i∈Qp v,ρ2 i=ρ i/\infO h2 i=infO h i):trT ρ2 h2 v=trT ρ h v:=by
 cases v with
 |c x=>exact congrArg TV.c (Sn d)
 |agg xs=> simp only[trT];congr 1;exact Ya fun v hv=>Sn fun i hi=>d i (Ub.2 ⟨v,hv,hi⟩)
theorem xA{n:Nat}{v:EV I.C}(h: ∀i∈Ze v,i<n):wfV n v=true:=by cases v<;>simp only[wfV]<;>first|rfl|exact Zm.2 (h _ (by simp[Ze]))|skip;rename_i f caps;rw[Xa];exact fun q c=>Zm.2 (h q.1 (by simp only[Ze,Oa];exact⟨q,c,rfl⟩))
theorem nW{n:Nat}{v:ET I.C}(h: ∀i∈Qp v,i<n):wfT n v=true:=by
 cases v with
 |c x=>exact xA h
 |agg xs=> simp only[wfT,Xa];exact fun v hv=>xA fun i hi=>h i (Ub.2 ⟨v,hv,hi⟩)
theorem yA{n:Nat}{o:EO I.C}(h: ∀i∈Aj o,i<n):wfO n o=true:=by
 cases o with
 |cells ty cs=> simp only[wfO,Xa];exact fun v hv=>xA fun i hi=>h i (Ub.2 ⟨v,hv,hi⟩)
 |slo t l1 cs l2=> simp only[wfO,Xa];exact fun v hv=>xA fun i hi=>h i (Ub.2 ⟨v,hv,hi⟩)
 |_=>rfl
theorem wW{Z:Nat->Prop}{get:Get}{D:Nat->Prop}{x y:TV}(h:WkT Z x y):RcT Z get D x y:=by
 cases h with
 |c x y h=>exact .c _ _ (.inl h)
 |agg xs ys hl h=>exact .agg _ _ hl fun j x y h1 h2=> .inl (h j x y h1 h2)
theorem BO{Z:Nat->Prop}{get:Get}{D:Nat->Prop}(x:LV):RcL Z get D x x:=by
 have c: ∀t,RcT Z get D t t:=fun t=>wW (WkT.refl t);cases x with
 |any=>exact .any _
 |v t=>exact .v _ _ (c t)
 |opt g t=>exact .opt _ _ _ (c t)
 |tup ts=>exact .tup _ _ rfl fun j x y h1 h2=>by rw[h1]at h2;cases h2;exact c x
theorem JD: ∀{tmps:List Nat} {vs vals:List (ET I.C)} {t:Nat} {y:EL I.C},Ik X st tmps=some vs->vals.length=vs.length->lk (si tmps vals) t=some y->
  ∃(j:Nat) (d b:ET I.C),lkE X st t=some (.v d)/\vs[j]? =some d/\vals[j]? =some b/\y= .v b/\t∈tmps
 |[],vs,vals,t,y,h,hl,c=>by
  cases vals<;>cases c
 |t0::r,vs,vals,t,y,h,hl,c=>by
  simp only[Ik]at h;split at h
  ·rename_i x l h1 h2;cases h;cases vals with
   |nil=>cases c
   |cons b s=>
    simp only[si]at c;rw[Zk]at c;by_cases ht:t=t0
    ·subst ht;rw[La rfl]at c;cases c;exact⟨0,x,b,h1,rfl,rfl,rfl,Jb ..⟩
    ·rw[Ha ht]at c;obtain⟨j,d,b',f,i,m,p,u⟩:=JD h2 (by simpa using hl) c;exact⟨j+1,d,b',f,by simpa using i,by simpa using m,p,Eb _ u⟩
  ·cases h
theorem kI: ∀{m:Mp} {i:Nat},lk m i=some none->i∈pg m
 |[],i,h=>by cases h
 |(j,some a)::r,i,h=>by
  rw[Zk]at h;split at h
  ·cases h
  ·exact kI (m:=r) h
 |(j,none)::r,i,h=>by
  rw[Zk]at h;simp only[pg];split at h
  ·rename_i c;rw[c];exact Jb ..
  ·exact Eb _ (kI h)
theorem OJ: ∀{l:List Nat},Fs l=true->l.Nodup
 |[],_=>Ue
 |i::r,h=>by
  simp only[Fs]at h;cases hm:memN i r with
  |true=>rw[hm]at h;cases h
  |false=> rw[hm]at h;exact Ie.2 ⟨nR hm,OJ h⟩
theorem Dy (hI:IpOK P I) (hv:Vw P X ρ G st e lh) {sh:StSh} {tmps:List Nat} {vs:List (ET I.C)} {m0 m:Mp} {x:(sh.sl I).T} {p n:Nat} (aq:Ik X st tmps=some vs) (bo:InjM m0) (hm:matC p X sh tmps vs st m0=some (x,m))
  (hn: ∀i∈sh.objs.map (·.1),i<n) (bp: ∀t y,lk X.frm t=some y->wfL n y=true) (b3: ∀i o,lk X.frh i=some o->i<n/\wfO n o=true) (hp:p<=st.next) (cd:p<=n):
  ∃ρ2 e2 lh2,Sub nt e lh e2 lh2/\Vw P X ρ2 G (encS sh tmps n x) e2 lh2/\ ∀i,i<p->ρ2 i=ρ i:=by
 unfold matC at hm;obtain⟨⟨x',m'⟩,b5,bq⟩:=Ca.1 hm;obtain⟨b6,br⟩:=zl bq;cases br;obtain⟨ea,ce,sa,va⟩:=sJ (nt:=nt) hI (fzV sh.vals vs) hv;obtain⟨ec,cg,sc,vc⟩:=NR (nt:=nt) hI (clA (lkO X (Oj X (fzV sh.vals vs) st)) sh vs) va;generalize b7:Nr X (clA (lkO X (Oj X (fzV sh.vals vs) st)) sh vs) (Oj X (fzV sh.vals vs) st)=st0 at*;obtain⟨eb,ab,sb,U⟩:=sJ (nt:=nt) hI (fzA (lkO X st0) sh vs) vc;generalize b8:Oj X (fzA (lkO X st0) sh vs) st0=st1 at*;have al:st1.env=st.env/\st1.next=st.next:=by rw[<-b8];obtain⟨L,A⟩:=NE (X:=X) (fzA (lkO X st0) sh vs) st0;have q5:=PR (X:=X) (clA (lkO X (Oj X (fzV sh.vals vs) st)) sh vs) (Oj X (fzV sh.vals vs) st);rw[b7]at q5;obtain⟨q3,q4⟩:=NE (X:=X) (fzV sh.vals vs) st;exact⟨L.trans (q5.1.trans q3),A.trans (q5.2.trans q4)⟩
 have b9:lkE X st1=lkE X st:=by funext t;simp only[lkE,al.1]
 have ba:=(sa.trans sc).trans sb;generalize Y:lkO X st1=h at*;obtain⟨_,L1⟩:=mo (P:=P) hI sh;obtain⟨k1,k2,k3,k4,k5⟩:=L1 _ _ _ _ _ b5;obtain⟨L0,_⟩:=mo (P:=P) hI sh;have a5:=L0 x;have bb:=k2 bo;obtain⟨bt,bc⟩:=UB (P:=P) hI sh x;generalize ha:(sh.sl I).enc x=a at*;simp only[NB,Da]at b6;obtain⟨⟨⟨⟨⟨⟨c1,c2⟩,c3⟩,c4⟩,c5⟩,c6⟩,c7⟩:=b6;have bw:=OJ c2;simp only[wfSt,Da]at c1;have w1:=QD.1 c1.1;have w2:=QD.1 c1.2;simp only[Ab]at w1 w2;have cc:(a.2.map (·.1)).Nodup:=by rw[a5];exact bw
 -- what the map binds
 have mk: ∀i z,lk m i=some z->i∈sh.objs.map (·.1)/\(i<p->isSelf m i=true)/\(∀a,z=some a->lk X.frh a=none):=by
  intro i z hz;have:=Xa.1 c5 _ (Zg hz);simp only[Da]at r;obtain⟨⟨L,A⟩,q3⟩:=r;refine⟨ZG.1 L,fun bx=> ?_,fun b hb=> ?_⟩
  ·rw[Zm.2 bx]at A;simpa using A
  ·subst hb;simp only at q3;cases hl:lk X.frh b with
   |none=>rfl
   |some o=>rw[hl]at q3;cases q3
 have V: ∀i∈sh.objs.map (·.1),lk X.frh i=none:=by
  intro i hi;have:=Xa.1 c3 i hi;cases hl:lk X.frh i with
  |none=>rfl
  |some o=>rw[hl]at r;cases r
 have be: ∀t∈tmps,lk X.frm t=none:=by
  intro t ht;have:=Xa.1 c4 t ht;cases hl:lk X.frm t with
  |none=>rfl
  |some o=>rw[hl]at r;cases r
 let len:=(pg m).length
 let N2:=ab.next+len+1
 let ρ2:Nat->Nat:=fun i=>match lk m i with
  |some (some b)=>ρ b
  |some none=>ab.next+(pg m).idxOf i
  |none=>if i<n then(if i<st1.next then ρ i else ab.next+len)else N2+(i - n)
 have W: ∀i b,lk m i=some (some b)->ρ2 i=ρ b:=fun i b hb=>by simp only[ρ2,hb]
 have ar: ∀i,lk m i=some none->ρ2 i=ab.next+(pg m).idxOf i:=fun i hb=>by simp only[ρ2,hb]
 have a6: ∀i,lk m i=some none->(pg m).idxOf i<len:=fun i hb=>List.idxOf_lt_length_iff.2 (kI hb)
 -- objects of the new state
 generalize am:encS sh tmps n x=d at*;have av:d.env=si tmps a.1:=by rw[<-am];simp only[encS,ha]
 have c8:d.heap=a.2:=by rw[<-am];simp only[encS,ha]
 have stN:d.next=n:=by rw[<-am];rfl
 have aw: ∀i,lkO X d i=(match lk a.2 i with|some o=>some o|none=>lk X.frh i):=fun i=>by unfold lkO;rw[c8];cases lk a.2 i<;>rfl
 have ad: ∀i,i∈sh.objs.map (·.1)-> ∃o',lk a.2 i=some o'/\lkO X d i=some o':=by intro i hi;rw[<-a5]at hi;obtain⟨o',ho⟩:=Zf hi;exact⟨o',ho,by rw[aw,ho]⟩
 have c: ∀i o,lk X.frh i=some o->lkO X d i=some o/\lk m i=none/\h i=some o:=by
  intro i o ho;have bh:i ∉ sh.objs.map (·.1):=fun hi=>by rw[V i hi]at ho;cases ho
  refine⟨?_,?_,?_⟩
  ·rw[aw,Px (l:=a.2) (fun z hz e=>bh (by rw[<-a5];exact Oa.2 ⟨z,hz,e⟩))];exact ho
  ·cases hl:lk m i with
   |none=>rfl
   |some z=>exact absurd (mk i z hl).1 bh
  ·rw[<-Y];exact U.fro i o ho
 have B: ∀i o,lkO X d i=some o->(∃b ob,i∈sh.objs.map (·.1)/\lk a.2 i=some o/\lk m i=some (some b)/\h b=some ob/\infE ob=infE o/\lk X.frh b=none)\/(i∈sh.objs.map (·.1)/\lk a.2 i=some o/\lk m i=some none/\ ∃t,o= .sl t [])\/(lk X.frh i=some o):=by
  intro i o ho;rw[aw]at ho;cases hl:lk a.2 i with
  |none=>rw[hl]at ho;exact .inr (.inr ho)
  |some o'=>
   rw[hl]at ho;cases ho;have ap:=Zg hl;have hi:i∈sh.objs.map (·.1):=by rw[<-a5];exact Oa.2 ⟨_,ap,rfl⟩
   rcases k5 i o ap with⟨b,on,L,A,q3,_⟩|⟨L,A⟩
   ·refine .inl ⟨b,?_⟩;unfold nrmH at A;cases hb:h b with
    |none=>rw[hb]at A;cases A
    |some ob=> rw[hb]at A;refine⟨ob,hi,rfl,L,rfl,?_,(mk i _ L).2.2 b rfl⟩;cases ob<;>simp only[Option.some.injEq]at A<;>subst A<;>exact q3
   ·exact .inr (.inl ⟨hi,rfl,L,A⟩)
 have O: ∀i o,lk X.frh i=some o->ρ2 i=ρ i:=by intro i o ho;obtain⟨L,A,q3⟩:=c i o ho;have h1:=(b3 i o ho).1;have h2:=(U.wfh i o (by rw[Y];exact q3)).1;simp only[ρ2,A,La h1,La h2]
 have J: ∀i,lk m i=some none->ab.next<=ρ2 i/\ρ2 i<N2:=by intro i hi;rw[ar i hi];have:=a6 i hi;exact⟨Sd _ _,by simp only[N2];omega⟩
 let Z:Nat->Prop:=fun z=> ∃i,lk m i=some none/\z=ρ2 i
 have an:Cmp ρ ρ2 h (lkO X d) Z m:=by
  intro i z hz;obtain⟨hi,_,_⟩:=mk i z hz;obtain⟨o',L,A⟩:=ad i hi;cases z with
  |some b=>
   refine⟨W i b hz,?_⟩;rcases B i o' A with⟨b',ob,_,g2,u,g4,g5,_⟩|⟨_,_,u,_⟩|g
   ·rw[hz]at u;cases u;rw[Zc A,Zc g4,g5]
   ·rw[hz]at u;cases u
   ·rw[V i hi]at g;cases g
  |none=>
   refine⟨⟨i,hz,rfl⟩,?_⟩;rcases B i o' A with⟨b',ob,_,g2,u,g4,g5,_⟩|⟨_,_,u,t,g4⟩|g
   ·rw[hz]at u;cases u
   ·rw[Zc A,g4];rfl
   ·rw[V i hi]at g;cases g
 have a7: ∀i,((memN i (sh.objs.map (·.1))&&isSelf m i)||(match lk X.frh i with|some _=>true|none=>false))=true->ρ2 i=ρ i/\infO (lkO X d) i=infO h i:=by
  intro i hi;rw[Ld]at hi;rcases hi with hi|hi
  ·rw[Da]at hi;have h2:=hi.2;unfold isSelf at h2;split at h2
   ·rename_i b hb;have:=Bb h2;subst r;exact⟨W _ _ hb,(an _ _ hb).2⟩
   ·cases h2
  ·cases hl:lk X.frh i with
   |none=>rw[hl]at hi;cases hi
   |some o=> obtain⟨L,A,q3⟩:=c i o hl;exact⟨O i o hl,by rw[Zc L,Zc q3]⟩
 have hw:WfS X ρ2 G d N2:=by
  refine⟨fun i j o o' h1 h2 he=> ?_,fun i hi=>⟨?_,fun j o ho=> ?_⟩,fun t y hy=> ?_,fun i o ho=>(c i o ho).1,fun i hi=> ?_,fun i hi=> ?_,fun t y hy=> ?_,fun i o ho=> ?_⟩
  ·have old: ∀i b ob,lk m i=some (some b)->h b=some ob->ρ2 i<ab.next:=fun i b ob L A=>by rw[W i b L];exact U.lt b (U.wfh b ob (by rw[Y];exact A)).1
   have frm: ∀i o,lk X.frh i=some o->ρ2 i<ab.next:=fun i o q=>by rw[O i o q];exact U.lt i (U.wfh i o (by rw[Y];exact(c i o q).2.2)).1
   rcases B i o h1 with⟨b,ob,_,_,u,g4,_,g6⟩|⟨_,_,u,_⟩|g<;>rcases B j o' h2 with⟨b',ob',_,_,f3,f4,_,f6⟩|⟨_,_,f3,_⟩|f
   ·rw[W i b u,W j b' f3]at he;have:=U.inj b b' ob ob' (by rw[Y];exact g4) (by rw[Y];exact f4) he;subst r;exact bb i j b u f3
   ·have:=old i b ob u g4;have:=(J j f3).1;omega
   ·rw[W i b u,O j o' f]at he;have:=U.inj b j ob o' (by rw[Y];exact g4) (by rw[Y];exact(c j o' f).2.2) he;subst r;rw[f]at g6;cases g6
   ·have:=old j b' ob' f3 f4;have:=(J i u).1;omega
   ·rw[ar i u,ar j f3]at he;have e1:(pg m).idxOf i=(pg m).idxOf j:=by omega
    have l1:=a6 i u;have l2:=a6 j f3;have a1:(pg m)[(pg m).idxOf i]'l1=i:=List.getElem_idxOf l1;have a2:(pg m)[(pg m).idxOf j]'l2=j:=List.getElem_idxOf l2;have a3:(pg m)[(pg m).idxOf i]'l1=(pg m)[(pg m).idxOf j]'l2:=by simp only[e1]
    rw[a1,a2]at a3;exact a3
   ·have:=frm j o' f;have:=(J i u).1;omega
   ·rw[O i o g,W j b' f3]at he;have:=U.inj i b' o ob' (by rw[Y];exact(c i o g).2.2) (by rw[Y];exact f4) he;subst r;rw[g]at f6;cases f6
   ·have:=frm i o g;have:=(J j f3).1;omega
   ·rw[O i o g,O j o' f]at he;exact U.inj i j o o' (by rw[Y];exact(c i o g).2.2) (by rw[Y];exact(c j o' f).2.2) he
  ·have:=U.glt i hi;simp only[N2];omega
  ·rcases B j o ho with⟨b,ob,_,_,u,g4,_,_⟩|⟨_,_,u,_⟩|g
   ·rw[W j b u];exact(U.oth i hi).2 b ob (by rw[Y];exact g4)
   ·have:=(J j u).1;have:=U.glt i hi;omega
   ·rw[O j o g];exact(U.oth i hi).2 j o (by rw[Y];exact(c j o g).2.2)
  ·refine⟨?_,(U.fre t y hy).2⟩;simp only[lkE,av];cases hl:lk (si tmps a.1) t with
   |none=>exact hy
   |some z=> obtain⟨_,_,_,_,_,_,_,q⟩:=JD aq (by rw[k3,Ra]) hl;rw[be t q]at hy;cases hy
  ·rw[stN]at hi;simp only[ρ2];cases hl:lk m i with
   |none=>
    simp only;rw[La hi];split
    ·rename_i c9;have:=U.lt i c9;simp only[N2];omega
    ·simp only[N2];omega
   |some z=>
    cases z with
    |some b=>
     obtain⟨ao,_,_⟩:=mk i _ hl;obtain⟨o',L,A⟩:=ad i ao;rcases B i o' A with⟨b',ob,_,_,u,g4,_,_⟩|⟨_,_,u,_⟩|g
     ·rw[hl]at u;cases u;have:=U.lt b (U.wfh b ob (by rw[Y];exact g4)).1;simp only[N2];omega
     ·rw[hl]at u;cases u
     ·rw[V i ao]at g;cases g
    |none=>have:=a6 i hl;simp only[N2];omega
  ·rw[stN]at hi ⊢;have:lk m i=none:=by
    cases hl:lk m i with
    |none=>rfl
    |some z=>have:=hn i (mk i z hl).1;omega
   simp only[ρ2,r];rw[Ha (by omega)]
  ·rw[stN];simp only[lkE,av]at hy;cases hl:lk (si tmps a.1) t with
   |none=>rw[hl]at hy;exact bp t y hy
   |some z=> rw[hl]at hy;cases hy;obtain⟨j,v0,b,_,_,q3,q4,_⟩:=JD aq (by rw[k3,Ra]) hl;subst q4;exact nW fun i hi=>hn i (w1 i (bt b (Ua q3) i hi))
  ·rw[stN];rcases B i o ho with⟨b,ob,g1,g2,_⟩|⟨g1,g2,_⟩|g
   ·exact⟨hn i g1,yA fun j hj=>hn j (w2 j (bc (i,o) (Zg g2) j hj))⟩
   ·exact⟨hn i g1,yA fun j hj=>hn j (w2 j (bc (i,o) (Zg g2) j hj))⟩
   ·exact b3 i o g
 refine⟨ρ2,_,_,ba.trans (recast (Z:=Z) (lh2:=⟨N2,cG P X ρ2 G d⟩) (by simp only[N2];omega) (fun z hz=> ?_) (fun i o2 ho ca=> ?_) (fun t=> ?_)),hw.vw (P:=P),fun i hi=> ?_⟩
 ·obtain⟨i,hi,rfl⟩:=hz;obtain⟨L,A⟩:=J i hi;obtain⟨ao,_,_⟩:=mk i _ hi;obtain⟨o',g1,g2⟩:=ad i ao;refine⟨L,A,?_⟩;rcases B i o' g2 with⟨b',ob,_,_,u,_⟩|⟨_,_,_,t,g4⟩|g
  ·rw[hi]at u;cases u
  ·subst g4;refine⟨t,P.cellsOf t,?_⟩;show cG P X ρ2 G d (ρ2 i)=_;rw[Vo hw g2];rfl
  ·rw[V i ao]at g;cases g
 ·by_cases bj: ∃j oj,lkO X d j=some oj/\ρ2 j=i
  ·obtain⟨j,oj,hj,rfl⟩:=bj;simp only[Vo hw hj]at ho;rcases B j oj hj with⟨b,ob,g1,g2,u,g4,g5,_⟩|⟨_,_,u,_⟩|g
   ·rcases k5 j oj (Zg g2)with⟨b',on,L,A,_,_,_,q6⟩|⟨L,_⟩
    ·rw[u]at L;cases L;obtain⟨oa,ch,s1,s2,s3⟩:=q6 ρ ρ2 h (lkO X d) Z an;rw[ho]at s2;cases s2;refine⟨oa,?_,s3.ty,s3.k,s3.len,fun i row row2 hr bl=>⟨(s3.row i row row2 hr bl).1,fun j x y hx hy=> .inl ((s3.row i row row2 hr bl).2 j x y hx hy)⟩,s3.raw⟩;rw[W j b u];have hg:=U.heap b ob (by rw[Y];exact g4);rw[hg,Y,<-s1];unfold nrmH at A;rw[g4]at A;cases ob<;>simp only[Option.some.injEq]at A<;>subst A<;>first|rfl|exact lM.symm|exact gN.symm
    ·rw[u]at L;cases L
   ·exact absurd ⟨j,u,rfl⟩ ca
   ·obtain⟨L,A,q3⟩:=c j oj g;refine⟨o2,?_,RcO.refl _⟩;rw[O j oj g,U.heap j oj (by rw[Y];exact q3),Y,<-ho];have a8:=Xa.1 c7 _ (Zg g);have a8:=Xa.1 a8;cases oj with
    |cells ty cs=> simp only[trO];rw[Ya fun v hv=>(Sn (ρ:=ρ) (ρ2:=ρ2) (h:=h) (h2:=lkO X d) fun i hi=>a7 i (a8 i (Ub.2 ⟨v,hv,hi⟩))).symm]
    |slo t l1 cs l2=> simp only[trO];rw[Ya fun v hv=>(Sn (ρ:=ρ) (ρ2:=ρ2) (h:=h) (h2:=lkO X d) fun i hi=>a7 i (a8 i (Ub.2 ⟨v,hv,hi⟩))).symm]
    |_=>rfl
  ·simp only[iw (fun j oj hj e=>bj ⟨j,oj,hj,e⟩)]at ho;exact⟨o2,by rw[(U.oth i (by rw[ho];simp)).1];exact ho,RcO.refl _⟩
 ·rw[ax,U.env t,Y,b9];have cb:lkE X d t=(match lk (si tmps a.1) t with|some y=>some y|none=>lk X.frm t):=by unfold lkE;rw[av];cases lk (si tmps a.1) t<;>rfl
  rw[cb];cases hl:lk (si tmps a.1) t with
  |some y=>
   obtain⟨j,v0,b,L,A,q3,q4,_⟩:=JD aq (by rw[k3,Ra]) hl;subst q4;rw[L];simp only[trL];refine .v _ _ (wW ?_);have:=k4 ρ ρ2 h (lkO X d) Z an j (nrmT h v0) b (by rw[Ta,A];rfl) q3
   rwa [Il]at r
  |none=>
   cases bm:lk X.frm t with
   |none=>exact .any _
   |some y=>
    obtain⟨f1,f2⟩:=U.fre t y bm;rw[b9]at f1;rw[f1];have a8:=Xa.1 c6 _ (Zg bm);have a8:=Xa.1 a8;simp only;cases y with
    |any=>exact .any _
    |v t0=> simp only[trL];rw[NC (ρ:=ρ) (ρ2:=ρ2) (h:=h) (h2:=lkO X d) fun i hi=>a7 i (a8 i hi)];exact BO _
    |opt ks t0=>cases f2
    |tup ts=> simp only[trL];rw[Ya fun t0 ht=>NC (ρ:=ρ) (ρ2:=ρ2) (h:=h) (h2:=lkO X d) fun i hi=>a7 i (a8 i (Ub.2 ⟨t0,ht,hi⟩))];exact BO _
 ·cases hl:lk m i with
  |none=> simp only[ρ2,hl];rw[La (by omega),La (by rw[al.2];omega)]
  |some z=>
   have a9:=(mk i z hl).2.1 hi;unfold isSelf at a9;rw[hl]at a9;cases z with
   |none=>cases a9
   |some b=> have:=Bb a9;subst r;exact W _ _ hl
end
section
variable {P:Program} {I:Ip} {X:Cx I} {ρ:Nat->Nat} {G:Get} {st:ES I.C} {e:Env} {lh:LH} {nt:Nat}
theorem xC: ∀(l:List Nat) {fe:EEnv I.C},mq X st l=some fe-> ∀t y,lk fe t=some y->lkE X st t=some y/\eF y=true
 |[],fe,h,t,y,hl=>by cases h;cases hl
 |i::r,fe,h,t,y,hl=>by
  simp only[mq]at h;split at h
  ·rename_i x l h1 h2;cases h;rw[Zk]at hl;by_cases ht:t=i
   ·rw[La ht]at hl;cases hl;subst ht;exact⟨h1,rfl⟩
   ·rw[Ha ht]at hl;exact xC r h2 t y hl
  ·cases h
theorem wC: ∀(l:List Nat) {fo:EHeap I.C},lq X st l=some fo-> ∀t y,lk fo t=some y->lkO X st t=some y
 |[],fo,h,t,y,hl=>by cases h;cases hl
 |i::r,fo,h,t,y,hl=>by
  simp only[lq]at h;split at h
  ·rename_i x l h1 h2;cases h;rw[Zk]at hl;by_cases ht:t=i
   ·rw[La ht]at hl;cases hl;subst ht;exact h1
   ·rw[Ha ht]at hl;exact wC r h2 t y hl
  ·cases h
def frX(X:Cx I)(fe:EEnv I.C)(fo:EHeap I.C):Cx I:={X with frm:=fe++X.frm,frh:=fo++X.frh}
theorem dW{fe:EEnv I.C}{fo:EHeap I.C}(st:ES I.C)(t:Nat):lkE (frX X fe fo) st t=(match lk st.env t with|some x=>some x|none=>match lk fe t with|some x=>some x|none=>lk X.frm t):=by
 unfold lkE frX;simp only[qg];cases lk st.env t with
 |some x=>rfl
 |none=>cases lk fe t<;>rfl
theorem bW{fe:EEnv I.C}{fo:EHeap I.C}(st:ES I.C)(t:Nat):lkO (frX X fe fo) st t=(match lk st.heap t with|some x=>some x|none=>match lk fo t with|some x=>some x|none=>lk X.frh t):=by
 unfold lkO frX;simp only[qg];cases lk st.heap t with
 |some x=>rfl
 |none=>cases lk fo t<;>rfl
theorem sF{fe:EEnv I.C}{fo:EHeap I.C}(st:ES I.C):lkE X (unfr fe fo st)=lkE (frX X fe fo) st:=by
 funext t;rw[dW];unfold lkE unfr;simp only[qg];cases lk st.env t with
 |some x=>rfl
 |none=>cases lk fe t<;>rfl
theorem Ps{fe:EEnv I.C}{fo:EHeap I.C}(st:ES I.C):lkO X (unfr fe fo st)=lkO (frX X fe fo) st:=by
 funext t;rw[bW];unfold lkO unfr;simp only[qg];cases lk st.heap t with
 |some x=>rfl
 |none=>cases lk fo t<;>rfl
structure Kept (X:Cx I) (fe:EEnv I.C) (fo:EHeap I.C):Prop where
 e: ∀t x y,lk fe t=some y->lk X.frm t=some x->y=x
 o: ∀t x y,lk fo t=some y->lk X.frh t=some x->y=x
theorem rM(hv:Vw P X ρ G st e lh){lt lo:List Nat}{fe:EEnv I.C}{fo:EHeap I.C}(h1:mq X st lt=some fe)(h2:lq X st lo=some fo):Vw P (frX X fe fo) ρ G st e lh/\Kept X fe fo:=by
 have d:lkE (frX X fe fo) st=lkE X st:=by
  funext t;rw[dW];have:=xC lt h1 t;unfold lkE at c ⊢;cases f:lk st.env t with
  |some x=>rfl
  |none=>
   rw[f]at c;cases hf:lk fe t with
   |none=>rfl
   |some y=>exact(c y hf).1.symm
 have hO:lkO (frX X fe fo) st=lkO X st:=by
  funext t;rw[bW];have:=wC lo h2 t;unfold lkO at c ⊢;cases f:lk st.heap t with
  |some x=>rfl
  |none=>
   rw[f]at c;cases hf:lk fo t with
   |none=>rfl
   |some y=>exact(c y hf).symm
 refine⟨⟨by rw[d,hO];exact hv.env,by rw[hO];exact hv.heap,by rw[hO];exact hv.oth,by rw[hO];exact hv.inj,hv.lt,hv.up,fun t x ht=> ?_,fun i o hi=> ?_,hv.glt,by rw[d];exact hv.wfe,by rw[hO];exact hv.wfh⟩,?_,?_⟩
 ·rw[d];simp only[frX,qg]at ht;cases hf:lk fe t with
  |none=>rw[hf]at ht;exact hv.fre t x ht
  |some y=>rw[hf]at ht;cases ht;exact xC lt h1 t _ hf
 ·rw[hO];simp only[frX,qg]at hi;cases hf:lk fo i with
  |none=>rw[hf]at hi;exact hv.fro i o hi
  |some y=>rw[hf]at hi;cases hi;exact wC lo h2 i _ hf
 ·intro t x y j m;have:=(xC lt h1 t y j).1;rw[(hv.fre t x m).1]at c;exact(Option.some.inj c).symm
 ·intro t x y j m;have:=wC lo h2 t y j;rw[hv.fro t x m]at c;exact(Option.some.inj c).symm
theorem unframe{fe:EEnv I.C}{fo:EHeap I.C}(hk:Kept X fe fo)(hv:Vw P (frX X fe fo) ρ G st e lh):Vw P X ρ G (unfr fe fo st) e lh:=by
 refine⟨by rw[sF,Ps];exact hv.env,by rw[Ps];exact hv.heap,by rw[Ps];exact hv.oth,by rw[Ps];exact hv.inj,hv.lt,hv.up,fun t x ht=> ?_,fun i o hi=> ?_,hv.glt,by rw[sF];exact hv.wfe,by rw[Ps];exact hv.wfh⟩
 ·rw[sF];refine hv.fre t x ?_;simp only[frX,qg];cases hf:lk fe t with
  |none=>exact ht
  |some y=>rw[hk.e t x y hf ht]
 ·rw[Ps];refine hv.fro i o ?_;simp only[frX,qg];cases hf:lk fo i with
  |none=>exact hi
  |some y=>rw[hk.o i o y hf hi]
theorem Ol: ∀(l:List (Nat×OSh)) (n:Nat),n<=dh n l
 |[],n=>Va n
 |(i,_)::r,n=>by
  simp only[dh];refine Sb ?_ (Ol r _);cases h:Nat.ble (i+1) n with
  |true=>exact Va n
  |false=>
   simp only[Ia];have: ¬(i+1<=n):=fun h'=>by rw[Nat.ble_eq_true_of_le h']at h;cases h
   omega
theorem cu: ∀(l:List (Nat×OSh)) (n i:Nat),i∈l.map (·.1)->i<dh n l
 |(j,_)::r,n,i,h=>by
  simp only[dh];rcases ma.1 h with h|h
  ·subst h;refine Mc ?_ (Ol r _);cases h:Nat.ble (i+1) n with
   |true=>exact Rc h
   |false=>exact Dc i
  ·exact cu r _ i h
theorem SW.next{c:Code}{Q:Post}(h:SW P nt c Q e lh):SW P nt c (fun x e' d=>Q x e' d/\lh.next<=d.next) e lh:=
 fun ι a w f=>Code.wp_mono (fun _ _ _ ⟨ι',e',d,h1,h2,h3,h4⟩=>⟨ι',e',d,⟨h1,h4⟩,h2,h3,h4⟩) (h ι a w f)
theorem Vw.le{st2:ES I.C}{e2:Env}{lh2:LH}(h:Vw P X ρ G st e lh)(h2:Vw P X ρ G st2 e2 lh2)(hl:lh.next<=lh2.next):st.next<=st2.next:=by have a:=h.up (st.next+st2.next) (Sd _ _);have b:=h2.up (st.next+st2.next) (Nat.le_add_left _ _);omega
theorem H6{S Y R:Type}{step:S->Option (LO S Y R)}{s:S}{x:LX Y R}(h:Rh step s=some x): ∃n,Qs step n s=some x:=by
 unfold Rh at h;split at h
 ·rename_i c;injection h with h;exact⟨c.choose,by rw[<-h];exact c.choose_spec.choose_spec⟩
 ·cases h
theorem Sl{α R:Type}{c:Option α}{f:α->Option R}{r:R}(h:optB c f=some r): ∃x,c=some x/\f x=some r:=by
 cases c with
 |none=>cases h
 |some x=>exact⟨x,rfl,h⟩
def vv(P:Program)(p:Nat)(X:Cx I)(ρ:Nat->Nat)(G:Get){R:Type}(K:Exit->ES I.C->Option R)(r:R):Post:=fun x e' d=>
 ∃ρ' c,K x c=some r/\Vw P X ρ' G c e' d/\p<=c.next/\ ∀i,i<p->ρ' i=ρ i
theorem rF(hv:Vw P X ρ G st e lh){n:Nat}(hn:st.next<=n):(∀t y,lk X.frm t=some y->wfL n y=true)/\ ∀i o,lk X.frh i=some o->i<n/\wfO n o=true:=by refine⟨fun t y ht=>MO hn (hv.wfe t y (hv.fre t y ht).1),fun i o ho=> ?_⟩;obtain⟨h1,h2⟩:=hv.wfh i o (hv.fro i o ho);exact⟨Mc h1 hn,VH hn h2⟩
theorem CE(l:List Nat):InjM (selfs l):=by
 have: ∀(l:List Nat) i a,lk (selfs l) i=some (some a)->i=a:=by
  intro l
  induction l with
  |nil=>intro i a h;cases h
  |cons j r d=>
   intro i a h;have h:lk ((j,some j)::selfs r) i=some (some a):=h;rw[Zk]at h;by_cases hi:i=j
   ·rw[La hi]at h;cases h;exact hi
   ·rw[Ha hi]at h;exact d i a h
 intro i j a h1 h2;rw[c l i a h1,c l j a h2]
end
section
variable {P:Program} {I:Ip} {nt:Nat} {G:Get}
theorem NZ{X:Cx I}{ρ:Nat->Nat}{st:ES I.C}{e:Env}{lh:LH}(hv:Vw P X ρ G st e lh){c:Operand}{b:Bool}(h:useE [] (opdE X st c)=some (.c (.bool b)))(ι:Asg)(a:Act)(w:World)(d:Qt ι w nt e a):a.eval c= .bool b:=by have h1:=Tt hv (.inl rfl) c _ h;have h2:=zR (Bz d) c;rw[h1]at h2;exact Vz (t:=trT ρ (lkO X st) (.c (.bool b))) rfl h2
theorem sI{X:Cx I}: ∀(l:List (Nat×Option Nat)) (st:ES I.C),(preE X l st).next=st.next
 |[],st=>rfl
 |p::r,st=>by
  simp only[preE];split
  ·rename_i id _;rw[sI r];exact(NE [id] st).2
  ·exact sI r st
theorem eZ {S Y R:Type} {step:S->Option (LO S Y R)} {z:LX Y R} {n0:Nat} {y:S} (hit:Qs step n0 y=some z) (J:S->(Nat->Nat)->Env->LH->Prop) {body:Code} {Q:Post} {e e1:Env} {lh j:LH} {p:Nat->Nat} (h0:J y p e1 j) (A:Sub nt e lh e1 j)
  (again: ∀s c f lhs r,J s c f lhs->step s=some (.again r)->SW P nt body (Ev (fun e' i=> ∃ρ2 e2 lh2,J r ρ2 e2 lh2/\Sub nt e' i e2 lh2) Q) f lhs)
  (out: ∀s c f lhs x,J s c f lhs->step s=some (.out x)->z= .out x->SW P nt body (Ev (fun _ _=>False) Q) f lhs)
  (ret: ∀s c f lhs x,J s c f lhs->step s=some (.ret x)->z= .ret x->SW P nt body (Ev (fun _ _=>False) Q) f lhs):SW P nt (.loop body) Q e lh:=by
 refine nI (α:=Nat×S×(Nat->Nat)×Env×LH) (fun x=>x.2.2.2.1) (fun x=>x.2.2.2.2) (fun x=>Qs step x.1 x.2.1=some z/\J x.2.1 x.2.2.1 x.2.2.2.1 x.2.2.2.2) (fun x=>x.1) (n0,y,p,e1,j) ⟨hit,h0⟩ A ?_;rintro⟨k,s,c,f,lhs⟩ ⟨m,u⟩;cases k with
 |zero=>cases m
 |v k=>
  simp only[Qs]at m;split at m
  ·cases m
  ·rename_i r hst;refine SW.mono (again s c f lhs r u hst) fun x e' i h=> ?_;cases x with
   |d=> obtain⟨ρ2,e2,lh2,h1,h2⟩:=h;exact⟨(k,r,ρ2,e2,lh2),⟨m,h1⟩,Dc k,h2⟩
   |_=>exact h
  ·rename_i x hst;cases m;refine SW.mono (out s c f lhs x u hst rfl) fun x e' i h=> ?_;cases x with
   |d=>exact False.elim h
   |_=>exact h
  ·rename_i x hst;cases m;refine SW.mono (ret s c f lhs x u hst rfl) fun x e' i h=> ?_;cases x with
   |d=>exact False.elim h
   |_=>exact h
theorem K4(a5:P.follows .mixedOrders=true)(hI:IpOK P I){A:Env0 I}(hS: ∀c∈A.S,zn P c):
  ∀(c:Code) {X:Cx I} {R:Type} {K:Exit->ES I.C->Option R} {st:ES I.C} {r:R} {ρ:Nat->Nat} {e:Env} {lh:LH},TOK P X.T X.fk->evC A nt c X K st=some r->Vw P X ρ G st e lh->A.p<=st.next->
   SW P nt c (vv P A.p X ρ G K r) e lh:=by
 intro c
 induction c with
 |skip=> intro X R K st r ρ e lh J h hv hp;exact SW.end_ (x:= .normal) ⟨ρ,st,h,hv,hp,fun _ _=>rfl⟩ (fun _ _ _=>wp_skip)
 |an l=> intro X R K st r ρ e lh J h hv hp;exact SW.end_ (x:= .normal) ⟨ρ,st,h,hv,hp,fun _ _=>rfl⟩ (fun _ _ _=>wp_label)
 |O id=> intro X R K st r ρ e lh J h hv hp;exact SW.end_ (x:= .exit id) ⟨ρ,st,h,hv,hp,fun _ _=>rfl⟩ (fun _ _ _=>wp_exit)
 |ret=> intro X R K st r ρ e lh J h hv hp;exact SW.end_ (x:= .ret) ⟨ρ,st,h,hv,hp,fun _ _=>rfl⟩ (fun _ _ _=>wp_ret)
 |am id ops Z=>
  intro X R K st r ρ e lh J h hv hp;obtain⟨e0,lh0,s0,v0⟩:=fJ (nt:=nt) hI (lkD A.cls id) hv;obtain⟨e1,ab,ao,v1⟩:=RH (nt:=nt) hI (lkD A.pre id) v0;have s1:=s0.trans ao;have fin: ∀{Q:Post},SW P nt (.region id ops Z) Q e1 ab->(∀x e' f,Q x e' f->x= .normal/\ ∃d,K .normal {d with env:=qK d.env}=some r/\Vw P X ρ G d e' f)->SW P nt (.region id ops Z) (vv P A.p X ρ G K r) e lh:=by intro Q ap hq;refine SW.sub s1 (SW.post (SW.next ap) fun x e' f ⟨hQ,aq⟩=> ?_);obtain⟨rfl,d,k1,k2⟩:=hq x e' f hQ;obtain⟨e2,lh2,s2,v2⟩:=kX (nt:=nt) k2;refine⟨e2,lh2,s2,ρ,_,k1,v2,?_,fun _ _=>rfl⟩;have:=Vw.le v1 k2 aq;have h3:(preE X (lkD A.pre id) (uj X (lkD A.cls id) st)).next=st.next:=(sI _ _).trans (gJ _ _).2;show A.p<=d.next;omega
  cases Z with
  |false=>
   simp only[evC]at h;split at h
   ·exact fin (A9 (Q:=fun x e' f=>x= .normal/\ ∃d,K .normal {d with env:=qK d.env}=some r/\Vw P X ρ G d e' f) (K:=fun d=>K .normal {d with env:=qK d.env}) hI J hS v1 h fun d e' f h1 h2=>⟨rfl,d,h1,h2⟩) fun x e' f hq=>hq
   ·exact fin (zpq (Q:=fun x e' f=>x= .normal/\ ∃d,K .normal {d with env:=qK d.env}=some r/\Vw P X ρ G d e' f) hI J hS v1 h fun d e' f h1 h2=>⟨rfl,d,h1,h2⟩) fun x e' f hq=>hq
  |true=>
   simp only[evC]at h;split at h
   ·exact fin (C9 (Q:=fun x e' f=>x= .normal/\ ∃d,K .normal {d with env:=qK d.env}=some r/\Vw P X ρ G d e' f) (K:=fun d=>K .normal {d with env:=qK d.env}) a5 hI J hS v1 h fun d e' f h1 h2=>⟨rfl,d,h1,h2⟩) fun x e' f hq=>hq
   ·exact fin (zrx (Q:=fun x e' f=>x= .normal/\ ∃d,K .normal {d with env:=qK d.env}=some r/\Vw P X ρ G d e' f) (K:=fun d=>K .normal {d with env:=qK d.env}) a5 hI J hS v1 h fun d e' f h1 h2=>⟨rfl,d,h1,h2⟩) fun x e' f hq=>hq
 |seq a b ad al=>
  intro X R K st r ρ e lh J h hv hp;simp only[evC]at h;split at h
  ·refine SW.seq (SW.mono (ad J h hv hp) fun x e' f ⟨ρ',d,h1,h2,h3,h4⟩=> ?_);cases x with
   |v=>exact SW.mono (al J h1 h2 h3) fun x e2 lh2 ⟨ρ2,st2,k1,k2,k3,k4⟩=>⟨ρ2,st2,k1,k2,k3,fun i hi=>(k4 i hi).trans (h4 i hi)⟩
   |_=>exact⟨ρ',d,h1,h2,h3,h4⟩
  ·rename_i c _;split at h
   ·rename_i fe fo a6 a7;obtain⟨W,B⟩:=rM hv a6 a7;obtain⟨z,a8,U⟩:=Ca.1 h;have Y:TOK P (frX X fe fo).T (frX X fe fo).fk:=J;have ha:=ad (X:=frX X fe fo) Y a8 W hp;refine SW.seq (SW.mono ha fun x e' f ⟨ρ',d,h1,h2,h3,h4⟩=> ?_);have other: ∀(x:Exit),(K x (unfr fe fo d)).map LX.ret=some z->vv P A.p X ρ G K r x e' f:=by intro x h1;obtain⟨y,q1,q2⟩:=Lb.1 h1;subst q2;simp only[Option.some.injEq]at U;subst U;exact⟨ρ',_,q1,unframe B h2,h3,h4⟩
    cases x with
    |v=>
     obtain⟨vs,q1,q2⟩:=Sl h1;obtain⟨⟨y,m⟩,q3,q4⟩:=Ca.1 q2;cases q4;obtain⟨w1,w2⟩:=rF (st:=st) W (Ol c.sh.objs st.next);obtain⟨ρ2,e2,lh2,s2,v2,g2⟩:=Dy (nt:=nt) hI h2 q1 (CE _) q3 (fun i hi=>cu _ _ i hi) w1 w2 h3 (Sb hp (Ol _ _));refine SW.sub s2 (SW.mono (al (X:=frX X fe fo) Y U v2 (Sb hp (Ol _ _))) fun x e3 b5 ⟨ar,st3,k1,k2,k3,k4⟩=>⟨ar,_,k1,unframe B k2,k3,fun i hi=> ?_⟩);rw[k4 i hi,g2 i hi,h4 i hi]
    |O i=>exact other (.exit i) h1
    |V l=>exact other (.goto l) h1
    |ret=>exact other .ret h1
    |panic c=>exact other (.panic c) h1
    |j=>exact other .outgrown h1
   ·cases h
 |cond c x y av aw=>
  intro X R K st r ρ e lh J h hv hp;simp only[evC]at h;split at h
  ·rename_i b hb;refine SW.cond (b:=b) (fun ι a w hE=>NZ hv hb ι a w hE) (fun hb=> ?_) (fun hb=> ?_)
   ·subst hb;exact av J h hv hp
   ·subst hb;exact aw J h hv hp
  ·cases h
 |block id c ih=>
  intro X R K st r ρ e lh J h hv hp;simp only[evC]at h;refine SW.block (SW.mono (ih J h hv hp) fun x e' f ⟨ρ',d,h1,h2,h3,h4⟩=> ?_);cases x with
  |O i=>
   simp only[BB];by_cases hi:i=id
   ·rw[La hi];simp only[hi,Yf,Ka]at h1;exact⟨ρ',d,h1,h2,h3,h4⟩
   ·rw[Ha hi];have hb:Nat.beq i id=false:=by
     cases hb:Nat.beq i id with
     |false=>rfl
     |true=>exact absurd (Bb hb) hi
    simp only[hb,Ia]at h1;exact⟨ρ',d,h1,h2,h3,h4⟩
  |_=>exact⟨ρ',d,h1,h2,h3,h4⟩
 |scope c ih=>
  intro X R K st r ρ e lh J h hv hp;simp only[evC]at h;refine SW.scope (SW.mono (ih J h hv hp) fun x e' f ⟨ρ',d,h1,h2,h3,h4⟩=> ?_);cases x with
  |V l=>cases h1
  |_=>exact⟨ρ',d,h1,h2,h3,h4⟩
 |loop c ih=>
  intro X R K st r ρ e lh J h hv hp;simp only[evC]at h;split at h
  ·cases h
  ·rename_i u _;split at h
   ·rename_i fe fo a6 a7;obtain⟨W,B⟩:=rM hv a6 a7;have Y:TOK P (frX X fe fo).T (frX X fe fo).fk:=J;obtain⟨vs,q1,q2⟩:=Sl h;obtain⟨⟨y,m⟩,q3,q4⟩:=Ca.1 q2;obtain⟨z,a8,U⟩:=Ca.1 q4;obtain⟨n0,hit⟩:=H6 a8;have L:=Ol u.sh.objs st.next;have a9:=Ol u.xsh.objs (dh st.next u.sh.objs);obtain⟨w1,w2⟩:=rF (st:=st) W L;obtain⟨w3,w4⟩:=rF (st:=st) W (Sb L a9);obtain⟨b6,e1,ab,s1,v1,g1⟩:=Dy (nt:=nt) hI W q1 (CE _) q3 (fun i hi=>cu _ _ i hi) w1 w2 hp (Sb hp L);refine SW.post (Q:=fun x e' f=> ∃e2 lh2,Sub nt e' f e2 lh2/\vv P A.p X ρ G K r x e2 lh2) ?_ (fun x e' f h=>h);refine eZ hit (fun s a3 es lhs=>Vw P (frX X fe fo) a3 G (encS u.sh u.tmps (dh st.next u.sh.objs) s) es lhs/\ ∀i,i<A.p->a3 i=ρ i) ⟨v1,g1⟩ s1 ?_ ?_ ?_
    ·-- another round
     intro s a3 es lhs s' ⟨i2,i3⟩ hs;refine SW.mono (ih (X:=frX X fe fo) Y hs i2 (Sb hp L)) fun x e' f ⟨ρ',d,h1,h2,h3,h4⟩=> ?_;cases x with
     |v=>
      obtain⟨vs,r1,r2⟩:=Sl h1;obtain⟨⟨y',m'⟩,r3,r4⟩:=Ca.1 r2;cases r4;obtain⟨ρ2,e2,lh2,s2,v2,g2⟩:=Dy (nt:=nt) hI h2 r1 (CE _) r3 (fun i hi=>cu _ _ i hi) w1 w2 h3 (Sb hp L);exact⟨ρ2,e2,lh2,⟨v2,fun i hi=>by rw[g2 i hi,h4 i hi,i3 i hi]⟩,s2⟩
     |O i=>
      exfalso;simp only at h1;cases hb:Nat.beq i u.xid with
      |true=>
       rw[hb]at h1;obtain⟨vs,r1,r2⟩:=Sl h1;obtain⟨p',r3,r4⟩:=Ca.1 r2;cases r4
      |false=> rw[hb]at h1;obtain⟨y,r1,r2⟩:=Lb.1 h1;cases r2
     |V l=>obtain⟨y,r1,r2⟩:=Lb.1 h1;cases r2
     |ret=>obtain⟨y,r1,r2⟩:=Lb.1 h1;cases r2
     |panic c=>obtain⟨y,r1,r2⟩:=Lb.1 h1;cases r2
     |j=>obtain⟨y,r1,r2⟩:=Lb.1 h1;cases r2
    ·-- out
     intro s a3 es lhs xo ⟨i2,i3⟩ hs hz;subst hz;refine SW.mono (ih (X:=frX X fe fo) Y hs i2 (Sb hp L)) fun x e' f ⟨ρ',d,h1,h2,h3,h4⟩=> ?_;cases x with
     |v=>
      exfalso;obtain⟨vs,r1,r2⟩:=Sl h1;obtain⟨p',r3,r4⟩:=Ca.1 r2;cases r4
     |O i=>
      simp only at h1;cases hb:Nat.beq i u.xid with
      |true=>
       rw[hb]at h1;obtain⟨vs,r1,r2⟩:=Sl h1;obtain⟨⟨y',m'⟩,r3,r4⟩:=Ca.1 r2;cases r4;obtain⟨ρ2,e2,lh2,s2,v2,g2⟩:=Dy (nt:=nt) hI h2 r1 (CE _) r3 (fun i hi=>cu _ _ i hi) w3 w4 h3 (Sb hp (Sb L a9));have:=Bb hb;subst b3;exact⟨e2,lh2,s2,ρ2,_,U,unframe B v2,Sb hp (Sb L a9),fun i hi=>by rw[g2 i hi,h4 i hi,i3 i hi]⟩
      |false=> rw[hb]at h1;obtain⟨y,r1,r2⟩:=Lb.1 h1;cases r2
     |V l=>obtain⟨y,r1,r2⟩:=Lb.1 h1;cases r2
     |ret=>obtain⟨y,r1,r2⟩:=Lb.1 h1;cases r2
     |panic c=>obtain⟨y,r1,r2⟩:=Lb.1 h1;cases r2
     |j=>obtain⟨y,r1,r2⟩:=Lb.1 h1;cases r2
    ·-- the end, by way of the loop
     intro s a3 es lhs rr ⟨i2,i3⟩ hs hz;subst hz;refine SW.mono (ih (X:=frX X fe fo) Y hs i2 (Sb hp L)) fun x e' f ⟨ρ',d,h1,h2,h3,h4⟩=> ?_;have other: ∀(x:Exit),(K x (unfr fe fo d)).map LO.ret=some (LO.ret (S:=(u.sh.sl I).T) (X:=(u.xsh.sl I).T) rr)-> ∃e2 lh2,Sub nt e' f e2 lh2/\vv P A.p X ρ G K r x e2 lh2:=by intro x h1;obtain⟨y,q1,q2⟩:=Lb.1 h1;cases q2;simp only[Option.some.injEq]at U;subst U;exact⟨e',f,Sub.refl _ _ _,ρ',_,q1,unframe B h2,h3,fun i hi=>by rw[h4 i hi,i3 i hi]⟩
     cases x with
     |v=>
      exfalso;obtain⟨vs,r1,r2⟩:=Sl h1;obtain⟨p',r3,r4⟩:=Ca.1 r2;cases r4
     |O i=>
      simp only at h1;cases hb:Nat.beq i u.xid with
      |true=>
       exfalso;rw[hb]at h1;obtain⟨vs,r1,r2⟩:=Sl h1;obtain⟨⟨y',m'⟩,r3,r4⟩:=Ca.1 r2;cases r4
      |false=> rw[hb]at h1;exact other (.exit i) h1
     |V l=>exact other (.goto l) h1
     |ret=>exact other .ret h1
     |panic c=>exact other (.panic c) h1
     |j=>exact other .outgrown h1
   ·cases h
 |_=>intro X R K st r ρ e lh J h;cases h
end
theorem Om{α:Type}(q:Nat->Bool)(i:Nat): ∀(l:List (Nat×α)),lk (l.filter fun o=>q o.1) i=(if q i=true then lk l i else none)
 |[]=>by simp[lk]
 |(j,x)::r=>by
  rw[List.filter_cons];by_cases d:i=j
  ·subst d;cases f:q i with
   |true=>rw[La rfl,La rfl,Zk,Zk,La rfl,La rfl]
   |false=> have:=Om q i r;rw[f]at c;rw[Ha (by simp),c];simp
  ·have m:=Om q i r;rw[Zk,Ha d,<-m];split
   ·rw[Zk,Ha d]
   ·rfl
theorem XH{α:Type}{get:Get}{f:Nat->Nat}{g:α->Option OB}{i:Nat}: ∀{l:List (Nat×α)} {o:α},(∀p∈l,f p.1=f i->p.1=i)->lk l i=some o->upd get (l.map fun p=>(f p.1,g p.2)) (f i)=g o
 |(j,m)::r,o,c,hl=>by
  rw[Zk]at hl;simp only[aa,upd];by_cases d:i=j
  ·subst d;rw[La rfl]at hl;cases hl;rw[La rfl]
  ·rw[Ha d]at hl;rw[Ha (fun h=>d (c (j,m) (Jb ..) h.symm).symm)];exact XH (fun p hp=>c p (Eb _ hp)) hl
section
variable {I:Ip}
theorem bO: ∀(l:List (ET I.C)) (i j:Nat),lk (Er i l) j=if i<=j then(match l[j - i]? with|some t=>some (.v t)|none=>none)else none
 |[],i,j=>by simp[Er,lk]
 |t::r,i,j=>by
  simp only[Er];rw[Zk];by_cases h:j=i
  ·subst h;simp
  ·rw[Ha h,bO r (i+1) j];by_cases h2:i<=j
   ·rw[La h2,La (by omega),show j - i=(j - (i+1))+1 by omega,Ef]
   ·rw[Ha h2,Ha (by omega)]
def inX(con:Con I)(T:TT)(fk:List (Nat×List Kd))(x:(con.inS.sl I).T):Cx I:=⟨T,fk,[],((con.inS.sl I).enc x).2.filter fun o=>memN o.1 con.cst⟩
def inE(con:Con I)(x:(con.inS.sl I).T):ES I.C:=⟨Er 0 ((con.inS.sl I).enc x).1,((con.inS.sl I).enc x).2.filter fun o=> !(memN o.1 con.cst),con.inS.objs.length⟩
def inR(con:Con I)(ρ:Nat->Nat)(M:Nat):Nat->Nat:=fun i=>if i<con.inS.objs.length then ρ i else M+(i - con.inS.objs.length)
open Classical in
noncomputable def inG(con:Con I)(ρ:Nat->Nat)(get:Get):Get:=fun i=>if∃j,j<con.inS.objs.length/\ρ j=i then none else get i
theorem oq(con:Con I)(T:TT)(fk:List (Nat×List Kd))(x:(con.inS.sl I).T):lkO (inX con T fk x) (inE con x)=lk ((con.inS.sl I).enc x).2:=by
 funext i;unfold lkO inX inE;simp only;rw[Om (fun i=> !memN i con.cst),Om (fun i=>memN i con.cst)];cases memN i con.cst with
 |true=>rfl
 |false=>simp only[Ec,Td];cases lk ((con.inS.sl I).enc x).2 i<;>rfl
theorem aW(con:Con I)(T:TT)(fk:List (Nat×List Kd))(x:(con.inS.sl I).T)(t:Nat):lkE (inX con T fk x) (inE con x) t=(match((con.inS.sl I).enc x).1[t]? with|some t=>some (.v t)|none=>none):=by unfold lkE inX inE;simp only;rw[bO,La (Pb _),Nat.sub_zero];cases ((con.inS.sl I).enc x).1[t]? <;>rfl
variable {P:Program}
structure WfIn (con:Con I) (x:(con.inS.sl I).T):Prop where
 keys:((con.inS.sl I).enc x).2.map (·.1)=List.range con.inS.objs.length
 r1: ∀t∈((con.inS.sl I).enc x).1,∀i∈Qp t,i<con.inS.objs.length
 r2: ∀o∈((con.inS.sl I).enc x).2,∀i∈Aj o.2,i<con.inS.objs.length
theorem wfIn(hI:IpOK P I){con:Con I}(c:Fj con=true)(x:(con.inS.sl I).T):WfIn con x:=by simp only[Fj,Da]at c;obtain⟨⟨⟨⟨⟨⟨⟨c1,c2⟩,c3⟩,c4⟩,c5⟩,r⟩,u⟩,v⟩:=c;have hk:=ut c1;obtain⟨p,_⟩:=mo (P:=P) hI con.inS;obtain⟨d,f⟩:=UB (P:=P) hI con.inS x;simp only[wfSt,Da]at c2;have j:=QD.1 c2.1;have m:=QD.1 c2.2;simp only[Ab,hk,Oc]at j m;exact⟨by rw[p,hk],fun t ht i hi=>j i (d t ht i hi),fun o ho i hi=>m i (f o ho i hi)⟩
theorem WA{con:Con I}{x:(con.inS.sl I).T}(h:WfIn con x){i:Nat}:(∃o,lk ((con.inS.sl I).enc x).2 i=some o)↔i<con.inS.objs.length:=by
 constructor
 ·intro ⟨o,ho⟩;have:i∈((con.inS.sl I).enc x).2.map (·.1):=Oa.2 ⟨_,Zg ho,rfl⟩;rw[h.keys]at c;exact Oc.1 c
 ·intro hi;exact Zf (by rw[h.keys];exact Oc.2 hi)
theorem VA(hI:IpOK P I){con:Con I}{x:(con.inS.sl I).T}{ρ:Nat->Nat}{h:Nat->Option (EO I.C)}{i:Nat}{o:EO I.C}(ho:lk ((con.inS.sl I).enc x).2 i=some o): ∃ob,trO P ρ h o=some ob:=by
 obtain⟨s,_,⟨t,c,e,_⟩|⟨ty,cs,e,_⟩|⟨t,l1,cs,l2,_,_,e⟩⟩:=Un con.inS x _ (Zg ho)
 ·simp only at e;subst e;exact⟨_,rfl⟩
 ·simp only at e;subst e;exact⟨_,rfl⟩
 ·simp only at e;subst e;exact⟨_,rfl⟩
theorem zCk (hI:IpOK P I) {con:Con I} (u:Fj con=true) (x:(con.inS.sl I).T) (T:TT) (fk:List (Nat×List Kd)) {ρ:Nat->Nat} {M:Nat} {get:Get}
  (p: ∀i j,i<con.inS.objs.length->j<con.inS.objs.length->ρ i=ρ j->i=j) (d: ∀id o,get id=some o->id<M)
  (z: ∀q∈((con.inS.sl I).enc x).2.filterMap fun o=>(trO P ρ (lk ((con.inS.sl I).enc x).2) o.2).map fun ob=>(ρ o.1,ob),get q.1=some q.2):
  Vw P (inX con T fk x) (inR con ρ M) (inG con ρ get) (inE con x) (Lp 0 (((con.inS.sl I).enc x).1.map (trT ρ (lk ((con.inS.sl I).enc x).2)))) ⟨M,get⟩:=by
 have f:=wfIn hI u x;have hr: ∀i,i<con.inS.objs.length->inR con ρ M i=ρ i:=fun i hi=>La hi;have r: ∀i o,lk ((con.inS.sl I).enc x).2 i=some o->get (ρ i)=trO P ρ (lk ((con.inS.sl I).enc x).2) o:=by intro i o ho;obtain⟨ob,c⟩:=VA (P:=P) hI (ρ:=ρ) (h:=lk ((con.inS.sl I).enc x).2) ho;rw[c];exact z (ρ i,ob) (je.2 ⟨(i,o),Zg ho,by rw[c];rfl⟩)
 have A: ∀i,i<con.inS.objs.length->ρ i<M:=by intro i hi;obtain⟨o,ho⟩:=(WA f).2 hi;obtain⟨ob,c⟩:=VA (P:=P) hI (ρ:=ρ) (h:=lk ((con.inS.sl I).enc x).2) ho;exact d _ ob (by rw[r i o ho,c])
 have hid: ∀i o,lk ((con.inS.sl I).enc x).2 i=some o->i<con.inS.objs.length:=fun i o ho=>(WA f).1 ⟨o,ho⟩;refine⟨fun t=> ?_,fun id o ho=> ?_,fun i hi=> ?_,fun i j o o' ho m e=> ?_,fun id hi=> ?_,fun id hi=> ?_,fun t y h=> ?_,fun i o ho=> ?_,fun i hi=> ?_,fun t y h=> ?_,fun id o ho=> ?_⟩
 ·rw[aW,SE,La (Pb _),Nat.sub_zero,Ta];cases ht:((con.inS.sl I).enc x).1[t]? with
  |none=>rfl
  |some v=> simp only[Kb,trL];rw[oq];congr 1;exact(NC fun i hi=>⟨hr i (f.r1 v (Ua ht) i hi),rfl⟩).symm
 ·rw[oq]at ho ⊢;show get _=_;rw[hr id (hid id o ho),r id o ho];cases o with
  |cells ty cs=> simp only[trO];rw[Ya fun v hv=>(Sn (ρ:=ρ) (ρ2:=inR con ρ M) (h:=lk ((con.inS.sl I).enc x).2) (h2:=lk ((con.inS.sl I).enc x).2) fun i hi=>⟨hr i (f.r2 _ (Zg ho) i (Ub.2 ⟨v,hv,hi⟩)),rfl⟩).symm]
  |slo t l1 cs l2=> simp only[trO];rw[Ya fun v hv=>(Sn (ρ:=ρ) (ρ2:=inR con ρ M) (h:=lk ((con.inS.sl I).enc x).2) (h2:=lk ((con.inS.sl I).enc x).2) fun i hi=>⟨hr i (f.r2 _ (Zg ho) i (Ub.2 ⟨v,hv,hi⟩)),rfl⟩).symm]
  |_=>rfl
 ·unfold inG at hi ⊢;split at hi
  ·exact absurd rfl hi
  ·rename_i hn;rw[Ha hn];refine⟨rfl,fun id o ho e=>hn ?_⟩;rw[oq]at ho;exact⟨id,hid id o ho,by rw[<-e,hr id (hid id o ho)]⟩
 ·rw[oq]at ho m;rw[hr i (hid i o ho),hr j (hid j o' m)]at e;exact p i j (hid i o ho) (hid j o' m) e
 ·rw[hr id hi];exact A id hi
 ·have: ¬id<con.inS.objs.length:=Nat.not_lt.2 hi;show inR con ρ M id=_;unfold inR;rw[Ha B];rfl
 ·cases h
 ·rw[oq];have ho:lk (((con.inS.sl I).enc x).2.filter fun o=>memN o.1 con.cst) i=some o:=ho;rw[Om (fun i=>memN i con.cst)]at ho;split at ho
  ·exact ho
  ·cases ho
 ·unfold inG at hi;split at hi
  ·exact absurd rfl hi
  ·cases J:get i with
   |none=>exact absurd J hi
   |some o=>exact d i o J
 ·rw[aW]at h;split at h
  ·rename_i v hv;cases h;exact nW (f.r1 v (Ua hv))
  ·cases h
 ·rw[oq]at ho;exact⟨hid id o ho,yA (f.r2 _ (Zg ho))⟩
end
section
variable {I:Ip} {P:Program}
theorem zEe{f:Nat->Nat}{k nx:Nat}{i:Nat}(d: ∀j,j<k->f j=f i->j=i)(hi:i<k):rnI ((List.range k).map f) nx (f i)=nx+i:=by
 unfold rnI;cases h:((List.range k).map f).idxOf? (f i)with
 |none=>exact absurd (Oa.2 ⟨i,Oc.2 hi,rfl⟩) (pO h)
 |some j=>
  have:=yC h;rw[Ta]at c;cases m:(List.range k)[j]? with
  |none=>rw[m]at c;cases c
  |some p=> rw[m]at c;obtain⟨h1,h2⟩:=Fa.1 m;simp at h1 h2;subst h2;simp only[Kb,Option.some.injEq]at c;rw[d j h1 c]
theorem zCY{c:List Nat}{nx i:Nat}(h:i ∉ c):rnI c nx i=i:=by
 unfold rnI;cases d:c.idxOf? i with
 |none=>rfl
 |some j=>exact absurd (Ua (yC d)) h
theorem iA{ρ ρ2:Nat->Nat}{h h2:Nat->Option (EO I.C)}{j:List Nat}{nx:Nat}{v:EV I.C}(hr: ∀i∈Ze v,rnI j nx (ρ2 i)=ρ i/\infO h2 i=infO h i):rnC j nx (trV ρ2 h2 v)=trV ρ h v:=by
 cases v with
 |own id=> obtain⟨h1,d⟩:=hr id (by simp[Ze]);rw[Sj,Sj,d,<-h1];split<;>rfl
 |osl id off n=>simp only[trV,rnC,(hr id (by simp[Ze])).1]
 |optr id r c=>simp only[trV,rnC,(hr id (by simp[Ze])).1]
 |mref id=>simp only[trV,rnC,(hr id (by simp[Ze])).1]
 |clo f caps=> simp only[trV,rnC,Ac];congr 1;refine Ya fun q m=> ?_;simp only[Function.comp];rw[(hr q.1 (by simp only[Ze,Oa];exact⟨q,m,rfl⟩)).1]
 |_=>rfl
theorem aC{ρ2:Nat->Nat}{h2:Nat->Option (EO I.C)}{v:EV I.C}{Q:Nat->Prop}(hr: ∀i∈Ze v,Q (ρ2 i)): ∀i∈zJ (trV ρ2 h2 v),Q i:=by
 intro i hi;cases v with
 |own id=> rw[Sj]at hi;split at hi<;>simp[zJ]at hi<;>subst hi<;>exact hr id (by simp[Ze])
 |osl id off n=>simp only[trV,zJ,Sa]at hi;subst hi;exact hr id (by simp[Ze])
 |optr id r c=>simp only[trV,zJ,Sa]at hi;subst hi;exact hr id (by simp[Ze])
 |mref id=>simp only[trV,zJ,Sa]at hi;subst hi;exact hr id (by simp[Ze])
 |clo f caps=> simp only[trV,zJ,Ac,Oa,Function.comp]at hi;obtain⟨q,d,rfl⟩:=hi;exact hr q.1 (by simp only[Ze,Oa];exact⟨q,d,rfl⟩)
 |_=>simp[trV,zJ]at hi
theorem zEf{ρ ρ2:Nat->Nat}{h h2:Nat->Option (EO I.C)}{d:List Nat}{nx:Nat}{t:ET I.C}(hr: ∀i∈Qp t,rnI d nx (ρ2 i)=ρ i/\infO h2 i=infO h i):rnT d nx (trT ρ2 h2 t)=trT ρ h t:=by
 cases t with
 |c v=>exact congrArg TV.c (iA hr)
 |agg xs=> simp only[trT,rnT,Ac];congr 1;exact Ya fun v hv=>iA fun i hi=>hr i (Ub.2 ⟨v,hv,hi⟩)
theorem zAt{ρ2:Nat->Nat}{h2:Nat->Option (EO I.C)}{t:ET I.C}{Q:Nat->Prop}(hr: ∀i∈Qp t,Q (ρ2 i)): ∀i∈Cv (trT ρ2 h2 t),Q i:=by
 cases t with
 |c v=>exact aC hr
 |agg xs=> intro i hi;simp only[trT,Cv,Ub,Oa]at hi;obtain⟨c,⟨v,hv,rfl⟩,hi⟩:=hi;exact aC (fun i hi=>hr i (Ub.2 ⟨v,hv,hi⟩)) i hi
theorem vW{ρ ρ2:Nat->Nat}{h h2:Nat->Option (EO I.C)}{j:List Nat}{nx:Nat}{o:EO I.C}{Q:Nat->Prop}(hr: ∀i∈Aj o,(rnI j nx (ρ2 i)=ρ i/\infO h2 i=infO h i)/\Q (ρ2 i)){ob:OB}(ho:trO P ρ2 h2 o=some ob):trO P ρ h o=some (rnO j nx ob)/\ ∀i∈Pi ob,Q i:=by
 cases o with
 |cells ty cs=>
  simp only[trO,Option.some.injEq]at ho ⊢;subst ho;refine⟨?_,fun i hi=> ?_⟩
  ·simp only[rnO,aa,ic,Ac];congr 2;rw[Ya fun v hv=>(iA (ρ:=ρ) (h:=h) fun i hi=>(hr i (Ub.2 ⟨v,hv,hi⟩)).1).symm];rfl
  ·simp only[Pi,List.flatMap_cons,List.flatMap_nil,Ab,Ub,Oa]at hi;obtain⟨c,⟨v,hv,rfl⟩,hi⟩:=hi;exact aC (fun i hi=>(hr i (Ub.2 ⟨v,hv,hi⟩)).2) i hi
 |sl t l=>
  simp only[trO,Option.some.injEq]at ho ⊢;subst ho;refine⟨?_,fun i hi=> ?_⟩
  ·simp only[rnO,Ac,OB.mk.injEq,true_and,Ag];refine Ya fun x m=> ?_;simp[Function.comp,Ac,rnC]
  ·exfalso;simp only[Pi,Ub,Oa]at hi;obtain⟨row,⟨x,_,rfl⟩,c,hc,hi⟩:=hi;obtain⟨q,_,rfl⟩:=Oa.1 hc;simp[zJ]at hi
 |mp kd l=> simp only[trO,Option.some.injEq]at ho ⊢;subst ho;exact⟨rfl,fun i hi=>by simp[Pi]at hi⟩
 |slo t l1 cs l2=>
  simp only[trO,Option.some.injEq]at ho ⊢;subst ho;have hrow: ∀l:List (I.C t),(l.map fun x=>(I.full t x).map CV.p).map (·.map (rnC j nx))=l.map fun x=>(I.full t x).map CV.p:=by intro l;rw[Ac];refine Ya fun x _=> ?_;simp[Function.comp,Ac,rnC]
  have f: ∀l:List (I.C t),∀row∈(l.map fun x=>(I.full t x).map CV.p),∀c∈row,zJ c=[]:=by intro l row hrow c hc;obtain⟨x,_,rfl⟩:=Oa.1 hrow;obtain⟨q,_,rfl⟩:=Oa.1 hc;rfl
  refine⟨?_,fun i hi=> ?_⟩
  ·simp only[rnO,yc,aa,hrow];congr 3;rw[Ac];rw[Ya fun v hv=>(iA (ρ:=ρ) (h:=h) fun i hi=>(hr i (Ub.2 ⟨v,hv,hi⟩)).1).symm];rfl
  ·simp only[Pi,Ub]at hi;obtain⟨row,d,c,hc,hi⟩:=hi;rcases Bc.1 d with d|d
   ·rw[f l1 row d c hc]at hi;cases hi
   ·rcases ma.1 d with rfl|d
    ·obtain⟨v,hv,rfl⟩:=Oa.1 hc;exact aC (fun i hi=>(hr i (Ub.2 ⟨v,hv,hi⟩)).2) i hi
    ·rw[f l2 row d c hc]at hi;cases hi
 |dead n=>cases ho
 |frz t l=>cases ho
end
section
variable {I:Ip} {P:Program}
theorem uM{h h2:Nat->Option (EO I.C)}{i:Nat}(e:h2 i=h i):infO h2 i=infO h i:=by unfold infO;rw[e]
end
section
variable {I:Ip} {P:Program}
theorem zn.told{f:Nat}{inS:StSh}{cst:List Nat}{outS:StSh}{k:Nat}{F:(inS.sl I).T->Option (outS.sl I).T}{ι:Type}{Fn:ι->(inS.sl I).T->Option (outS.sl I).T}(n0:ι)(hn: ∀n,zn P ⟨f,inS,cst,outS,k,Fn n⟩)(d: ∀x y,F x=some y-> ∃n,Fn n x=some y):
  zn P (⟨f,inS,cst,outS,k,F⟩:Con I):=
 ⟨(hn n0).wf,fun x y c=>let⟨n,h⟩:=d x y c;(hn n).ok x y h⟩
theorem zn.none{f:Nat}{inS:StSh}{cst:List Nat}{outS:StSh}{k:Nat}(c:Fj (⟨f,inS,cst,outS,k,fun _=>Option.none⟩:Con I)=true):zn P (⟨f,inS,cst,outS,k,fun _=>Option.none⟩:Con I):=
 ⟨c,fun x y h=>by cases h⟩
theorem zn.recf {f:Nat} {inS:StSh} {cst:List Nat} {outS:StSh} {k:Nat} {F:(inS.sl I).T->Option (outS.sl I).T} (B:((inS.sl I).T->Option (outS.sl I).T)->(inS.sl I).T->Option (outS.sl I).T)
  (c:Fj (⟨f,inS,cst,outS,k,fun _=>Option.none⟩:Con I)=true) (i: ∀S,zn P (⟨f,inS,cst,outS,k,S⟩:Con I)->zn P (⟨f,inS,cst,outS,k,B S⟩:Con I))
  (j: ∀x y,F x=some y-> ∃n:Nat,Nat.rec (motive:=fun _=>(inS.sl I).T->Option (outS.sl I).T) (fun _=>Option.none) (fun _ S=>B S) n x=some y):zn P (⟨f,inS,cst,outS,k,F⟩:Con I):=by
 refine zn.told 0 (Fn:=fun n=>Nat.rec (motive:=fun _=>(inS.sl I).T->Option (outS.sl I).T) (fun _=>Option.none) (fun _ S=>B S) n) (fun n=> ?_) j
 induction n with
 |zero=>exact zn.none c
 |d n m=>exact i _ m
theorem zEs{l:List Nat}{fk:List (Nat×List Kd)}(c: ∀p∈fk,Ll P p.1=some p.2):TOK P (l.map fun t=>(t,ti P t)) fk:=by refine⟨fun t i h=> ?_,fun t ks h=>c _ (Zg h)⟩;obtain⟨d,_,e⟩:=Oa.1 (Zg h);injection e with e1 e2;subst e1;exact e2
end
section
variable {P:Program}
def NoZ:Nat->Prop:=fun _=>False
end
section
variable {I:Ip}
def yg:List ResultVar->List Nat
 |[]=>[]
 | .tmp t::r=>t::yg r
 | .cell a _::r=>a::yg r
def retE(X:Cx I)(st:ES I.C):List ResultVar->Option (List (ET I.C))
 |[]=>some []
 | .tmp t::r=>match useE [] (opdE X st (.tmp t)),retE X st r with
  |some x,some l=>some (x::l)
  |_,_=>none
 | .cell a t::r=>match useE [] (opdE X st (.tmp a)),retE X st r with
  |some (.c (.optr id 0 cell)),some l=>match lkO X st id with
   |some (.cells _ cs)=>match Tm (X.T.at t) cs cell with
    |some x=>some (x::l)
    |none=>none
   |_=>none
  |_,_=>none
def exOK(con:Con I)(exS:StSh)(ws:List (ET I.C))(h:Nat->Option (EO I.C))(m:Mp):Bool:=
 let out:=con.outS.objs.map (·.1)
 subN out (exS.objs.map (·.1))&&(exS.objs.all fun o=> !(memN o.1 con.cst)&&(memN o.1 out|| !(Nat.blt o.1 con.inS.objs.length)))&&
  ((out.all fun i=>isSelf m i)&&m.all fun z=>isSelf m z.1&&memN z.1 (out++con.cst))&&subN (ws.flatMap Qp) (out++con.cst)&&(out.all fun i=>match h i with|some o=>subN (Aj o) (out++con.cst)|none=>false)
noncomputable def evF2(A:Env0 I)(T:TT)(fk:List (Nat×List Kd))(nt:Nat)(rs:List ResultVar)(body:Code)(con:Con I)(exS:StSh)(x:(con.inS.sl I).T):Option (con.outS.sl I).T:=
 let a:=(con.inS.sl I).enc x
 let p:=con.inS.objs.length
 let X:Cx I:=⟨T,fk,[],a.2.filter fun o=>memN o.1 con.cst⟩
 let end_:=fun(st:ES I.C)=>optB (Ik X st (yg rs)) fun vs=>(matC p X exS (yg rs) vs st (Ym exS.objs p)).bind fun q=>
  let c:=encS exS (yg rs) (dh p exS.objs) q.1
  optB (retE X c rs) fun ws=>((con.outS.sl I).mat ws (lkO X c) (selfs (con.outS.objs.map (·.1)))).bind fun r=>cond (Fs (yg rs)&&exOK con exS ws (lkO X c) r.2) (some r.1) none
 evC A nt body X (fun x st=>match x with| .normal=>end_ st| .ret=>end_ st|_=>none) ⟨Er 0 a.1,a.2.filter fun o=> !(memN o.1 con.cst),p⟩
end
section
variable {P:Program}
theorem zCg {ι:Asg} {w w':World} {get:Get} {nx k:Nat} {ts c:List TV} {up d:List (Nat×Option OB)} {v:Value}
  (hl:c.length=ts.length) (hv: ∀(j:Nat) a b,ts[j]? =some a->c[j]? =some b->WkT NoZ a b)
  (hu: ∀id,(upd get up id=none/\upd get d id=none)\/ ∃o o2,upd get up id=some o/\upd get d id=some o2/\WkOZ NoZ o o2) (h:Good ι w get nx k (valOf ts) up v w'):Good ι w get nx k (valOf c) d v w':=by
 obtain⟨ι',f,m,y,A⟩:=h;refine⟨ι',?_,?_,y,A⟩
 ·have i: ∀z,NoZ z-> ∃k,ι' z= .live none k:=fun z p=>p.elim;refine⟨fun id o2 ho=> ?_,fun id ho=> ?_,f.inj,f.glob⟩
  ·rcases hu id with⟨_,h2⟩|⟨o,r,h1,h2,h3⟩
   ·rw[h2]at ho;cases ho
   ·rw[h2]at ho;cases ho;obtain⟨b,k1,k2⟩:=f.live id o h1;exact⟨b,by rw[h3.k];exact k1,k2.wkZ i h3⟩
  ·rcases hu id with⟨h1,_⟩|⟨o,r,_,h2,_⟩
   ·exact f.gone id h1
   ·rw[h2]at ho;cases ho
 ·have i: ∀z,NoZ z-> ∃k,ι' z= .live none k:=fun z p=>p.elim
  match ts,c,hl with
  |[],[],_=>exact m
  |[t],[t2],_=>exact(hv 0 t t2 rfl rfl).rep i m
  |a::b::l,a2::b2::l2,hl=>
   obtain⟨us,r1,r2,r3⟩:=m;refine⟨us,r1,by rw[r2];exact hl.symm,fun j t ht=> ?_⟩;have B:j<(a::b::l).length:=by rw[<-hl];exact(Fa.1 ht).1
   have h0:(a::b::l)[j]? =some (a::b::l)[j]:=Ma B;obtain⟨u,k1,k2⟩:=r3 j _ h0;exact⟨u,k1,(hv j _ t h0 ht).rep i k2⟩
def LG(P:Program)(rs:List ResultVar)(nx k M:Nat)(get0:Get)(val:LV)(up:List (Nat×Option OB)):Post:=fun x e lh=>
 ∃c d f,gW P rs nx k M get0 (valOf c) f x e lh/\val=valOf d/\d.length=c.length/\(∀(j:Nat) a b,c[j]? =some a->d[j]? =some b->WkT NoZ a b)/\
  ∀id,(upd get0 f id=none/\upd get0 up id=none)\/ ∃o o2,upd get0 f id=some o/\upd get0 up id=some o2/\WkOZ NoZ o o2
theorem zoq {f:FuncId} {fn:Func} {c:Code} {rs:List ResultVar} {k nt nx:Nat} {args:List TV} {rd:List (Nat×OB)} {val:LV} {up:List (Nat×Option OB)} (hf:P.funcs[f]? =some fn) (hb:fn.body=some c) (a7:fn.results=rs.toArray) (a8:fn.ntmps=nt)
  (J:(fn.name== "runtime.NumGoroutine")=false) (ar:args.length<=nt)
  (h: ∀(get:Get) (M:Nat),nx+k<=M->(∀id o,get id=some o->id<M/\(id<nx\/nx+k<=id))->(∀p∈rd,get p.1=some p.2)->
   SW P nt c (LG P rs nx k M get val up) (Lp 0 args) ⟨M,get⟩):zdf P f args rd nx k val up:=by
 refine⟨⟨fn,hf,J,by rw[hb];rfl⟩,fun ι get w N vs hR hN Z m a9=> ?_⟩;have ab:=h get (max N (nx+k)) (kg _ _) (fun id o ho=>by
  obtain⟨b,h1,_⟩:=hR.live id o ho;have a3:ι id≠ .free:=by rw[h1];simp
  refine⟨?_,?_⟩
  ·rcases Yc id N with h2|h2
   ·omega
   ·exact absurd (hN id h2) a3
  ·rcases Yc id nx with h2|h2
   ·exact .inl h2
   ·rcases Yc id (nx+k)with h3|h3
    ·have:=Z (id - nx) (by omega);rw[show nx+(id - nx)=id by omega]at r;exact absurd r a3
    ·exact .inr h3) a9
 refine calls_of_wp hf hb (Code.wp_mono (fun x a' w' hx=> ?_) (ab ι {tmps:=vs++Array.replicate (fn.ntmps - vs.size) undef,defers:=[]} w ⟨hR,fun id hid=>hN id (Sb (Jh N (nx+k)) hid),⟨?_,rfl,fun i=> ?_⟩⟩))
 ·obtain⟨ι',e',av,h1,h2,h3,h4⟩:=hx;obtain⟨ad,aw,L,hB,e2,al,am,an⟩:=h1;obtain⟨ao,B,ts,q1,q2,q3,q4,q5,q6,q7⟩:=hB;subst q1;replace q3: ∀i∈B,max N (nx+B.length)<=i\/upd get L i=none:=by
   intro i hi;rcases q3 i hi with h|h|⟨h5,o,h6⟩
   ·exact .inl h
   ·exact .inr h
   ·rcases Yc i (max N (nx+B.length))with h7|h7
    ·exfalso;obtain⟨b,V,_⟩:=h2.rel.live i o h6;rcases hR.gone i h5 with h9|h9
     ·rw[h3.keepf i h7 h9]at V;cases V
     ·rcases h3.stp.slots i (by rw[h9];simp)with O|O
      ·rw[O,h9]at V;cases V
      ·rw[O]at V;cases V
    ·exact .inl h7
  have d: ∃v,(results fn a'.tmps).run P w'= .ok v w'/\ ∃U,Ending.returned v= .returned U/\Good ι w get nx B.length (valOf ad) L U w':=by
   obtain⟨g1,g2,g3,g4⟩:=ER hR h2.rel h3 hN (Jh _ _) (kg _ _) Z q2 q3 q7;obtain⟨us,r1,r2,r3⟩:=vN (P:=P) h2.rel h2.env q4;have conv: ∀(t:TV) (u:Value),repT ι' w' t u->t∈ts->repT (Bl ι ι' (upd get L) B nx) w' (rnT B nx t) u:=by
    intro t u hx hm;have a5:=q5 t hm;cases t with
    |c x=>exact⟨hx.1,g4 x u hx.2 a5⟩
    |agg xs=>
     obtain⟨ap,e1,e2,e3⟩:=hx;refine⟨ap,e1,by simpa using e2,fun j y W=> ?_⟩;rw[Ta]at W;cases z:xs[j]? with
     |none=>rw[z]at W;cases W
     |some x0=> rw[z]at W;simp only[Kb,Option.some.injEq]at W;subst W;obtain⟨Y,f1,f2,f3⟩:=e3 j _ z;refine⟨Y,f1,f2,g4 _ Y f3 (fun id hid=>a5 id ?_)⟩;simp only[Cv,Ub];exact⟨x0,Ua z,hid⟩
   have a6:(fn.results.mapM (rd1 a'.tmps)).run P w'= .ok us.toArray w':=by rw[a7,List.mapM_toArray,Sem.run_map,r1];rfl
   rw[JS,Sem.run_bind,a6];simp only[Result.andThen_ok,Sem.run_pure];refine⟨_,rfl,_,rfl,_,g1,?_,g2,g3⟩;rw[q6]
   match ts,us,r2,r3,conv with
   |[],[],_,_,_=>exact⟨#[],by simp,rfl,fun j t ht=>by simp at ht⟩
   |[t],[u],_,r3,conv=> obtain⟨Y,k1,k2⟩:=r3 0 t rfl;simp at k1;subst k1;have:=conv t u k2 (by simp);simpa [valOf,repL] using r
   |t1::t2::ts,u1::u2::us,r2,r3,conv=>
    refine⟨(u1::u2::us).toArray,by simp,by simpa using r2,fun j t ht=> ?_⟩;replace ht:((t1::t2::ts).map (rnT B nx))[j]? =some t:=ht;rw[Ta]at ht;cases A:(t1::t2::ts)[j]? with
    |none=>rw[A]at ht;cases ht
    |some t0=> rw[A]at ht;simp only[Kb,Option.some.injEq]at ht;subst ht;obtain⟨Y,k1,k2⟩:=r3 j t0 A;exact⟨Y,by simpa using k1,conv t0 Y k2 (Ua A)⟩
  replace d: ∃v,(results fn a'.tmps).run P w'= .ok v w'/\ ∃U,Ending.returned v= .returned U/\Good ι w get nx B.length val up U w':=by obtain⟨v,m1,U,m2,m3⟩:=d;exact⟨v,m1,U,m2,by rw[e2];exact zCg al am an m3⟩
  rcases ao with rfl|rfl
  ·exact⟨h2.env.defers,d⟩
  ·exact⟨h2.env.defers,d⟩
 ·simp only[bi,jf,m.1,a8];omega
 ·rw[SE];simp only[Pb,Td,Nat.sub_zero];cases hi:args[i]? with
  |none=>trivial
  |some t=>
   obtain⟨u,h1,h2⟩:=m.2 i t hi;have:(vs++Array.replicate (fn.ntmps - vs.size) undef).getD i undef=u:=by have aq:=(Ic.1 h1).1;rw[Jd,Xf,La aq,h1];rfl
   rw[r];exact h2
end
section
variable {I:Ip} {P:Program} {X:Cx I} {ρ:Nat->Nat} {G:Get} {st:ES I.C} {e:Env} {lh:LH}
theorem CW{t:Nat}{v:ET I.C}{x:ET I.C}(hl:lkE X st t=some (.v v))(h:useE [] (opdE X st (.tmp t))=some x):x=nrmT (lkO X st) v:=by simp only[opdE,hl,nrmL,useE]at h;exact(Option.some.inj h).symm
theorem PO{t:Nat}{x:ET I.C}(c: ∀t y,lkE X st t=some y-> ∃v,y= .v v)(h:useE [] (opdE X st (.tmp t))=some x): ∃v,lkE X st t=some (.v v):=by
 simp only[opdE]at h;cases hl:lkE X st t with
 |none=>rw[hl]at h;cases h
 |some y=>obtain⟨v,rfl⟩:=c t y hl;exact⟨v,rfl⟩
theorem mF(c: ∀t y,lkE X st t=some y-> ∃v,y= .v v): ∀(rs:List ResultVar) {ws:List (ET I.C)},retE X st rs=some ws-> ∀t∈yg rs,∃v,lkE X st t=some (.v v)
 |[],ws,_,t,ht=>by cases ht
 | .tmp t0::r,ws,h,t,ht=>by
  simp only[retE]at h;split at h
  ·rename_i x l h1 h2;rcases ma.1 ht with e|e
   ·subst e;exact PO c h1
   ·exact mF c r h2 t e
  ·cases h
 | .cell a t0::r,ws,h,t,ht=>by
  simp only[retE]at h;split at h
  ·rename_i id cell l h1 h2;rcases ma.1 ht with e|e
   ·subst e;exact PO c h1
   ·exact mF c r h2 t e
  ·cases h
theorem TN: ∀{ts:List Nat} {vs:List (ET I.C)} {t:Nat} {y:EL I.C},lk (si ts vs) t=some y-> ∃v,y= .v v
 |[],vs,t,y,h=>by cases vs<;>cases h
 |t0::ts,[],t,y,h=>by cases h
 |t0::ts,c::vs,t,y,h=>by
  simp only[si]at h;rw[Zk]at h;split at h
  ·cases h;exact⟨_,rfl⟩
  ·exact TN h
theorem XC(m:TOK P X.T X.fk)(hv:Vw P X ρ G st e lh): ∀(rs:List ResultVar) {ws:List (ET I.C)},(∀t∈yg rs,∃v,lkE X st t=some (.v v))->retE X st rs=some ws->resB P e lh.get rs (ws.map (trT ρ (lkO X st)))
 |[],ws,_,h=>by cases h;trivial
 | .tmp t::r,ws,hl,h=>by
  simp only[retE]at h;split at h
  ·rename_i x l h1 h2;cases h;obtain⟨v,f⟩:=hl t (Jb ..);refine⟨⟨True,?_,trivial⟩,XC m hv r (fun t ht=>hl t (Eb _ ht)) h2⟩;have:=hv.env t;rw[f]at i;simp only[trL]at i;rw[CW f h1,Il];simp only[resV,i]
  ·cases h
 | .cell a t::r,ws,hl,h=>by
  simp only[retE]at h;split at h
  ·rename_i id cell l h1 h2;split at h
   ·rename_i ty cs ho;split at h
    ·rename_i x J;cases h;obtain⟨v,f⟩:=hl a (Jb ..);have j:=hv.env a;rw[f]at j;simp only[trL]at j;have hn:=CW f h1;have p:trT ρ (lkO X st) v= .c (.optr (ρ id) 0 cell):=by rw[<-Il,<-hn];rfl
     rw[p]at j;have L:=hv.heap id _ ho;obtain⟨hk,B⟩:=Tu J;have u:=Si m hk;rw[u]at hk B;have d:=jD (get:=lh.get) (id:=ρ id) (cell:=cell) hk L (row:=0) (cs:=cs.map (trV ρ (lkO X st))) rfl;rcases B with⟨g1,z,A⟩|⟨g1,y,z,A⟩
     ·rw[La g1]at d;subst A;refine⟨⟨_,?_,(by rw[Ra];exact z:cell+(ti P t).sz<=(cs.map (trV ρ (lkO X st))).length)⟩,XC m hv r (fun t ht=>hl t (Eb _ ht)) h2⟩;simp only[resV,j,d,trT,Xd,Yd]
     ·rw[Ha (by rw[g1];simp),Ta,z]at d;subst A;refine⟨⟨True,?_,trivial⟩,XC m hv r (fun t ht=>hl t (Eb _ ht)) h2⟩;simp only[resV,j,d,trT,Kb]
    ·cases h
   ·cases h
  ·cases h
end
section
variable {I:Ip} {P:Program}
theorem nY (hI:IpOK P I) {con:Con I} (b5:Fj con=true) (x:(con.inS.sl I).T) {T:TT} {fk:List (Nat×List Kd)} {ρ:Nat->Nat} {nx M nt:Nat} {get:Get}
  (bb: ∀i j,i<con.inS.objs.length->j<con.inS.objs.length->ρ i=ρ j->i=j) (ce: ∀i,i<con.inS.objs.length->ρ i<nx\/nx+con.k<=ρ i) (ao: ∀j,ρ (con.inS.objs.length+j)=nx+j)
  (hM:nx+con.k<=M) (cg: ∀id o,get id=some o->id<M)
  (dd: ∀q∈((con.inS.sl I).enc x).2.filterMap fun o=>(trO P ρ (lk ((con.inS.sl I).enc x).2) o.2).map fun ob=>(ρ o.1,ob),get q.1=some q.2)
  {ρ':Nat->Nat} {st:ES I.C} {e:Env} {lh:LH} (hv:Vw P (inX con T fk x) ρ' (inG con ρ get) st e lh) (hn:con.inS.objs.length<=st.next) (de: ∀i,i<con.inS.objs.length->ρ' i=inR con ρ M i)
  (hT:TOK P T fk) {rs:List ResultVar} {vs ws:List (ET I.C)} {exS:StSh} {z:(exS.sl I).T} {y:(con.outS.sl I).T} {m m2:Mp} (ch:(yg rs).Nodup) (dj:Ik (inX con T fk x) st (yg rs)=some vs)
  (hm:matC con.inS.objs.length (inX con T fk x) exS (yg rs) vs st (Ym exS.objs con.inS.objs.length)=some (z,m))
  (ci:retE (inX con T fk x) (encS exS (yg rs) (dh con.inS.objs.length exS.objs) z) rs=some ws)
  (hy:(con.outS.sl I).mat ws (lkO (inX con T fk x) (encS exS (yg rs) (dh con.inS.objs.length exS.objs) z)) (selfs (con.outS.objs.map (·.1)))=some (y,m2))
  (ap:exOK con exS ws (lkO (inX con T fk x) (encS exS (yg rs) (dh con.inS.objs.length exS.objs) z)) m2=true) {xx:Exit} (hx:xx= .normal\/xx= .ret):
  ∃e2 lh2,Sub nt e lh e2 lh2/\LG P rs nx con.k M get (valOf (((con.outS.sl I).enc y).1.map (trT ρ (hOut con ((con.inS.sl I).enc x).2 ((con.outS.sl I).enc y).2))))
   ((((con.outS.sl I).enc y).2.map fun o=>(ρ o.1,trO P ρ (hOut con ((con.inS.sl I).enc x).2 ((con.outS.sl I).enc y).2) o.2))++
    ((con.inS.objs.filter fun o=> !(memN o.1 con.cst||memN o.1 (con.outS.objs.map (·.1)))).map fun o=>(ρ o.1,none))) xx e2 lh2:=by
 have hw:=wfIn hI b5 x;have eo:=b5;generalize hp:con.inS.objs.length=p at*;simp only[Fj,Da]at b5;obtain⟨⟨⟨⟨⟨⟨⟨c1,c2⟩,c3⟩,c4⟩,c5⟩,c6⟩,c7⟩,c8⟩:=b5;rw[hp]at c1 c4 c5 c6;have b6:=ut c1;have cj:=ut c6;have ck:=QD.1 c4;have ep:(con.outS.objs.map (·.1)).Nodup:=by simpa using c7
 simp only[wfSt,Da]at c3;have w1:=QD.1 c3.1;have w2:=QD.1 c3.2
 -- the numbers of what comes out
 have a3: ∀i∈con.outS.objs.map (·.1),i<p+con.k:=by
  intro i hi;rcases Yc i p with h|h
  ·omega
  ·have:i∈(con.outS.objs.map (·.1)).filter fun i=> !(Nat.blt i p):=Je.2 ⟨hi,by
    cases hb:Nat.blt i p with
    |false=>rfl
    |true=>exact absurd (Zm.1 hb) (by omega)⟩
   rw[cj]at d;have:=List.mem_range'_1.1 d;omega
 have u: ∀j,j<con.k->p+j∈con.outS.objs.map (·.1):=by intro j J;have:p+j∈List.range' p con.k:=List.mem_range'_1.2 ⟨by omega,by omega⟩;rw[<-cj]at d;exact(Je.1 d).1
 have bm: ∀i∈con.cst,i<p:=fun i hi=>by have:=ck i hi;exact Oc.1 d
 have bo: ∀i∈con.outS.objs.map (·.1),i<p->i ∉ con.cst/\ ∀s,(i,s)∈con.outS.objs->Ui s=false/\ ∃s',lk con.inS.objs i=some s'/\Ui s'=false:=by
  intro i hi dk;have cm: ∀s,(i,s)∈con.outS.objs->i ∉ con.cst/\Ui s=false/\ ∃s',lk con.inS.objs i=some s'/\Ui s'=false:=by
   intro s hs;have:=Xa.1 c5 _ hs;simp only[Zm.2 dk,Ka,Da]at d;obtain⟨⟨q1,q2⟩,q3⟩:=d;refine⟨fun h=> ?_,by simpa using q2,?_⟩
   ·rw[ZG.2 h]at q1;cases q1
   ·split at q3
    ·rename_i s' bp;exact⟨s',bp,by simpa using q3⟩
    ·cases q3
  obtain⟨⟨W,s⟩,hs,rfl⟩:=Oa.1 hi;exact⟨(cm s hs).1,fun s hs=>(cm s hs).2⟩
 -- the state seen anew
 have b7:NB p (inX con T fk x) exS (yg rs) m=true:=by unfold matC at hm;obtain⟨⟨x',m'⟩,eq,dl⟩:=Ca.1 hm;obtain⟨b7,dp⟩:=zl dl;cases dp;exact b7
 simp only[NB,Da]at b7;obtain⟨⟨⟨⟨⟨⟨d1,d2⟩,d3⟩,d4⟩,d5⟩,d6⟩,d7⟩:=b7;have bq:InjM (Ym exS.objs p):=by
  have: ∀(l:List (Nat×OSh)) i a,lk (Ym l p) i=some (some a)->i=a:=by
   intro l
   induction l with
   |nil=>intro i a h;cases h
   |cons o r ih=>
    intro i a h;obtain⟨j,s⟩:=o;simp only[Ym]at h;cases hb:Nat.blt j p with
    |false=>rw[hb]at h;exact ih i a h
    |true=>
     rw[hb]at h;simp only[Ka]at h;rw[Zk]at h;by_cases hi:i=j
     ·rw[La hi]at h;cases h;exact hi
     ·rw[Ha hi]at h;exact ih i a h
  intro i j a h1 h2;rw[d _ i a h1,d _ j a h2]
 have ab:(inX con T fk x).frh=((con.inS.sl I).enc x).2.filter fun o=>memN o.1 con.cst:=rfl;obtain⟨ρ2,e2,lh2,ss,v2,dq⟩:=Dy (nt:=nt) (n:=dh p exS.objs) hI hv dj bq hm (fun i hi=>cu _ _ i hi) (fun t y h=>by cases h) (fun i o h=>by
  rw[ab,Om (fun i=>memN i con.cst)]at h;split at h
  ·have:=(WA hw).1 ⟨o,h⟩;rw[hp]at d;exact⟨Mc d (Ol _ _),VH (Ol _ _) (yA fun i hi=>by have:=hw.r2 _ (Zg h) i hi;rwa [hp]at d)⟩
  ·cases h) hn (Ol _ _)
 refine⟨e2,lh2,ss,?_⟩;have hr: ∀i,i<p->ρ2 i=ρ i:=fun i hi=>by rw[dq i hi,de i hi];unfold inR;rw[hp,La hi]
 obtain⟨L0,_⟩:=mo (P:=P) hI exS;have aq:=L0 z;obtain⟨M0,M1⟩:=mo (P:=P) hI con.outS;have a7:=M0 y;obtain⟨_,_,co,kv,ko⟩:=M1 _ _ _ _ _ hy;have br:=Un (I:=I) exS z;have bt:=Un (I:=I) con.outS y;simp only[exOK,Da]at ap;obtain⟨⟨⟨⟨x1,x2⟩,x3⟩,x4⟩,x5⟩:=ap;have bc:=QD.1 x1;have ad: ∀i∈exS.objs.map (·.1),i ∉ con.cst/\(i<p->i∈con.outS.objs.map (·.1)):=by
  intro i hi;obtain⟨q,hq,rfl⟩:=Oa.1 hi;have:=Xa.1 x2 _ hq;rw[Da,Ld]at d;refine⟨fun h=> ?_,fun h=> ?_⟩
  ·rw[ZG.2 h]at d;cases d.1
  ·rcases d.2 with h2|h2
   ·exact ZG.1 h2
   ·rw[hp,Zm.2 h]at h2;cases h2
 have dr:=QD.1 x4;generalize be:encS exS (yg rs) (dh p exS.objs) z=A at*;generalize hb:(exS.sl I).enc z=b at*;have ds:A.env=si (yg rs) b.1:=by rw[<-be];simp only[encS,hb]
 have dt:A.heap=b.2:=by rw[<-be];simp only[encS,hb]
 generalize ha:((con.inS.sl I).enc x)=a at*;generalize hB:((con.outS.sl I).enc y)=B at*;have hC: ∀i,lkO (inX con T fk x) A i=(if i∈exS.objs.map (·.1)then lk b.2 i else if memN i con.cst=true then lk a.2 i else none):=by
  intro i;unfold lkO;rw[dt];by_cases hi:i∈exS.objs.map (·.1)
  ·rw[La hi];obtain⟨o,ho⟩:=Zf (l:=b.2) (i:=i) (by rw[aq];exact hi);rw[ho]
  ·rw[Ha hi,Px (l:=b.2) (fun o ho e=>hi (by rw[<-aq];exact Oa.2 ⟨o,ho,e⟩))];simp only;rw[ab,Om (fun i=>memN i con.cst)]
 generalize hX:inX con T fk x=X at*;have an: ∀i,i<p-> ∃o ob,lk a.2 i=some o/\get (ρ i)=some ob/\trO P ρ (lk a.2) o=some ob:=by intro i hi;obtain⟨o,ho⟩:=(WA hw).2 (by rw[hp];exact hi);obtain⟨ob,a5⟩:=VA (P:=P) hI (ρ:=ρ) (h:=lk a.2) ho;rw[ha]at ho;exact⟨o,ob,ho,dd (ρ i,ob) (je.2 ⟨(i,o),Zg ho,by rw[a5];rfl⟩),a5⟩
 have bw: ∀i,i<p->ρ i<M:=fun i hi=>by obtain⟨o,ob,_,h,_⟩:=an i hi;exact cg _ _ h
 have a8: ∀i∈con.outS.objs.map (·.1),∃o,lkO X A i=some o/\ ∀j∈Aj o,(j∈con.outS.objs.map (·.1)\/j∈con.cst):=by
  intro i hi;have:=Xa.1 x5 i hi;cases hl:lkO X A i with
  |none=>rw[hl]at d;cases d
  |some o=> rw[hl]at d;exact⟨o,rfl,fun j J=>Bc.1 (QD.1 d j J)⟩
 have ar: ∀i,(i∈con.outS.objs.map (·.1)\/i∈con.cst)-> ∃o ob,lkO X A i=some o/\trO P ρ2 (lkO X A) o=some ob/\lh2.get (ρ2 i)=some ob:=by
  intro i hi;by_cases ho:i∈con.outS.objs.map (·.1)
  ·obtain⟨o,h1,_⟩:=a8 i ho;have h2:=h1;rw[hC,La (bc i ho)]at h2;have: ∃ob,trO P ρ2 (lkO X A) o=some ob:=by
    obtain⟨s,_,⟨t,c,e,_⟩|⟨ty,cs,e,_⟩|⟨_,_,_,_,_,_,e⟩⟩:=br _ (Zg h2)
    ·simp only at e;subst e;exact⟨_,rfl⟩
    ·simp only at e;subst e;exact⟨_,rfl⟩
    ·simp only at e;subst e;exact⟨_,rfl⟩
   obtain⟨ob,a5⟩:=d;exact⟨o,ob,h1,a5,by rw[v2.heap i o h1,a5]⟩
  ·have hc:=hi.resolve_left ho;obtain⟨o,ob,h,_⟩:=an i (bm i hc);have h1:lkO X A i=some o:=by rw[hC,Ha (fun h=>(ad i h).1 hc),La (ZG.2 hc),h]
   obtain⟨ob,a5⟩:=VA (P:=P) hI (x:=x) (ρ:=ρ2) (h:=lkO X A) (by rw[ha];exact h);exact⟨o,ob,h1,a5,by rw[v2.heap i o h1,a5]⟩
 have al: ∀i j,(i∈con.outS.objs.map (·.1)\/i∈con.cst)->(j∈con.outS.objs.map (·.1)\/j∈con.cst)->ρ2 i=ρ2 j->i=j:=by intro i j hi J e;obtain⟨o,_,h1,_⟩:=ar i hi;obtain⟨o',_,h2,_⟩:=ar j J;exact v2.inj i j o o' h1 h2 e
 have Y: ∀i,i∈(List.range con.k).map (fun j=>ρ2 (p+j))↔ ∃j,j<con.k/\ρ2 (p+j)=i:=fun i=>by simp[Oa]
 have rn: ∀i,(i∈con.outS.objs.map (·.1)\/i∈con.cst)->rnI ((List.range con.k).map fun j=>ρ2 (p+j)) nx (ρ2 i)=ρ i/\(ρ2 i∈(List.range con.k).map (fun j=>ρ2 (p+j))\/ρ2 i<M):=by
  intro i hi;rcases Yc i p with h|h
  ·refine⟨?_, .inr (by rw[hr i h];exact bw i h)⟩;rw[zCY,hr i h];intro hm;obtain⟨j,J,e⟩:=(Y _).1 hm;have:=al _ _ (.inl (u j J)) hi e;omega
  ·have b8:i∈con.outS.objs.map (·.1):=hi.resolve_right fun hc=>by have:=bm i hc;omega
   have b6:=a3 i b8;have e:i=p+(i - p):=by omega
   refine⟨?_, .inl ((Y _).2 ⟨i - p,by omega,by rw[<-e]⟩)⟩;have:=zEe (f:=fun j=>ρ2 (p+j)) (k:=con.k) (nx:=nx) (i:=i - p) (fun j J e'=>by
    have:=al _ _ (.inl (u j J)) (.inl (u (i - p) (by omega))) e';omega) (by omega)
   rw[<-e]at d;rw[d,<-ao (i - p),<-e]
 have av: ∀t∈ws,∀i∈Qp t,(i∈con.outS.objs.map (·.1)\/i∈con.cst):=fun t ht i hi=>Bc.1 (dr i (Ub.2 ⟨t,ht,hi⟩));have O: ∀i,p<=i->ρ i=nx+(i - p):=fun i hi=>by
  have:=ao (i - p)
  rwa [show p+(i - p)=i by omega]at d
 have cp: ∀i j,i<p+con.k->j<p+con.k->ρ i=ρ j->i=j:=by
  intro i j hi J e;rcases Yc i p with h|h<;>rcases Yc j p with h'|h'
  ·exact bb i j h h' e
  ·rw[O j h']at e;rcases ce i h with h2|h2<;>omega
  ·rw[O i h]at e;rcases ce j h' with h2|h2<;>omega
  ·rw[O i h,O j h']at e;omega
 generalize hL:(con.outS.objs.map (·.1)).map (fun i=>(i,i))=L at*;have du: ∀i,i∈con.outS.objs.map (·.1)->lk L i=some i:=by intro i hi;obtain⟨j,J⟩:=Zf (l:=L) (i:=i) (by rw[<-hL,Ac];simpa using hi);have:=Zg J;rw[<-hL]at d;obtain⟨j',_,e⟩:=Oa.1 d;injection e with e1 e2;rw[J,<-e2,e1]
 have er: ∀q∈L,q.1∈con.outS.objs.map (·.1):=by intro q hq;rw[<-hL]at hq;obtain⟨j',h,e⟩:=Oa.1 hq;rw[<-e];exact h
 generalize bx:(con.inS.objs.filter fun o=> !(memN o.1 con.cst||memN o.1 (con.outS.objs.map (·.1))))=gone at*;have c9: ∀i,i∈gone.map (·.1)↔(i<p/\i ∉ con.outS.objs.map (·.1)/\i ∉ con.cst):=by
  intro i;rw[<-bx];constructor
  ·intro h;obtain⟨q,hq,rfl⟩:=Oa.1 h;obtain⟨dv,b9⟩:=Je.1 hq;have:q.1∈con.inS.objs.map (·.1):=Oa.2 ⟨q,dv,rfl⟩;rw[b6]at d;refine⟨Oc.1 d,fun h=> ?_,fun h=> ?_⟩
   ·rw[ZG.2 h]at b9;simp at b9
   ·rw[ZG.2 h]at b9;simp at b9
  ·intro ⟨hi,h1,h2⟩;have:i∈con.inS.objs.map (·.1):=by rw[b6];exact Oc.2 hi
   obtain⟨q,hq,rfl⟩:=Oa.1 d;refine Oa.2 ⟨q,Je.2 ⟨hq,?_⟩,rfl⟩;cases m1:memN q.1 con.cst with
   |true=>exact absurd (ZG.1 m1) h2
   |false=>
    cases m2:memN q.1 (con.outS.objs.map (·.1))with
    |true=>exact absurd (ZG.1 m2) h1
    |false=>rfl
 -- updates of any such form
 have cq: ∀{α:Type} (l:List (Nat×α)) (g:α->Option OB),(∀i,i∈l.map (·.1)↔i∈con.outS.objs.map (·.1))->
   (∀i o,lk l i=some o->upd get ((l.map fun q=>(ρ q.1,g q.2))++gone.map fun o=>(ρ o.1,none)) (ρ i)=g o)/\
   (∀i,i<p->i ∉ con.outS.objs.map (·.1)->i ∉ con.cst->upd get ((l.map fun q=>(ρ q.1,g q.2))++gone.map fun o=>(ρ o.1,none)) (ρ i)=none)/\
   ∀id,(∀i∈con.outS.objs.map (·.1),ρ i≠id)->(∀i,i<p->i ∉ con.outS.objs.map (·.1)->i ∉ con.cst->ρ i≠id)->upd get ((l.map fun q=>(ρ q.1,g q.2))++gone.map fun o=>(ρ o.1,none)) id=get id:=by
  intro α l g hl;have bh: ∀id,(∀i∈con.outS.objs.map (·.1),ρ i≠id)->id ∉ (l.map fun q=>(ρ q.1,g q.2)).map (·.1):=by intro id h hm;rw[Ac]at hm;obtain⟨q,hq,e⟩:=Oa.1 hm;exact h q.1 ((hl q.1).1 (Oa.2 ⟨q,hq,rfl⟩)) e
  refine⟨fun i o ho=> ?_,fun i hi h1 h2=> ?_,fun id h1 h2=> ?_⟩
  ·rw[Nz];exact XH (f:=ρ) (g:=g) (fun q hq e=>cp _ _ (a3 _ ((hl q.1).1 (Oa.2 ⟨q,hq,rfl⟩))) (a3 _ ((hl i).1 (Oa.2 ⟨_,Zg ho,rfl⟩))) e) ho
  ·rw[Nz,yj (bh _ fun j J e=>h1 (by rw[<-cp j i (a3 j J) (by omega) e];exact J))];obtain⟨s,hs⟩:=Zf ((c9 i).2 ⟨hi,h1,h2⟩);exact XH (f:=ρ) (g:=fun _=>none) (fun q hq e=>bb _ _ ((c9 q.1).1 (Oa.2 ⟨q,hq,rfl⟩)).1 hi e) hs
  ·rw[Nz,yj (bh _ h1),yj];intro hm;rw[Ac]at hm;obtain⟨q,hq,e⟩:=Oa.1 hm;obtain⟨g1,g2,g3⟩:=(c9 q.1).1 (Oa.2 ⟨q,hq,rfl⟩);exact h2 q.1 g1 g2 g3 e
 obtain⟨dy,ca,cr⟩:=cq L (fun i=>(lkO X A i).bind (trO P ρ (lkO X A))) (fun i=>by rw[<-hL,Ac];simp);obtain⟨ct,cv,cw⟩:=cq B.2 (trO P ρ (hOut con a.2 B.2)) (fun i=>by rw[a7]);have ea:=x3;have a9: ∀i z,lk m2 i=some z->z=some i/\(i∈con.outS.objs.map (·.1)\/i∈con.cst):=by
  intro i z hz;have:=Xa.1 ea.2 _ (Zg hz);rw[Da]at d;obtain⟨q1,q2⟩:=d;refine⟨?_,Bc.1 (ZG.1 q2)⟩;simp only[isSelf,hz]at q1;cases z with
  |none=>cases q1
  |some a=>rw[Bb q1]
 have U: ∀(h:Nat->Option (EO I.C)) i o,h i=some o->infO h i=infE o:=by intro h i o ho;unfold infO;rw[ho];cases o<;>rfl
 have cb: ∀i,i∈con.cst->lkO X A i=lk a.2 i:=fun i hi=>by rw[hC,Ha (fun h=>(ad i h).1 hi),La (ZG.2 hi)]
 have eb: ∀i,i∈con.cst->i ∉ con.outS.objs.map (·.1):=fun i hi h=>(ad i (bc i h)).1 hi;have ec: ∀i,i∈con.cst->hOut con a.2 B.2 i=lk a.2 i:=by intro i hi;unfold hOut;rw[Px (l:=B.2) (fun o a6 e=>eb i hi (by rw[<-a7];exact Oa.2 ⟨o,a6,e⟩))];obtain⟨o,ob,h,_⟩:=an i (bm i hi);simp only[h,ZG.2 hi,Ka]
 have aw: ∀i∈con.outS.objs.map (·.1),∃o o',lkO X A i=some o/\lk B.2 i=some o'/\infE o=infE o'/\ ∀ρ ρ' h h' Z,Cmp ρ ρ' h h' Z m2-> ∃ob ob',trO P ρ h o=some ob/\trO P ρ' h' o'=some ob'/\WkOZ Z ob ob':=by
  intro i hi;obtain⟨o',a6⟩:=Zf (l:=B.2) (i:=i) (by rw[a7];exact hi);rcases ko i o' (Zg a6)with⟨a',o,q1,q2,q3,_,_,q6⟩|⟨q1,_⟩
  ·have:=(a9 i _ q1).1;cases d;exact⟨o,o',q2,a6,q3,q6⟩
  ·have:=(a9 i _ q1).1;cases d
 have bj:Cmp ρ ρ (lkO X A) (hOut con a.2 B.2) NoZ m2:=by
  intro i z hz;obtain⟨rfl,hi⟩:=a9 i z hz;refine⟨rfl,?_⟩;by_cases ho:i∈con.outS.objs.map (·.1)
  ·obtain⟨o,o',q1,q2,q3,_⟩:=aw i ho;rw[U _ i o q1,U (hOut con a.2 B.2) i o' (by unfold hOut;rw[q2]),q3]
  ·have hc:=hi.resolve_left ho;exact uM (by rw[ec i hc,cb i hc])
 have hG: ∀id,(∀i,i<p->ρ i≠id)->inG con ρ get id=get id:=by intro id h;unfold inG;rw[hp,Ha];intro ⟨j,h1,h2⟩;exact h j h1 h2
 have ba: ∀i,(i∈con.outS.objs.map (·.1)\/i∈con.cst)->(rnI ((List.range con.k).map fun j=>ρ2 (p+j)) nx (ρ2 i)=ρ i/\infO (lkO X A) i=infO (lkO X A) i)/\(ρ2 i∈(List.range con.k).map (fun j=>ρ2 (p+j))\/ρ2 i<M):=
  fun i hi=>⟨⟨(rn i hi).1,rfl⟩,(rn i hi).2⟩
 have b3: ∀i∈con.outS.objs.map (·.1),∀o,lkO X A i=some o->upd get ((L.map fun q=>(ρ q.1,(lkO X A q.2).bind (trO P ρ (lkO X A))))++gone.map fun o=>(ρ o.1,none)) (ρ i)=trO P ρ (lkO X A) o:=by intro i hi o ho;rw[dy i i (du i hi),ho];rfl
 refine⟨ws.map (trT ρ (lkO X A)),B.1.map (trT ρ (hOut con a.2 B.2)),(L.map fun q=>(ρ q.1,(lkO X A q.2).bind (trO P ρ (lkO X A))))++gone.map fun o=>(ρ o.1,none),⟨hx,(List.range con.k).map (fun j=>ρ2 (p+j)),ws.map (trT ρ2 (lkO X A)),by simp,?_,fun i hi=> ?_,?_,fun t ht=> ?_,?_,⟨fun j J=> ?_,fun id o1 V=> ?_⟩⟩,rfl,by rw[Ra,Ra,co],fun j v v' h1 h2=> ?_,fun id=> ?_⟩
 ·rw[List.Nodup,List.pairwise_map];refine List.Pairwise.imp_of_mem (fun {i j} hi J ed e=>ed ?_) List.nodup_range;have:=al _ _ (.inl (u i (Oc.1 hi))) (.inl (u j (Oc.1 J))) e;omega
 ·obtain⟨j,J,rfl⟩:=(Y i).1 hi;obtain⟨o,ob,h1,h2,h3⟩:=ar (p+j) (.inl (u j J));cases hg:get (ρ2 (p+j))with
  |none=>exact .inr (.inr ⟨rfl,_,h3⟩)
  |some o0=>
   by_cases ap: ∃i,i<p/\ρ i=ρ2 (p+j)
   ·obtain⟨i,cx,cy⟩:=ap;have d8: ¬(i∈con.outS.objs.map (·.1)\/i∈con.cst):=fun h=>by have:=al _ _ h (.inl (u j J)) (by rw[hr i cx];exact cy);omega
    refine .inr (.inl ?_);rw[<-cy];exact ca i cx (fun h=>d8 (.inl h)) (fun h=>d8 (.inr h))
   ·exfalso;have:=hG (ρ2 (p+j)) fun i h1 h2=>ap ⟨i,h1,h2⟩;exact(v2.oth (ρ2 (p+j)) (by rw[d,hg];simp)).2 (p+j) o h1 rfl
 ·have ee:TOK P X.T X.fk:=by rw[<-hX];exact hT
  refine XC ee v2 rs (mF (fun t y h=> ?_) rs ci) ci;unfold lkE at h;rw[ds]at h;cases hl:lk (si (yg rs) b.1) t with
  |some y'=>rw[hl]at h;cases h;exact TN hl
  |none=> rw[hl,<-hX]at h;cases h
 ·obtain⟨v0,ef,rfl⟩:=Oa.1 ht;exact zAt (Q:=fun i=>i∈(List.range con.k).map (fun j=>ρ2 (p+j))\/i<M) fun i hi=>(ba i (av v0 ef i hi)).2
 ·rw[Ac];congr 1;exact Ya fun t ht=>(zEf fun i hi=>(ba i (av t ht i hi)).1).symm
 ·have cc:j<con.k:=by simpa using J
  obtain⟨o,ob,h1,h2,h3⟩:=ar (p+j) (.inl (u j cc));obtain⟨eg,g1,g2⟩:=a8 (p+j) (u j cc);rw[h1]at g1;cases g1;have:=(vW (Q:=fun i=>i∈(List.range con.k).map (fun j=>ρ2 (p+j))\/i<M) (fun i hi=>ba i (g2 i hi)) h2).1;rw[<-ao j,b3 _ (u j cc) o h1,d];rfl
 ·by_cases hA: ∃i,i∈con.outS.objs.map (·.1)/\ρ i=id
  ·obtain⟨i,hi,rfl⟩:=hA;obtain⟨o,ob,h1,h2,h3⟩:=ar i (.inl hi);obtain⟨eg,g1,g2⟩:=a8 i hi;rw[h1]at g1;cases g1;obtain⟨q1,q2⟩:=vW (Q:=fun i=>i∈(List.range con.k).map (fun j=>ρ2 (p+j))\/i<M) (fun i hi=>ba i (g2 i hi)) h2;rw[b3 i hi o h1,q1]at V;cases V;rcases Yc i p with h|h
   ·obtain⟨_,o0,_,g1,_⟩:=an i h;rw[hr i h]at h3;exact .inr ⟨o0,ob,g1,h3, .inr ⟨rfl,q2⟩⟩
   ·refine .inl ⟨i - p,ρ2 i,ob,?_,O i h,h3,rfl,q2⟩;have:=a3 i hi;rw[Ta,List.getElem?_range (by omega)];simp only[Kb];rw[show p+(i - p)=i by omega]
  ·have nA: ∀i∈con.outS.objs.map (·.1),ρ i≠id:=fun i hi e=>hA ⟨i,hi,e⟩;by_cases hB: ∃i,i<p/\i ∉ con.cst/\ρ i=id
   ·obtain⟨i,h1,h2,rfl⟩:=hB;rw[ca i h1 (fun h=>nA i h rfl) h2]at V;cases V
   ·rw[cr id nA (fun i h1 _ h2 e=>hB ⟨i,h1,h2,e⟩)]at V;refine .inr ⟨o1,o1,V,?_, .inl ⟨rfl,rfl⟩⟩;by_cases hP: ∃i,i<p/\ρ i=id
    ·obtain⟨i,hi,rfl⟩:=hP;have hc:i∈con.cst:=Li fun h=>hB ⟨i,hi,h,rfl⟩;obtain⟨o,ob,g1,g2,g3⟩:=an i hi;have es:i ∉ con.outS.objs.map (·.1):=fun h=>nA i h rfl;have h1:lkO X A i=some o:=by rw[cb i hc,g1]
     have:=v2.heap i o h1;rw[hr i hi]at d;rw[d];rw[g2]at V;cases V;rw[<-g3];have eh:lk X.frh i=some o:=by rw[ab,Om (fun i=>memN i con.cst),La (ZG.2 hc),g1]
     have da:=Xa.1 (Xa.1 d7 _ (Zg eh));have bl: ∀W∈Aj o,ρ2 W=ρ W/\infO (lkO X A) W=infO (lk a.2) W:=by
      intro W b8;have am:W<p:=by
       have db:=g1;rw[<-ha]at db;have:=hw.r2 _ (Zg db) W b8
       rwa [hp]at d
      refine⟨hr W am,?_⟩;by_cases a6:W∈con.outS.objs.map (·.1)
      ·-- its cells may be others, but it is no slice
       obtain⟨_,hk⟩:=bo W a6 am;obtain⟨o1,o',r1,ei,r3,_⟩:=aw W a6;obtain⟨s,hs,bp⟩:=bt _ (Zg ei);obtain⟨k1,s',k2,k3⟩:=hk s hs;obtain⟨oa,et,f1,_,_⟩:=an W am;have:infO (lk a.2) W=none:=by
        have dc:=f1;rw[<-ha]at dc;obtain⟨sa,ej,el⟩:=Un con.inS x _ (Zg dc);have ch:(con.inS.objs.map (·.1)).Nodup:=by rw[b6];exact List.nodup_range
        have:sa=s':=by have:=Mm ch ej;simp only at d;rw[k2]at d;cases d;rfl
        subst d;rcases el with⟨t,c,e,e2⟩|⟨ty,cs,e,e2⟩|⟨_,_,_,_,_,e2,_⟩
        rotate_right
        ·rw[e2]at k3;cases k3
        ·rw[k3]at e2;cases e2
        ·simp only at e;subst e;unfold infO;rw[f1]
       rw[d,U _ W o1 r1,r3];rcases bp with⟨t,c,e,e2⟩|⟨ty,cs,e,e2⟩|⟨_,_,_,_,_,e2,_⟩
       ·rw[k1]at e2;cases e2
       ·simp only at e;subst e;rfl
       ·rw[e2]at k1;cases k1
      ·have h3:=da W b8;rw[Ld,Da]at h3;rcases h3 with⟨h3,_⟩|h3
       ·exact absurd ((ad W (ZG.1 h3)).2 am) a6
       ·cases hf:lk X.frh W with
        |none=>rw[hf]at h3;cases h3
        |some of=>
         rw[ab,Om (fun i=>memN i con.cst)]at hf;split at hf
         ·rename_i en;exact uM (cb W (ZG.1 en))
         ·cases hf
     cases o with
     |cells ty cs=> simp only[trO];rw[Ya fun v hv=>Sn fun i hi=>bl i (Ub.2 ⟨v,hv,hi⟩)]
     |slo t l1 cs l2=> simp only[trO];rw[Ya fun v hv=>Sn fun i hi=>bl i (Ub.2 ⟨v,hv,hi⟩)]
     |_=>rfl
    ·have nP: ∀i,i<p->ρ i≠id:=fun i h1 h2=>hP ⟨i,h1,h2⟩;have:=(v2.oth id (by rw[hG id nP,V];simp)).1;rw[d,hG id nP,V]
 ·rw[Ta]at h1 h2;cases J:ws[j]? with
  |none=>rw[J]at h1;cases h1
  |some w0=>
   cases cd:B.1[j]? with
   |none=>rw[cd]at h2;cases h2
   |some b0=> rw[J]at h1;rw[cd]at h2;cases h1;cases h2;exact kv ρ ρ _ _ NoZ bj j w0 b0 J cd
 ·by_cases hA: ∃i,i∈con.outS.objs.map (·.1)/\ρ i=id
  ·obtain⟨i,hi,rfl⟩:=hA;obtain⟨o,o',q1,q2,q3,q4⟩:=aw i hi;obtain⟨ob,ob',g1,g2,g3⟩:=q4 ρ ρ _ _ NoZ bj;exact .inr ⟨ob,ob',by rw[b3 i hi o q1,g1],by rw[ct i o' q2,g2],g3⟩
  ·have nA: ∀i∈con.outS.objs.map (·.1),ρ i≠id:=fun i hi e=>hA ⟨i,hi,e⟩;by_cases hB: ∃i,i<p/\i ∉ con.cst/\ρ i=id
   ·obtain⟨i,h1,h2,rfl⟩:=hB;exact .inl ⟨ca i h1 (fun h=>nA i h rfl) h2,cv i h1 (fun h=>nA i h rfl) h2⟩
   ·have e1:=cr id nA (fun i h1 _ h2 e=>hB ⟨i,h1,h2,e⟩);have e2:=cw id nA (fun i h1 _ h2 e=>hB ⟨i,h1,h2,e⟩);cases hg:get id with
    |none=>exact .inl ⟨by rw[e1,hg],by rw[e2,hg]⟩
    |some o=>exact .inr ⟨o,o,by rw[e1,hg],by rw[e2,hg],WkOZ.refl o⟩
theorem zow (L:P.follows .mixedOrders=true) (hI:IpOK P I) {A:Env0 I} (hS: ∀c∈A.S,zn P c) {con:Con I} (u:Fj con=true) {fn:Func} {c:Code} {rs:List ResultVar} {T:TT} {fk:List (Nat×List Kd)} {exS:StSh} (hT:TOK P T fk)
  (hf:P.funcs[con.f]? =some fn) (hb:fn.body=some c) (Z:fn.results=rs.toArray) (v:(fn.name== "runtime.NumGoroutine")=false) (hp:A.p=con.inS.objs.length) (O: ∀x,((con.inS.sl I).enc x).1.length<=fn.ntmps)
  (hF: ∀x y,con.F x=some y->evF2 A T fk fn.ntmps rs c con exS x=some y):zn P con:=by
 refine⟨u,fun x y a3 ρ nx d a5 U=> ?_⟩;refine zoq hf hb Z rfl v (by rw[Ra];exact O x) fun get M hM j V=> ?_;have a6:=hF x y a3;have hv:=zCk (P:=P) hI u x T fk (ρ:=ρ) (M:=M) (get:=get) d (fun id o ho=>(j id o ho).1) V;have a7:=K4 (nt:=fn.ntmps) L hI hS c (X:=inX con T fk x) hT a6 hv (by rw[hp];exact Va _);refine SW.post a7 fun J e' a8 ⟨ρ',W,h1,h2,h3,h4⟩=> ?_;have fin: ∀{J:Exit},(J= .normal\/J= .ret)->(optB (Ik (inX con T fk x) W (yg rs)) fun vs=>(matC con.inS.objs.length (inX con T fk x) exS (yg rs) vs W (Ym exS.objs con.inS.objs.length)).bind fun q=>
   optB (retE (inX con T fk x) (encS exS (yg rs) (dh con.inS.objs.length exS.objs) q.1) rs) fun ws=>((con.outS.sl I).mat ws (lkO (inX con T fk x) (encS exS (yg rs) (dh con.inS.objs.length exS.objs) q.1)) (selfs (con.outS.objs.map (·.1)))).bind fun r=>
    cond (Fs (yg rs)&&exOK con exS ws (lkO (inX con T fk x) (encS exS (yg rs) (dh con.inS.objs.length exS.objs) q.1)) r.2) (some r.1) none)=some y->
   ∃e2 lh2,Sub fn.ntmps e' a8 e2 lh2/\LG P rs nx con.k M get (valOf (((con.outS.sl I).enc y).1.map (trT ρ (hOut con ((con.inS.sl I).enc x).2 ((con.outS.sl I).enc y).2))))
   ((((con.outS.sl I).enc y).2.map fun o=>(ρ o.1,trO P ρ (hOut con ((con.inS.sl I).enc x).2 ((con.outS.sl I).enc y).2) o.2))++
    ((con.inS.objs.filter fun o=> !(memN o.1 con.cst||memN o.1 (con.outS.objs.map (·.1)))).map fun o=>(ρ o.1,none))) J e2 lh2:=by
  intro J hx h;obtain⟨vs,q3,q4⟩:=Sl h;obtain⟨⟨z,m⟩,q5,q6⟩:=Ca.1 q4;obtain⟨ws,q7,q8⟩:=Sl q6;obtain⟨⟨y',m2⟩,q9,a9⟩:=Ca.1 q8;obtain⟨B,ab⟩:=zl a9;cases ab;rw[Da]at B;exact nY hI u x d a5 U hM (fun id o ho=>(j id o ho).1) V h2 (by rw[<-hp];exact h3) (fun i hi=>h4 i (by rw[hp];exact hi)) hT (OJ B.1) q3 q5 q7 q9 B.2 hx
 cases J with
 |Y=>exact fin (.inl rfl) h1
 |ret=>exact fin (.inr rfl) h1
 |_=>cases h1
end
end Go.Lv
