import Derived.Test.YtiidaccdmolmkaaGreatDoorLd
import Derived.LoopN
set_option linter.all false
namespace Go.Lv
def zH2{R:Type}{x y:Option R}{r:R}(h:both x y=some r):x=some r/\y=some r:=by
 unfold both at h
 grind
def zAx{R:Type}{r:R}: ∀{l:List (Option R)},allB l=some r-> ∀x∈l,x=some r
 |[],h=>by cases h
 |[x],h=>λy a=>by rw[jc.1 a];exact h
 |x::z::l,h=>by
  obtain⟨h1,h2⟩:=zH2 h;intro y a;rcases ib.1 a with e|e
  ·subst e;exact h1
  ·exact zAx h2 y e
section
variable {I:Ip} {P:Program} {ι ι':cL} {w w':World} {R:Type} {r0:R} {X:Cx I} {st:ES I.C} {B:Base} {nt:Nat} {ops:List Oper} {zs:List (Rz I)} {s0:FS I}
def Vw.on{e:EF I}{h:HF I}{a:Act}(hB:BOK B X)(V:Vw P B nt e h ι a w)(S:fW (λ_=>False) ι w ι' w')(W:Wf ι' w'):Vw P B nt e h ι' a w':=
 ⟨V.size,V.defers,λt x b=>de.step S (V.env t x b),λid o ho=>(V.obj id o ho).step S λh=>h,W,V.bas.step hB.live (λid hi=>⟨hB.lt id hi,λh=>h⟩) S⟩
def drew(ι:cL)(w:World):fW (λ_=>False) ι w ι {w with drawn:=w.drawn+1}:=⟨⟨λ_ _ h=>h,λ_ h=>h,λ_ _=>rfl⟩,rfl,rfl,rfl,Db _,λ_ _ _ _ _ _=>rfl,λ_ _=> .inl rfl,λ_ _ _=>rfl,λ_ _=>rfl,λ_ h=>h,λ_ _=>rfl⟩
def St.drew{a:Act}(hB:BOK B X)(V:St P B nt X st ι a w):St P B nt X st ι a {w with drawn:=w.drawn+1}:=⟨V.vw.on hB (Go.Lv.drew ι w) ⟨V.vw.wf.lt,V.vw.wf.inj,Glob.step (Go.Lv.drew ι w) V.vw.wf.glob,V.vw.wf.xlt⟩,V.free,V.le⟩
def xL{z:Rz I}: ∀n,gt (z::zs) s0 (n+1)=gt zs (Yj z s0) n
 |0=>rfl
 |n+1=>by rw[gt,xL n];rfl
def I1(hI:cU P I)(f:g8 P X.T X.fk){S:List (Con I)}(hS: ∀c∈S,ZH P c)(hB:BOK B X){fz:List Nat}{K:ES I.C->List Fp->Option R}: ∀(r:List Oper) (j:Nat) (st:ES I.C) (a:List Fp),opsE X S fz nt ops j r st a K=some r0->gw (cR X st)->
  ∃zs st',zs.map (·.o)=r/\K st' (a++zs.map λz=>(z.res.rd,z.res.up.map (·.1)))=some r0/\fsE X st'=gt zs (fsE X st) zs.length/\gw (cR X st')/\ ∀j z,zs[j]? =some z->OkZ P B nt ops z (gt zs (fsE X st) j)
 |[],j,st,a,h,hc=>⟨[],st,rfl,by simpa [opsE] using h,rfl,hc,λj z d=>by cases d⟩
 |o::r,j,st,a,h,hc=>by
  simp only[opsE]at h;split at h
  ·cases h
  ·rename_i q k;obtain⟨res,h1,d,e⟩:=opZ (B:=B) hI f hS hc hB.inc k h;obtain⟨zs,st',a1,a2,i,a4,a5⟩:=I1 hI f hS hB r (j+1) _ _ h1 e;rw[iF]at i a5;refine⟨⟨o,kO q (qz (cR X st) q) res.val,res,qz (cR X st) q⟩::zs,st',by grind,by simpa using a2,by rw[i,Ha,xL],a4,λj z b=> ?_⟩;cases j with
   |zero=>cases b;exact d
   |succ j=>rw[xL];exact a5 j z b
def zCD (f:P.follows .mixedOrders=true)(hI:cU P I)(L:g8 P X.T X.fk){S:List (Con I)}(hS: ∀c∈S,ZH P c)(hB:BOK B X){fz:List Nat}{id:Nat}{b:Array Oper}{K:ES I.C->Option R}{Q:Exit->Act->World->Prop}{a:Act}(hc:gw (cR X st))(V:St P B nt X st ι a w)
  (h0:opsE X S fz nt b.toList 0 b.toList st [] (λst' r=>cond (WR b.toList r) (K st') none)=some r0)
  (M: ∀st' ι' p w',K st'=some r0->St P B nt X st' ι' p w'->Q .normal p w'):(Code.region id b true).wp P Q a w:=by
 obtain⟨zs,st',a1,a2,A,a4,a5⟩:=I1 hI L hS hB (nt:=nt) b.toList 0 st [] h0 hc;obtain⟨s,hk⟩:=zX a2;simp only[WR,Da,Lb]at s;have d: ∀j,st.next<=(gt zs (fsE X st) j).nx:=λj=>kz (zs:=zs) (s0:=fsE X st) 0 j (Yb _);have hf: ∀j i,ι ((gt zs (fsE X st) j).nx+i)= .free:=λj i=>V.free _ (Jc (d j) (Nat.le_add_right _ _));have t: ∀j,(Array.replicate b.size false).getD j false=false:=by intro j;rw[Sd,Array.getElem?_replicate];split<;>rfl
 have U:zs.length=b.toList.length:=by rw[<-a1,Xa]
 refine wp_region_any f ?_;have u:=zPP (nt:=nt) (ops:=b.toList) (Q:=Q) hB ⟨a1,a5⟩ (λi k x y E F v=>by
   have ho: ∀{j:Nat} {z:Rz I},zs[j]? =some z->b.toList[j]? =some z.o/\(zs.map λz=>(z.res.rd,z.res.up.map (·.1)))[j]? =some (z.res.rd,z.res.up.map (·.1)):=λh=>⟨by grind,by grind⟩;rcases gU b.toList 0 [] rfl (λk=>by rw[Gd]) (λm i hi=>by simp at hi) s.2 i k x.o y.o _ _ (ho E).1 (ho F).1 (ho E).2 (ho F).2 v (Yb _)with h|⟨h1,h2⟩
   ·exact .inl h
   ·simp only[fpB,Mf]at h2;exact .inr ⟨h1,λz hm=>⟨DN h2.1.1 z hm,DN h2.1.2 z hm⟩,DN h2.2⟩) s.1
  (λι' p w' J l=>by
   rw[<-A]at J l;exact M st' ι' p w' hk ⟨J,l,Jc V.le (by have:=d zs.length;rw[<-A]at this;exact this)⟩)
  b.toList.length (Array.replicate b.size false) ι a _ (by simp) (λi j _ h=>by grind)
  (by
   have e: ∀n,ij zs (fsE X st) (λj=>(Array.replicate b.size false).getD j false) n=(cR X st,ev X st):=λn=>by
    induction n with
    |zero=>rfl
    |succ n O=>simp only[ij,t,Ba]at O ⊢;grind
   rw[e];exact(V.drew hB).vw) (Rl V.vw) (λj z _ _ i _=>hf j i) (λi hi=>V.free i (Jc (d _) hi))
  (by simp_all)
 simpa using u
def zPm(hI:cU P I)(O:g8 P X.T X.fk){S:List (Con I)}(hS: ∀c∈S,ZH P c)(hB:BOK B X){fz:List Nat}{K:ES I.C->Option R}{Q:Exit->Act->World->Prop}(U: ∀st' ι' v w',K st'=some r0->St P B nt X st' ι' v w'->Q .normal v w'):
  ∀(d:Nat) (b:Array Bool) (done:List Nat) (st:ES I.C) (ι:cL) (a:Act) (w:World),b.size=ops.length->(∀j,b.getD j false=dq j done)->(List.range ops.length).countP (λj=> !b.getD j false)<=d->
   anyE X S fz nt ops K d done st=some r0->gw (cR X st)->St P B nt X st ι a w->wpAny P .any ops.toArray Q d b a w:=by
 intro d
 induction d with
 |zero=>
  intro b done st ι a w t y r h hc V;refine⟨?_,U _ _ _ _ h V⟩;rw[List.eq_nil_iff_forall_not_mem];intro j s;rw[mem_ready]at s;obtain⟨h1,o,ho,_⟩:=s;have e:j<ops.length:=(Ua.1 (show ops[j]? =some o by simpa using ho)).1;have h0:=List.countP_eq_zero.1 (Nat.le_zero.1 r) j (Pd.2 e)
  grind
 |succ d W=>
  intro b done st ι a w t y r h hc V;have k: ∀j,j∈Region.ready .any ops.toArray b↔j∈XL ops done:=by
   intro j;unfold XL;rw[mem_ready,Df,Pd];constructor
   ·intro ⟨h1,o,ho,hr⟩;have f:ops[j]? =some o:=by simpa using ho
    have e:j<ops.length:=(Ua.1 f).1;refine⟨e,?_⟩;have hS:b.getD j false=false:=by rw[Sd,Array.getElem?_eq_getElem (by omega)]at h1 ⊢;simpa using h1
    rw[f,<-y,hS];simp only[Va,ja,Ya];intro i hi;simp only[eR,Rb,Df]at hi;obtain⟨J,⟨Y,Z⟩,rfl⟩:=hi
    grind
   ·intro ⟨e,h1⟩;have f:ops[j]? =some ops[j]:=Na e;rw[f,Da]at h1;obtain⟨h1,h2⟩:=h1;simp only[Ya]at h2;refine⟨?_,ops[j],by simp,λJ a3 hb=> ?_⟩
    ·grind
    ·rw[y];refine h2 J.on ?_;simp only[eR,Rb,Df]
     grind
  simp only[anyE]at h;refine⟨λu=> ?_,λj s=> ?_⟩
  ·have L:XL ops done=[]:=by rw[List.eq_nil_iff_forall_not_mem];intro j s;have:=(k j).2 s;rw[u]at this;simp at this
   grind
  ·have A:=(k j).1 s;rw[mem_ready]at s;obtain⟨h1,o,ho,_⟩:=s;have f:ops[j]? =some o:=by simpa using ho
   have e:j<ops.length:=(Ua.1 f).1;have a6:b.getD j false=false:=by rw[Sd,Array.getElem?_eq_getElem (by omega)]at h1 ⊢;simpa using h1
   have E: ∀i,(b.setIfInBounds j true).getD i false=(b.getD i false||i==j):=by
    intro i;by_cases m:i=j
    ·simp_all
    ·rw[getD_set_ne false (Ne.symm m)];simp[m]
   split at h
   ·grind
   ·have n:=zAx h _ (Rb.2 ⟨j,A,rfl⟩);rw[f]at n;simp only at n;split at n
    ·cases n
    ·rename_i q hg;obtain⟨res,h1,L,F⟩:=opZ (B:=B) hI O hS hc hB.inc hg n;have M:=oZ hB L V (K:=wpAny P .any ops.toArray Q d (b.setIfInBounds j true)) (Q:=Q) λι' v w' V'=>W (b.setIfInBounds j true) (j::done) _ ι' v w' (by simpa using t) (λi=>by
       rw[E,y];simp only[dq];by_cases m:i=j
       ·subst m;simp
       ·have:Nat.beq i j=false:=by
         cases hb:Nat.beq i j with
         |false=>rfl
         |true=>simp_all
        simp[this,m]) (by
      have:=cnt_lt (l:=List.range ops.length) (p:=λj=> !b.getD j false) (q:=λi=> !(b.setIfInBounds j true).getD i false) (λx hx=>by
       grind) (Pd.2 e) (by grind) (by grind)
      omega) h1 F V'
     unfold wpOp
     grind
def zEy (d:P.follows .mixedOrders=true)(hI:cU P I)(i:g8 P X.T X.fk){S:List (Con I)}(hS: ∀c∈S,ZH P c)(hB:BOK B X){fz:List Nat}{id:Nat}{b:Array Oper}{K:ES I.C->Option R}{Q:Exit->Act->World->Prop}{a:Act}(hc:gw (cR X st))(V:St P B nt X st ι a w)
  (h0:anyE X S fz nt b.toList K b.toList.length [] st=some r0)
  (k: ∀st' ι' f w',K st'=some r0->St P B nt X st' ι' f w'->Q .normal f w'):(Code.region id b true).wp P Q a w:=by
 refine wp_region_any d ?_;have e: ∀j,(Array.replicate b.size false).getD j false=false:=by intro j;rw[Sd,Array.getElem?_replicate];split<;>rfl
 have:=zPm (ops:=b.toList) hI i hS hB k b.toList.length (Array.replicate b.size false) [] st ι a _ (by simp) (λj=>by rw[e];rfl)
  (by simp_all) h0 hc (V.drew hB)
 simpa using this
def RO: ∀(env:EEnv I.C) (t:Nat) {x:EL I.C},lk (Sj env) t=some x->x= .any\/(lk env t=some x/\LQ x=true)
 |[],t,x,h=>by cases h
 |(j, .opt _ _ _)::r,t,x,h=>by
  simp only[Sj,Z9]at h ⊢;split at h
  ·cases h;exact .inl rfl
  ·rw[Ka (by assumption)];exact RO r t h
 |(j, .any)::r,t,x,h|(j, .v _)::r,t,x,h|(j, .tup _)::r,t,x,h=>by
  simp only[Sj,Z9]at h ⊢;split at h
  ·cases h;rw[La (by assumption)];exact .inr ⟨rfl,rfl⟩
  ·rw[Ka (by assumption)];exact RO r t h
def pV: ∀(env:EEnv I.C) (t:Nat),lk (Sj env) t=none->lk env t=none
 |[],t,h=>rfl
 |(j,x)::r,t,h=>by cases x<;>simp only[Sj,Z9]at h ⊢ <;>split at h<;>first|(cases h)|(rw[Ka (by assumption)];exact pV r t h)
def zPQ{a:Act}(V:St P B nt X st ι a w):St P B nt X {st with env:=Sj st.env} ι a w/\gw (cR X {st with env:=Sj st.env}):=by
 have c: ∀t x,cR X {st with env:=Sj st.env} t=some x->x= .any\/(cR X st t=some x/\LQ x=true):=λt x h=>by
  unfold cR at h ⊢;split at h
  ·rename_i y d;cases h;rcases RO st.env t d with h|⟨h,h2⟩
   ·exact .inl h
   grind
  ·rename_i d;rw[pV _ _ d];obtain⟨z,_,rfl⟩:=Sa.1 h;exact .inr ⟨h,rfl⟩
 refine⟨⟨⟨V.vw.size,V.vw.defers,λt x e=> ?_,V.vw.obj,V.vw.wf,V.vw.bas⟩,V.free,V.le⟩,λt ks b x e=> ?_⟩
 ·rcases c t x e with rfl|⟨h,_⟩
  ·trivial
  ·exact V.vw.env t x h
 ·rcases c t _ e with h|⟨_,h⟩<;>cases h
end
section
variable {I:Ip} {P:Program} {ι ι':cL} {w w':World} {X:Cx I} {st st1 st2:ES I.C} {B:Base} {nt:Nat}
structure Rdy (P:Program) (B:Base) (nt:Nat) (X:Cx I) (st st':ES I.C):Prop where
 env:st'.env=st.env
 next:st'.next=st.next
 ok: ∀{ι a w},St P B nt X st ι a w-> ∃ι',St P B nt X st' ι' a w
def Rdy.refl(st:ES I.C):Rdy P B nt X st st:=⟨rfl,rfl,λV=>⟨_,V⟩⟩
def Rdy.trans(h:Rdy P B nt X st st1)(g:Rdy P B nt X st1 st2):Rdy P B nt X st st2:=⟨g.env.trans h.env,g.next.trans h.next,λV=>let⟨_,V⟩:=h.ok V;g.ok V⟩
section
variable (hI:cU P I) (hB:BOK B X)
include hI hB
def LM(st:ES I.C)(id:Nat):Rdy P B nt X st (nC X st id):=by
 unfold nC;split
 case h_2=>exact .refl _
 rename_i t l hl a;exact⟨rfl,rfl,λV=>⟨_,VZ hI hB hl a V⟩⟩
def fU(st:ES I.C)(id:Nat):Rdy P B nt X st (xE X st id):=by
 unfold xE;split
 case h_2=>exact .refl _
 rename_i t l1 cs l2 hl e;split
 case h_2=>exact .refl _
 rename_i z k;refine⟨rfl,rfl,λ{ι a w} V=>⟨ι,V.set hB e (.same _ _ _) V.vw.wf ?_ λ_ h=>h⟩⟩;have l:=V.vw.obj id _ (show ev X st id=some (.slo t l1 cs l2) by simp only[ev,hl]);obtain⟨o,f⟩:=DR hI k;obtain⟨f,m⟩:=f (ι:=ι) (ι2:=ι) (w:=w) ⟨λ_ _ h=>h,λ_ h=>h,λ_ _=>rfl⟩;refine Sq l rfl rfl rfl (by simp[Zl]) λj r p hr b=> ?_;simp only[Zl,Tc,Xb]at hr b;rw[Fe]at hr b;split at hr
 ·rename_i i;rw[La i,hr]at b;cases b;exact⟨rfl,λj x y d c v _ hv=>by rw[d]at c;cases c;exact hv⟩
 ·rename_i i;rw[Ka i]at b;cases hk:j - (l1.map (I.exp t)).length with
  |zero=>
   rw[hk]at hr b;cases hr;cases b;exact⟨by simpa using f,λj x y d c v ho hv=>m j (nrmV (ev X st) x) y (by rw[Ta,d];rfl) c v ho (TE (Rl V.vw) hv)⟩
  |succ n=> rw[hk]at hr b;simp only[Kg]at hr b;rw[hr]at b;cases b;exact⟨rfl,λj x y d c v _ hv=>by rw[d]at c;cases c;exact hv⟩
def zBz: ∀(l:List Nat) (st:ES I.C),Rdy P B nt X st (NR X l st)
 |[],st=> .refl st
 |i::r,st=>(LM hI hB st i).trans (zBz r _)
def zGM(st:ES I.C)(id:Nat):Rdy P B nt X st (xS X st id):=by
 unfold xS;refine Rdy.trans ?_ (fU hI hB _ id);split
 ·exact zBz hI hB _ _
 ·exact .refl _
def wT: ∀(l:List Nat) (st:ES I.C),Rdy P B nt X st (kS X l st)
 |[],st=> .refl st
 |i::r,st=>((zGM hI hB st i).trans (LM hI hB _ i)).trans (wT r _)
def xM(st:ES I.C)(id:Nat):Rdy P B nt X st (TD X st id):=by
 unfold TD;refine Rdy.trans ?_ (fU hI hB _ id);split
 ·exact wT hI hB _ _
 ·exact .refl _
def yT(st:ES I.C)(id:Nat):Rdy P B nt X st (lS X st id):=(xM hI hB st id).trans (LM hI hB _ id)
def wM: ∀(l:List Nat) (st:ES I.C),Rdy P B nt X st (ou X l st)
 |[],st=> .refl st
 |i::r,st=>by
  simp only[ou];split
  ·exact(xM hI hB st _).trans (wM r _)
  ·exact wM r st
def pR: ∀(l:List (Nat×Option Nat)) (st:ES I.C),Rdy P B nt X st (preE X l st)
 |[],st=> .refl st
 |i::r,st=>by
  simp only[preE];split
  ·exact(yT hI hB st _).trans (pR r _)
  ·exact pR r st
def zBf: ∀(l:List Nat) (st:ES I.C),Rdy P B nt X st (RD X l st)
 |[],st=> .refl st
 |i::r,st=>(xM hI hB st i).trans (zBf r _)
def aN: ∀(l:List Nat) (st:ES I.C),Rdy P B nt X st (Xl X l st)
 |[],st=> .refl st
 |i::r,st=>(yT hI hB st i).trans (aN r _)
end
end
def Nw: ∀(l:List (Nat×jj)) (n:Nat),n<=si n l
 |[],n=>Db n
 |(i,_)::r,n=>by
  simp only[si];refine Jc ?_ (Nw r _);cases h:Nat.ble (i+1) n with
  |true=>grind
  |false=>
   simp only[Ba];have: ¬(i+1<=n):=λh'=>by rw[ag h']at h;cases h
   omega
def sw: ∀(l:List (Nat×jj)) (n i:Nat),i∈l.map (·.1)->i<si n l
 |(j,_)::r,n,i,h=>by
  simp only[si];rcases ib.1 h with h|h
  ·subst h;refine Mc ?_ (Nw r _);cases h:Nat.ble (i+1) n with
   |true=>exact Kc h
   |false=>grind
  ·exact sw r _ i h
section
variable {I:Ip} {P:Program} {ι ι':cL} {w w':World} {X:Cx I} {st:ES I.C} {B:Base} {nt:Nat}
def VM: ∀{l:List Nat} {i a:Nat},lk (kp l) i=some (some a)->a=i
 |[],_,_,h=>by cases h
 |j::r,i,a,h=>by
  simp only[kp,Xb,Z9]at h;split at h
  ·grind
  ·exact VM (l:=r) h
def N7: ∀{ts:List Nat} {vs:List (ET I.C)},Dl X st ts=some vs->vs.length=ts.length/\ ∀(j t:Nat),ts[j]? =some t-> ∃x,vs[j]? =some x/\cR X st t=some (.v x)
 |[],vs,h=>by cases h;grind
 |t::r,vs,h=>by
  simp only[Dl]at h;split at h<;>cases h;rename_i x l h1 h2;obtain⟨a1,a2⟩:=N7 h2
  grind
def M9: ∀{ts:List Nat} {as:List (ET I.C)} {t:Nat} {x:EL I.C},lk (nK ts as) t=some x-> ∃(j:Nat) (y:ET I.C),ts[j]? =some t/\as[j]? =some y/\x= .v y
 |[],_,_,_,h=>by cases h
 |_::_,[],_,_,h=>by cases h
 |u::r,a::s,t,x,h=>by
  simp only[nK,Z9]at h;split at h
  ·rename_i e;cases h;exact⟨0,a,by rw[e];rfl,rfl,rfl⟩
  ·obtain⟨j,y,h1,h2,h3⟩:=M9 h;exact⟨j+1,y,h1,h2,h3⟩
def p9{α:Type}: ∀{l:List (Nat×α)},RL (l.map (·.1))=true-> ∀o∈l,lk l o.1=some o.2
 |[],_,o,ho=>by cases ho
 |(j,y)::r,h,o,ho=>by
  simp only[Xb,RL]at h;rw[Z9];rcases ib.1 ho with rfl|ho
  ·exact La rfl
  ·cases hb:dq j (r.map (·.1))with
   |true=>grind
   |false=> rw[hb]at h;rw[Ka λe=>by rw[Dk.2 (Rb.2 ⟨o,ho,e⟩)]at hb;cases hb];exact p9 h o ho
def zRc(o:EO I.C):lq (λi=>i) o=o:=by cases o<;>simp[lq,show(rnV λi=>i)=(id:EV I.C->EV I.C)from funext WL]
def zMS(hI:cU P I)(c:Conv ι w ι' w){i:Nat}{o:EO I.C}(a:Qu P ι w i o)(hs:ι' i=ι i)(d: ∀b,ι.X b= .inn i->ι'.X b= .inn i)(hf: ∀j∈uu o,ι' j=ι j):Qu P ι' w i o:=by
 cases ho:isL o with
 |true=>
  have:=zBG hI c (f:=λi=>i) ho a hs d λj e=>Hq (hf j e)
  rwa [zRc]at this
 |false=>
  cases o with
  |dead=>trivial
  |frz t l=>exact hs.trans a
  |mp kd l=>obtain⟨b,h1,h2⟩:=a;exact⟨b,hs.trans h1,h2⟩
  |_=>cases ho
def rT{m:Mp}{i:Nat}(h:im m i=true):lk m i=some (some i):=by
 unfold im at h;split at h
 ·simp_all
 ·cases h
def IR (hI:cU P I)(hB:BOK B X){a:Act}(V:St P B nt X st ι a w){sh:du}{tmps:List Nat}{vs:List (ET I.C)}(hv:Dl X st tmps=some vs){m0:Mp}(O: ∀i a,lk m0 i=some (some a)->a=i){n:Nat}(hn:B.p<=n)(a3: ∀i∈sh.objs.map (·.1),i<n)
  {z:(sh.sl I).T×Mp} (h:matC B.p n X sh vs st m0=some z): ∃ι2,St P B nt X (encS sh tmps n z.1) ι2 a w:=by
 obtain⟨x,m⟩:=z;simp only[matC]at h;have Q:=(aN (P:=P) (nt:=nt) hI hB (fzV sh.vals vs) st).trans ((zBf hI hB (clA (ev X (Xl X (fzV sh.vals vs) st)) sh vs) _).trans (aN hI hB (fzA (ev X (RD X (clA (ev X (Xl X (fzV sh.vals vs) st)) sh vs) (Xl X (fzV sh.vals vs) st))) sh vs) _));generalize Xl X (fzA (ev X (RD X (clA (ev X (Xl X (fzV sh.vals vs) st)) sh vs) (Xl X (fzV sh.vals vs) st))) sh vs) _=st1 at*;obtain⟨z,hz,h⟩:=Ra.1 h;obtain⟨hc,h⟩:=zX h;cases h;obtain⟨d,r⟩:=Q.ok V;have U: ∀t,cR X st t=cR X st1 t:=λt=>by unfold cR;rw[Q.env]
 obtain⟨_,L⟩:=Gq (P:=P) hI sh;obtain⟨l1,l2,l3,l4⟩:=L _ _ _ _ _ hz;simp only[gY,Da,Ya]at hc;obtain⟨⟨⟨⟨⟨⟨⟨_,c2⟩,c3⟩,c4⟩,c5⟩,c6⟩,c7⟩,c8⟩:=hc
 let ks:Nat->Nat:=λi=>match lk sh.objs i with
  |some o=>match slT o with
   |some t=>P.cellsOf t
   |none=>0
  |none=>0
 have dec: ∀a,Decidable (∃i,lk m i=some (some a)):=λ_=>Classical.propDecidable _;have E:InjM m:=l1.2 λi j a h1 h2=>(O i a h1).symm.trans (O j a h2)
 let ι2:cL:=⟨λi=>match lk X.frh i with
  |some _=>d i
  |none=>match lk m i with
   |some (some a)=>d a
   |some none=> .live none (ks i) 0
   |none=>if i<n then .dead else .free,λb=>match d.X b with
  | .inn a=>if h: ∃i,lk m i=some (some a)then .inn h.choose else .inn a
  |x=>x⟩
 have W: ∀i,lk X.frh i≠none->ι2 i=d i:=λi hi=>by
  show(match lk X.frh i with|some _=>d i|none=>_)=_;cases e:lk X.frh i with
  |none=>exact absurd e hi
  |some _=>rfl
 have s: ∀i z,lk m i=some z->lk X.frh i=none/\i∈sh.objs.map (·.1)/\(∀a,z=some a->lk X.frh a=none)/\(i<B.p->im m i=true):=λi z hi=>by
  have h6:=c6 _ (Mh hi);obtain⟨⟨h7,h8⟩,Z⟩:=h6;have hm:=Dk.1 h7;refine⟨?_,hm,λa e=> ?_,λhp=> ?_⟩
  ·have:=c3 i hm;cases e:lk X.frh i with
   |none=>rfl
   |some _=>rw[e]at this;cases this
  ·subst e;have Z:(match lk X.frh a with|some _=>false|none=>true)=true:=Z;cases e:lk X.frh a with
   |none=>rfl
   |some _=>rw[e]at Z;cases Z
  ·rw[Gv.2 hp]at h8;exact h8
 have A: ∀b,d.X b= .no->ι2.X b= .no:=λb e=>by show(match d.X b with| .inn a=>if h: ∃i,lk m i=some (some a)then Own.inn h.choose else .inn a|x=>x)=_;rw[e]
 have F: ∀b,d.X b= .far->ι2.X b= .far:=λb e=>by show(match d.X b with| .inn a=>if h: ∃i,lk m i=some (some a)then Own.inn h.choose else .inn a|x=>x)=_;rw[e]
 have xm: ∀b i a,lk m i=some (some a)->d.X b= .inn a->ι2.X b= .inn i:=λb i a hi e=>by show(match d.X b with| .inn a=>if h: ∃i,lk m i=some (some a)then Own.inn h.choose else .inn a|x=>x)=_;rw[e];have h: ∃i,lk m i=some (some a):=⟨i,hi⟩;simp only[dif_pos h];rw[E _ _ _ h.choose_spec hi]
 have xk: ∀b a,lk X.frh a≠none->d.X b= .inn a->ι2.X b= .inn a:=λb a ha e=>by show(match d.X b with| .inn a=>if h: ∃i,lk m i=some (some a)then Own.inn h.choose else .inn a|x=>x)=_;rw[e];have h: ¬ ∃i,lk m i=some (some a):=λ⟨i,hi⟩=>ha ((s i _ hi).2.2.1 a rfl);simp only[dif_neg h]
 have xi: ∀b x,ι2.X b=x->(x= .no->d.X b= .no)/\(x= .far->d.X b= .far):=λb x e=>by
  cases J:d.X b with
  |no=>rw[A b J]at e;subst e;exact⟨λ_=>rfl,λe=>by cases e⟩
  |far=>rw[F b J]at e;subst e;exact⟨(λe=>by cases e),λ_=>rfl⟩
  |inn a=>
   have e2:ι2.X b=if h: ∃i,lk m i=some (some a)then Own.inn h.choose else .inn a:=by show(match d.X b with| .inn a=>if h: ∃i,lk m i=some (some a)then Own.inn h.choose else .inn a|x=>x)=_;rw[J]
   rw[e]at e2;constructor<;>intro e3<;>rw[e3]at e2<;>split at e2<;>cases e2
 have hM:Cmp d ι2 ks m:=λi z hi=>by
  have e1:ι2 i=match lk X.frh i with|some _=>d i|none=>match lk m i with|some (some a)=>d a|some none=> .live none (ks i) 0|none=>if i<n then .dead else .free:=rfl;rw[(s i z hi).1,hi]at e1;cases z with
  |none=>exact e1
  |some a=>exact⟨e1,λb e=>xm b i a hi e⟩
 have hS: ∀i,im m i=true->ι2 i=d i:=λi hi=>(hM i _ (rT hi)).1;have hN: ∀i,lk X.frh i=none->lk m i=none->ι2 i=if i<n then .dead else .free:=λi h1 h2=>by show(match lk X.frh i with|some _=>d i|none=>match lk m i with|some (some a)=>d a|some none=> .live none (ks i) 0|none=>if i<n then .dead else .free)=_;rw[h1,h2]
 have src: ∀{i b k n},ι2 i= .live (some b) k n-> ∃j,d j= .live (some b) k n/\((j=i/\lk X.frh i≠none)\/(lk X.frh j=none/\lk m i=some (some j))):=λ{i b k n'} e=>by
  by_cases hi:lk X.frh i=none
  ·cases hm:lk m i with
   |none=>rw[hN i hi hm]at e;split at e<;>cases e
   |some z=>
    have:=hM i z hm;cases z with
    |none=>rw[show ι2 i=_ from this]at e;cases e
    |some a=>exact⟨a,(show ι2 i=d a from this.1)▸e, .inr ⟨(s i _ hm).2.2.1 a rfl,rfl⟩⟩
  ·exact⟨i,W i hi▸e, .inl ⟨rfl,hi⟩⟩
 have dom: ∀b,fm d w b->fm ι2 w b:=λb hb=>⟨hb.1,A b hb.2.1,λi k n e=>let⟨j,Y,_⟩:=src e;hb.2.2 j k n Y⟩;have hC:Conv d w ι2 w:=⟨λ_ _ h=>h,dom,λ_ _=>rfl⟩;obtain⟨a1,a2⟩:=l4 hC hM (λo ho _ t ht=>by simp only[ks,p9 c2 o ho,ht]) λi a _ o ho=>zB7 (Rl r.vw) (λo=>r.vw.obj a o) ho;have bas:=r.vw.bas;refine⟨ι2,⟨r.vw.size,r.vw.defers,λt y hy=> ?_,λi o l=> ?_,⟨λi b k n e=>let⟨j,Y,_⟩:=src e;let⟨q1,q2⟩:=r.vw.wf.lt j b k n Y;⟨q1,A b q2⟩,λi j b k k' n n' e Y=> ?_,λq hq=>let⟨h1,h2⟩:=r.vw.wf.glob q hq;⟨dom _ h1,h2⟩,λb hb=>r.vw.wf.xlt b λe=>hb (A b e)⟩,
  ⟨⟨bas.c.shape,λb hb=>dom b (bas.c.dom b hb),bas.c.keep⟩,bas.os,bas.tape,bas.output,bas.size,λb hb=> ?_,λb e=>bas.xn b ((xi b _ rfl).2 e),bas.xkeep,λi hi=> ?_,bas.cst⟩⟩,λi hi=> ?_,hn⟩
 ·unfold cR at hy;split at hy
  ·rename_i y' a6;cases hy;obtain⟨j,u,h1,h2,rfl⟩:=M9 a6;obtain⟨v,h3,h4⟩:=(N7 hv).2 j t h1;exact a1 j _ u (by rw[Ta,h3];rfl) h2 _ (Vv (Rl r.vw) (r.vw.env t (.v v) (by rw[<-U];exact h4)))
  ·obtain⟨u,hu,rfl⟩:=Sa.1 hy;have f:=c4 _ (Mh hu);have he:cR X st1 t=some (.v u):=by
    unfold cR;cases e:lk st1.env t with
    |none=>rw[hu];rfl
    |some _=> have f:(match lk st1.env t with|some _=>false|none=>true)=true:=f;rw[e]at f;cases f
   have hr:cx d w u _:=r.vw.env t _ he;show cx ι2 w u _;rw[<-oQ u];refine hr.ren hC λi hi=>Hq ?_;have:=c7 _ (Mh hu) i hi;rw[Pb,Da]at this;rcases this with⟨_,h⟩|h
   ·exact hS i h
   ·exact W i λe=>by rw[e]at h;cases h
 ·unfold ev at l;split at l
  ·cases l;exact(a2 _ (Mh (by assumption))).2
  ·have f:=(c5 _ (Mh l)).2;have ho:ev X st1 i=some o:=by
    unfold ev;cases e:lk st1.heap i with
    |none=>exact l
    |some _=> have f:(match lk st1.heap i with|some _=>false|none=>true)=true:=f;rw[e]at f;cases f
   refine zMS hI hC (r.vw.obj i o ho) (W i (by rw[l];simp)) (λb=>xk b i (by rw[l];simp)) λj hj=> ?_;have:=c8 _ (Mh l) j hj;rw[Pb,Da]at this;rcases this with⟨_,h⟩|h
   ·exact hS j h
   ·exact W j λe=>by rw[e]at h;cases h
 ·obtain⟨i',h1,h2⟩:=src e;obtain⟨j',g1,M⟩:=src Y;obtain rfl:=r.vw.wf.inj _ _ _ _ _ _ _ h1 g1;rcases h2 with⟨h2,h3⟩|⟨h2,h3⟩<;>rcases M with⟨M,g3⟩|⟨M,g3⟩
  ·exact h2.symm.trans M
  ·rw[h2]at M;exact absurd M h3
  ·rw[M]at h2;exact absurd h2 g3
  ·exact E _ _ _ h3 g3
 ·have e:=bas.xs b hb;cases J:B.ι0.X b with
  |no=>rw[J]at hb;cases hb
  |far=>exact F b (e.trans J)
  |inn i=> rw[J]at hb;exact xk b i (hB.inc i (ve hb)) (e.trans J)
 ·by_cases h1:lk X.frh i=none
  ·cases h2:lk m i with
   |none=>exact .inr ⟨λhc=>hB.inc i hc h1, .inl (by rw[hN i h1 h2,La (Mc hi hn)])⟩
   |some z=>rw[hS i ((s i z h2).2.2.2 hi)];exact bas.slots i hi
  ·rw[W i h1];exact bas.slots i hi
 ·have hi:n<=i:=hi;have h1:lk X.frh i=none:=by
   cases e:lk X.frh i with
   |none=>rfl
   |some o=> have:=Gv.1 (c5 _ (Mh e)).1;exact absurd this (Nat.not_lt.2 hi)
  have h2:lk m i=none:=by
   cases e:lk m i with
   |none=>rfl
   |some z=>exact absurd (a3 i (s i z e).2.1) (Nat.not_lt.2 hi)
  rw[hN i h1 h2,Ka (Nat.not_lt.2 hi)]
def FM: ∀{ts:List Nat} {l:List (Nat×ET I.C)},Ir X st ts=some l-> ∀t x,lk l t=some x->cR X st t=some (.v x)
 |[],l,h,t,x,a=>by cases h;cases a
 |u::r,l,h,t,x,a=>by
  simp only[Ir]at h;split at h<;>cases h
  ·rename_i y _ l h1 h2;rw[Z9]at a;split at a
   ·rename_i e;cases a;rw[e];unfold cR;rw[h1]
   ·exact FM h2 t x a
  ·exact FM (by assumption) t x a
def BM: ∀{ts:List Nat} {l:eE I.C},Hr X st ts=some l-> ∀i o,lk l i=some o->ev X st i=some o
 |[],l,h,t,x,a=>by cases h;cases a
 |u::r,l,h,t,x,a=>by
  simp only[Hr]at h;split at h<;>cases h
  ·rename_i y _ l h1 h2;rw[Z9]at a;split at a
   ·rename_i e;cases a;rw[e];unfold ev;rw[h1]
   ·exact BM h2 t x a
  ·exact BM (by assumption) t x a
abbrev frX(X:Cx I)(fe:List (Nat×ET I.C))(fo:eE I.C):Cx I:={X with frm:=fe++X.frm,frh:=fo++X.frh}
variable {fe:List (Nat×ET I.C)} {fo:eE I.C}
def tK(hB:BOK B X):BOK B (frX X fe fo):=⟨hB.live,hB.lt,λi hi e=>by
 simp only[yt]at e;split at e
 ·cases e
 ·exact hB.inc i hi e⟩
def EM: ∀{ts:List Nat} {l:List (Nat×ET I.C)},Ir X st ts=some l-> ∀t∈ts,lk l t=none->lk st.env t=none
 |u::r,l,h,t,ht,hn=>by
  simp only[Ir]at h;split at h<;>cases h
  ·rename_i y _ l h1 h2;rw[Z9]at hn;split at hn
   ·cases hn
   ·exact EM h2 t ((ib.1 ht).resolve_left (by assumption)) hn
  ·rename_i h1 _ h2;rcases ib.1 ht with rfl|ht
   ·exact h1
   ·exact EM h2 t ht hn
def yL: ∀{ts:List Nat} {l:eE I.C},Hr X st ts=some l-> ∀t∈ts,lk l t=none->lk st.heap t=none
 |u::r,l,h,t,ht,hn=>by
  simp only[Hr]at h;split at h<;>cases h
  ·rename_i y _ l h1 h2;rw[Z9]at hn;split at hn
   ·cases hn
   ·exact yL h2 t ((ib.1 ht).resolve_left (by assumption)) hn
  ·rename_i h1 _ h2;rcases ib.1 ht with rfl|ht
   ·exact h1
   ·exact yL h2 t ht hn
def ER{α:Type}(ks:List Nat): ∀(l:List (Nat×α)) (i:Nat) {x:α},lk (outK ks l) i=some x->lk l i=some x
 |[],i,x,h=>by cases h
 |(j,y)::r,i,x,h=>by
  have a:=ER ks r i (x:=x);unfold outK at h a;rw[List.filter_cons]at h;rw[Z9];by_cases hm:dq j ks=true
  ·rw[Ka (by simp[hm])]at h;rw[Ka]
   ·exact a h
   ·rintro rfl;have h:=Mh h;have:=(Df.1 h).2;rw[hm]at this;cases this
  ·rw[La (by simpa using hm),Z9]at h;split at h
   ·rw[La (by assumption)];exact h
   ·rw[Ka (by assumption)];exact a h
def OO{α:Type}(ks:List Nat): ∀(l:List (Nat×α)) (i:Nat),lk (outK ks l) i=none->i∈ks\/lk l i=none
 |[],i,h=> .inr rfl
 |(j,y)::r,i,h=>by
  have a:=OO ks r i;unfold outK at h a;rw[List.filter_cons]at h;rw[Z9];by_cases hm:dq j ks=true
  ·rw[Ka (by simp[hm])]at h;by_cases e:i=j
   ·subst e;exact .inl (Dk.1 hm)
   ·rw[Ka e];exact a h
  ·rw[La (by simpa using hm),Z9]at h;split at h
   ·cases h
   ·rw[Ka (by assumption)];exact a h
def M4{c:Cut}(h1:Ir X st c.keepT=some fe)(h2:Hr X st c.keepO=some fo){a:Act}(V:St P B nt X st ι a w):St P B nt (frX X fe fo) (cutK c st) ι a w:=by
 have d: ∀t x,cR (frX X fe fo) (cutK c st) t=some x->cR X st t=some x:=λt x h=>by
  simp only[cR,cutK,yt]at h;split at h
  ·simp only[cR];rw[ER _ _ _ (by assumption)];exact h
  ·obtain⟨y,b,rfl⟩:=Sa.1 h;split at b
   ·cases b;exact FM h1 t y (by assumption)
   ·have e:lk st.env t=none:=(OO _ _ _ (by assumption)).elim (λe=>EM h1 t e (by assumption)) id;simp only[cR];rw[e,b];rfl
 have ho: ∀i o,ev (frX X fe fo) (cutK c st) i=some o->ev X st i=some o:=λt x h=>by
  simp only[ev,cutK,yt]at h;split at h
  ·simp only[ev];rw[ER _ _ _ (by assumption)];exact h
  ·split at h
   ·cases h;exact BM h2 t x (by assumption)
   ·have e:lk st.heap t=none:=(OO _ _ _ (by assumption)).elim (λe=>yL h2 t e (by assumption)) id;simp only[ev];rw[e];exact h
 exact⟨⟨V.vw.size,V.vw.defers,λt x f=>V.vw.env t x (d t x f),λi o hi=>V.vw.obj i o (ho i o hi),V.vw.wf,V.vw.bas⟩,V.free,V.le⟩
def LZ{α β:Type}(f:α->β): ∀(l:List (Nat×α)) (i:Nat),lk (l.map λp=>(p.1,f p.2)) i=(lk l i).map f
 |[],i=>rfl
 |(j,x)::r,i=>by
  simp only[Xb,Z9];split
  ·rfl
  ·exact LZ f r i
def gL{a:Act}(V:St P B nt (frX X fe fo) st ι a w):St P B nt X (lz fe fo st) ι a w:=by
 have b:cR X (lz fe fo st)=cR (frX X fe fo) st:=funext λt=>by
  simp only[cR,lz,yt,LZ];cases lk st.env t with
  |some _=>rfl
  |none=>cases lk fe t<;>rfl
 have ho:ev X (lz fe fo st)=ev (frX X fe fo) st:=funext λt=>by
  simp only[ev,lz,yt];cases lk st.heap t with
  |some _=>rfl
  |none=>cases lk fo t<;>rfl
 exact⟨by rw[b,ho];exact V.vw,V.free,V.le⟩
end
def VU{S Y R:Type}{step:S->Option (LO S Y R)}{s:S}{x:LX Y R}(h:Dg step s=some x): ∃n,ZP step n s=some x:=by
 unfold Dg at h;split at h
 ·rename_i a;injection h with h;exact⟨a.choose,by rw[<-h];exact a.choose_spec.choose_spec⟩
 ·cases h
def zHa{S Y R:Type}{f:Option Nat}{step:S->Option (LO S Y R)}{s:S}{x:LX Y R}(h:uP f step s=some x): ∃n,ZP step n s=some x:=by
 cases f with
 |none=>exact VU h
 |some n=>exact⟨n,h⟩
def Uw{α R:Type}{c:Option α}{f:α->Option R}{r:R}(h:cY c f=some r): ∃x,c=some x/\f x=some r:=by
 cases c with
 |none=>cases h
 |some x=>exact⟨x,rfl,h⟩
section
variable {I:Ip} {P:Program} {B:Base} {nt:Nat}
def outQ{S Y R:Type}(z:LX Y R)(Q:Exit->Act->World->Prop)(x:Exit)(a:Act)(w:World):LO S Y R->Prop
 | .again _=>False
 | .out y=>z= .out y->Q x a w
 | .ret y=>z= .ret y->Q x a w
def R5 {S Y R:Type}{step:S->Option (LO S Y R)}{z:LX Y R}{J:S->Act->World->Prop}{body:Code}{Q:Exit->Act->World->Prop}
  (round: ∀s o a w,J s a w->step s=some o->body.wp P (Exit.then (λc w'=> ∃d,o= .again d/\J d c w') λx c w'=>outQ z Q x c w' o) a w):
  ∀(n:Nat) (s:S) (a:Act) (w:World),ZP step n s=some z->J s a w->Code.rounds P body Q n a w
 |0,_,_,_,h,_=>by cases h
 |n+1,s,a,w,h,f=>by
  simp only[ZP]at h;split at h
  ·cases h
  ·rename_i d hs;refine wp_mono (round s _ a w f hs) λx c w' b=> ?_;cases x with
   |normal=>obtain⟨_,e,i⟩:=b;cases e;exact R5 round n d c w' h i
   |_=>exact b.elim
  ·rename_i y hs;cases h;refine wp_mono (round s _ a w f hs) λx c w' b=> ?_;cases x with
   |normal=>obtain⟨_,e,_⟩:=b;cases e
   |_=>exact b rfl
  ·rename_i y hs;cases h;refine wp_mono (round s _ a w f hs) λx c w' b=> ?_;cases x with
   |normal=>obtain⟨_,e,_⟩:=b;cases e
   |_=>exact b rfl
def zR6(F:P.follows .mixedOrders=true)(hI:cU P I){A:Env0 I}(hS: ∀c∈A.S,ZH P c)(hp:A.p=B.p):
  ∀(c:Code) {X:Cx I} {R:Type} {K:Exit->ES I.C->Option R} {r:R} {Q:Exit->Act->World->Prop} {st:ES I.C} {ι:cL} {a:Act} {w:World},g8 P X.T X.fk->BOK B X->evC A nt c X K st=some r->St P B nt X st ι a w->
   (∀x st' ι' m w',K x st'=some r->St P B nt X st' ι' m w'->Q x m w')->c.wp P Q a w:=by
 intro c
 induction c with
 |skip=>exact λ_ _ h V f=>wp_skip (f _ _ _ _ _ h V)
 |label l=>exact λ_ _ h V f=>wp_label (f _ _ _ _ _ h V)
 |exit id=>exact λ_ _ h V f=>wp_exit (f _ _ _ _ _ h V)
 |ret=>exact λ_ _ h V f=>wp_ret (f _ _ _ _ _ h V)
 |region id ops ad=>
  intro X R K r Q st ι a w k hB h V f;obtain⟨V0,hc⟩:=zPQ V;have a3:=(wM (P:=P) (nt:=nt) hI hB (lkD A.cls id) {st with env:=Sj st.env}).trans (pR hI hB (lkD A.pre id) _);obtain⟨M,j⟩:=a3.ok V0;simp only[evC]at h;generalize preE X (lkD A.pre id) (ou X (lkD A.cls id) {st with env:=Sj st.env})=st1 at*;have O:gw (cR X st1):=by
   have:cR X st1=cR X {st with env:=Sj st.env}:=funext λt=>by unfold cR;rw[a3.env]
   rw[this];exact hc
  split at h
  ·refine wp_region_list ?_;have:=nD hI k hS hB (λst' ι' m w'=>f .normal st' ι' m w') ops.toList 0 st1 M a w h O j;simpa using this
  ·split at h
   ·exact zEy F hI k hS hB O j h λst' ι' m w'=>f .normal st' ι' m w'
   ·exact zCD F hI k hS hB O j h λst' ι' m w'=>f .normal st' ι' m w'
 |seq b d a6 a7=>
  intro X R K r Q st ι a w k hB h V f;simp only[evC]at h;refine wp_seq ?_;split at h
  ·refine a6 k hB h V λx st' ι' m w' h1 j=> ?_;cases x with
   |normal=>exact a7 k hB h1 j f
   |_=>exact f _ _ _ _ _ h1 j
  ·rename_i c _;split at h
   case h_2=>cases h
   rename_i fe fo U W;obtain⟨z,E,v⟩:=Ra.1 h;refine a6 (X:=frX X fe fo) k (tK hB) E (M4 U W V) λx st' ι' m w' h1 j=> ?_;cases x with
   |normal=>
    obtain⟨vs,Y,L⟩:=Uw h1;obtain⟨y,q3,q4⟩:=Ra.1 L;cases q4;rw[hp]at q3;obtain⟨ι2,V2⟩:=IR hI (tK hB) j Y (λ_ _=>VM) (Jc V.le (Nw _ _)) (λi hi=>sw _ _ i hi) q3;exact a7 (X:=frX X fe fo) k (tK hB) v V2 λx st' ι' m w' h V=>f _ _ _ _ _ h (gL V)
   |_=> obtain⟨y,Y,L⟩:=Sa.1 h1;subst L;cases v;exact f _ _ _ _ _ Y (gL j)
 |cond c x y a9 ab=>
  intro X R K r Q st ι a w k hB h V f;simp only[evC]at h;split at h
  case h_2=>cases h
  rename_i b hb;have hr:=Uv (x:=c) (Rl V.vw) λt _ y hy=>V.vw.env t y hy;rw[hb]at hr;refine wp_cond (t:=b) (Ze rfl hr) ?_;cases b with
  |true=>exact a9 k hB h V f
  |false=>exact ab k hB h V f
 |block id c ih=>
  intro X R K r Q st ι a w k hB h V f;simp only[evC]at h;refine wp_block (ih k hB h V λx st' ι' m w' h1 j=> ?_);cases x with
  |exit i=>
   simp only[Exit.inBlock];by_cases hi:i=id
   ·rw[La hi];simp only[hi,Nat.beq_refl,Ca]at h1;exact f _ _ _ _ _ h1 j
   ·rw[Ka hi];have hb:Nat.beq i id=false:=by
     cases hb:Nat.beq i id with
     |false=>rfl
     |true=>exact absurd (ma hb) hi
    simp only[hb,Ba]at h1;exact f _ _ _ _ _ h1 j
  |_=>exact f _ _ _ _ _ h1 j
 |scope c ih=>
  intro X R K r Q st ι a w k hB h V f;simp only[evC]at h;refine wp_scope_straight (ih k hB h V λx st' ι' m w' h1 j=> ?_);cases x with
  |goto l=>cases h1
  |_=>exact f _ _ _ _ _ h1 j
 |loop c ih=>
  intro X R K r Q st ι a w k hB h V f;simp only[evC]at h;split at h
  ·cases h
  rename_i u _;split at h
  case h_2=>cases h
  rename_i fe fo U W;obtain⟨vs,Y,L⟩:=Uw h;obtain⟨y,q3,q4⟩:=Ra.1 L;obtain⟨z,E,v⟩:=Ra.1 q4;obtain⟨n0,hit⟩:=zHa E;clear h L q4 E;rw[hp]at q3;have a8:BOK B (frX X fe fo):=tK hB;have cut: ∀{sh:du} {tmps self vs st ι a w z n},St P B nt (frX X fe fo) st ι a w->Dl (frX X fe fo) st tmps=some vs->B.p<=n->(∀i∈sh.objs.map (·.1),i<n)->matC B.p n (frX X fe fo) sh vs st (kp self)=some z-> ∃ι2,St P B nt (frX X fe fo) (encS sh tmps n z.1) ι2 a w:=λV h1 hn hi h2=>IR hI a8 V h1 (λ_ _=>VM) hn hi h2;have Z:=Jc V.le (Nw u.sh.objs st.next);obtain⟨M,j⟩:=cut (M4 U W V) Y Z (λi hi=>sw _ _ i hi) q3;refine wp_loop_rounds n0 (R5 (J:=λs a w=> ∃ι,St P B nt (frX X fe fo) (encS u.sh u.tmps (si st.next u.sh.objs) s) ι a w) (λs o a w ⟨ι,V⟩ hs=> ?_) n0 y.1 a w hit ⟨M,j⟩);refine ih (X:=frX X fe fo) k a8 hs V λx st' ι' m w' h1 j=> ?_;have other: ∀(x:Exit),(K x (lz fe fo st')).map LO.ret=some o->outQ z Q x m w' o:=by intro x h1;obtain⟨y,Y,L⟩:=Sa.1 h1;subst L;intro e;subst e;cases v;exact f _ _ _ _ _ Y (gL j)
  cases x with
  |normal=>
   obtain⟨vs,r1,r2⟩:=Uw h1;obtain⟨y',r3,r4⟩:=Ra.1 r2;cases r4;rw[hp]at r3;exact⟨_,rfl,cut j r1 Z (λi hi=>sw _ _ i hi) r3⟩
  |exit i=>
   simp only at h1;cases hb:Nat.beq i u.xid with
   |true=>
    rw[hb]at h1;obtain⟨vs,r1,r2⟩:=Uw h1;obtain⟨y',r3,r4⟩:=Ra.1 r2;cases r4;intro e;subst e;rw[hp]at r3;obtain⟨ι2,V2⟩:=cut j r1 (Jc Z (Nw u.xsh.objs _)) (λi hi=>sw _ _ i hi) r3;rw[ma hb];exact f _ _ _ _ _ v (gL V2)
   |false=> rw[hb]at h1;exact other (.exit i) h1
  |goto l=>exact other (.goto l) h1
  |ret=>exact other .ret h1
  |panic c=>exact other (.panic c) h1
  |outgrown=>exact other .outgrown h1
 |_=>exact λ_ _ h=>by simp only[evC]at h;cases h
end
def rd1(tmps:Array Value):ResultVar->Sem Value
 | .tmp t=>pure (tmps.getD t undef)
 | .cell a t=>do loadVar t (<-asAddr (tmps.getD a undef))
def zEz(fn:Func)(tmps:Array Value):results fn tmps=(do let vs<-fn.results.mapM (rd1 tmps);pure (if h:vs.size=1 then vs[0]else .tuple vs)):=by
 unfold results;have:(λr:ResultVar=>match r with| .tmp t=>(pure (tmps.getD t undef):Sem Value)| .cell a t=>do loadVar t (<-asAddr (tmps.getD a undef)))=rd1 tmps:=by funext r;cases r<;>rfl
 rw[<-this];rfl
def zNZ{a b:List Nat}:subN a b=true↔ ∀i∈a,i∈b:=by simp only[subN,Ya,Dk]
section
variable {I:Ip} {P:Program} {ι ι':cL} {w w':World} {X:Cx I} {st:ES I.C} {B:Base} {nt:Nat}
def xY(hI:cU P I)(d:g8 P X.T X.fk){a:Act}(V:Vw P B nt (cR X st) (ev X st) ι a w): ∀(rs:List ResultVar) {ws:List (ET I.C)},retE X st rs=some ws-> ∃us:List Value,(rs.mapM (rd1 a.tmps)).run P w= .ok us w/\Jh ι w ws us.toArray
 |[],ws,h=>by cases h;exact⟨[],by simp,rfl,λj t h=>by cases h⟩
 |r::rs,ws,h=>by
  have c: ∀{x l},ws=x::l->(∃u,(rd1 a.tmps r).run P w= .ok u w/\cx ι w x u)->retE X st rs=some l-> ∃us:List Value,((r::rs).mapM (rd1 a.tmps)).run P w= .ok us w/\Jh ι w ws us.toArray:=by
   intro x l e ⟨u,k1,k2⟩ hl;obtain⟨us,n,f,p⟩:=xY hI d V rs hl;subst e;refine⟨u::us,by simp_all,by simpa using f,λj t ht=> ?_⟩;cases j with
   |zero=>grind
   |succ j=>grind
  have val: ∀{t x},eh X st (.tmp t)= .v x->cx ι w x (a.tmps.getD t undef):=λ{t x} e=>by have:=Uv (x:= .tmp t) (Rl V) λt _ y k=>V.env t y k;rw[e]at this;exact this
  cases r with
  |tmp t=>
   simp only[retE]at h;split at h<;>cases h;rename_i x l h1 h2;exact c rfl ⟨_,rfl,val h1⟩ h2
  |cell s t=>
   simp only[retE]at h;split at h
   case h_2=>cases h
   rename_i id cell l h1 h2;split at h
   case h_2=>cases h
   rename_i ty cs ho;split at h<;>cases h;rename_i x m;obtain⟨b,e,hm⟩:=U0 (P:=P) (o:= .cells ty cs) ((Zu rfl).1 (V.obj id _ ho)) (i:=0) rfl (val h1);obtain⟨v,a1,a2⟩:=PT d m hm;refine c rfl ⟨v,?_,a2⟩ h2;simp only[rd1,e,asAddr,Sem.run_bind,Sem.run_pure,Result.andThen_ok];exact a1
def ny{α:Type}: ∀{l:List (Nat×α)} {p:Nat×α},p∈l->lk l p.1≠none
 |q::r,p,hp=>by
  rw[Z9];split
  ·simp
  ·rcases ib.1 hp with rfl|hp
   ·grind
   ·exact ny hp
def WM{p:Nat}: ∀{l:List (Nat×jj)} {i a:Nat},lk (Ty l p) i=some (some a)->a=i
 |[],_,_,h=>by cases h
 |(j,_)::r,i,a,h=>by
  simp only[Ty]at h;cases hb:Nat.blt j p<;>rw[hb]at h<;>simp only[Ca,Ba]at h
  ·exact WM h
  ·rw[Z9]at h;split at h
   ·grind
   ·exact WM h
def zER: ∀{as:List (ET I.C)} {n t:Nat} {y:EL I.C},lk (vC n as) t=some y-> ∃j z,t=n+j/\as[j]? =some z/\y= .v z
 |[],_,_,_,h=>by cases h
 |a::r,n,t,y,h=>by
  simp only[vC,Z9]at h;split at h
  ·simp_all
  ·obtain⟨j,z,h1,h2,h3⟩:=zER h;exact⟨j+1,z,by omega,h2,h3⟩
def zRb{ts:List (ET I.C)}{us:List Value}(h:Jh ι w ts us.toArray):de ι w (resE ts) (if h:us.toArray.size=1 then us.toArray[0]else .tuple us.toArray):=by
 have hl:us.length=ts.length:=by simpa using h.1
 match ts,us,hl with
 |[],[],_=>exact⟨#[],by simp,h⟩
 |[t],[u],_=>obtain⟨a,h1,h2⟩:=h.2 0 t rfl;simp at h1;subst h1;simpa [resE,de] using h2
 |t1::t2::ts,b::c::us,_=>exact⟨_,by simp,h⟩
abbrev inX(con:Con I)(T:TT)(fk:List (Nat×List Kd))(x:(con.inS.sl I).T):Cx I:=⟨T,fk,[],((con.inS.sl I).enc x).2.filter λo=>dq o.1 con.cst⟩
def zxX (Q:P.follows .mixedOrders=true)(hI:cU P I){A:Env0 I}(hS: ∀c∈A.S,ZH P c){con:Con I}(s:Ii con=true){fn:Func}{c:Code}{rs:List ResultVar}{T:TT}{fk:List (Nat×List Kd)}{exS:du}(U:g8 P T fk)
  (hf:P.funcs[con.f]? =some fn) (hb:fn.body=some c) (a9:fn.results=rs.toArray) (E:(fn.name== "runtime.NumGoroutine")=false) (hp:A.p=con.inS.objs.length) (Y: ∀x,((con.inS.sl I).enc x).1.length<=fn.ntmps)
  (hF: ∀x y,con.F x=some y->evF2 A T fk fn.ntmps rs c con exS x=some y):ZH P con:=by
 refine⟨s,λ_ _ _=>⟨fn,hf,E,by rw[hb];rfl⟩,λx y ab ι w vs W Z l hv=> ?_⟩;simp only[Ii,Da,aa]at s;obtain⟨⟨⟨⟨⟨⟨⟨w1,_⟩,_⟩,w4⟩,_⟩,w6⟩,_⟩,_⟩:=s;have w1:=OE w1;have w4:=zNZ.1 w4;have w6:=OE w6;have J:=hF x y ab;unfold evF2 at J;simp only at J;generalize ap:con.inS.objs.length=p at*;have m: ∀{i},i∈((con.inS.sl I).enc x).2.map (·.1)↔i<p:=λ{i}=>by rw[(Gq (P:=P) hI con.inS).1,w1,Pd]
 have M: ∀i∈con.cst,i<p:=λi hi=>Pd.1 (w4 i hi);have ao: ∀i∈con.outS.objs.map (·.1),i<p+con.k:=λi hi=>by
  rcases Ec i p with h|h
  ·omega
  ·have:i∈(con.outS.objs.map (·.1)).filter λi=> !(Nat.blt i p):=Df.2 ⟨hi,by
    cases hb:Nat.blt i p with
    |false=>rfl
    |true=>exact absurd (Gv.1 hb) (by omega)⟩
   grind
 have hB:BOK ⟨ι,w,p,con.cst⟩ (inX con T fk x):=⟨λi hi=>by
  obtain⟨o,ho,rfl⟩:=Rb.1 (m.2 hi);obtain⟨b,k,n,e⟩:=Yz (eZ con.inS x o ho) (l o ho);rw[e];simp,M,λi hi=>by
  obtain⟨o,ho,rfl⟩:=Rb.1 (m.2 (M i hi));exact ny (Df.2 ⟨ho,Dk.2 hi⟩)⟩
 have V:St P ⟨ι,w,p,con.cst⟩ fn.ntmps (inX con T fk x) ⟨vC 0 ((con.inS.sl I).enc x).1,((con.inS.sl I).enc x).2.filter λo=> !(dq o.1 con.cst),p⟩ ι {tmps:=vs++Array.replicate (fn.ntmps - vs.size) undef,defers:=[]} w:=by
  refine⟨⟨?_,rfl,λt y hy=> ?_,λi o ho=> ?_,W,⟨⟨λ_ _ h=>h,λ_ h=>h,λ_ _=>rfl⟩,rfl,rfl,rfl,Db _,λ_ _=>rfl,λ_ h=>h,λ_ _=>rfl,λ_ _=> .inl rfl,λ_ _ _ _ _ _=>rfl⟩⟩,λi hi=>Z i hi,Db _⟩
  ·have:=Y x;rw[Array.size_append,uf,hv.1];omega
  ·unfold cR at hy;split at hy
   ·cases hy;obtain⟨j,z,h1,h2,rfl⟩:=zER (by assumption);rw[Gd]at h1;subst h1;obtain⟨u,h3,h4⟩:=hv.2 t z h2;have ad:=(Sb.1 h3).1;show cx ι w z _;rw[Sd,Te,La ad,h3];exact h4
   ·cases hy
  ·unfold ev at ho;split at ho
   ·cases ho;exact l _ (Df.1 (Mh (by assumption))).1
   ·exact l _ (Df.1 (Mh ho)).1
 refine calls_of_wp hf hb (zR6 Q hI hS (B:=⟨ι,w,p,con.cst⟩) hp c (X:=inX con T fk x) U hB J V λxx st' aq a' w' hk V1=> ?_);have a3:(cY (Dl (inX con T fk x) st' (cu rs)) λvs=>(matC p (si p exS.objs) (inX con T fk x) exS vs st' (Ty exS.objs p)).bind λq=>
   cY (retE (inX con T fk x) (encS exS (cu rs) (si p exS.objs) q.1) rs) λws=>((con.outS.sl I).mat ws (ev (inX con T fk x) (encS exS (cu rs) (si p exS.objs) q.1)) (kp (con.outS.objs.map (·.1)))).bind λr=>
    cond (exOK con r.2) (some r.1) none)=some y->a'.defers=[]/\ ∃v,(results fn a'.tmps).run P w'= .ok v w'/\ ∃v0 ι',Ending.returned v= .returned v0/\fW (· ∉ con.cst) ι w ι' w'/\Wf ι' w'/\de ι' w' (resE ((con.outS.sl I).enc y).1) v0/\(∀o∈((con.outS.sl I).enc y).2,Qu P ι' w' o.1 o.2)/\ ∀i,p+con.k<=i->ι' i= .free:=by
  intro h;obtain⟨ar,q3,q4⟩:=Uw h;obtain⟨z,q5,q6⟩:=Ra.1 q4;obtain⟨ws,q7,q8⟩:=Uw q6;obtain⟨⟨y',m2⟩,q9,al⟩:=Ra.1 q8;obtain⟨am,an⟩:=zX al;cases an;obtain⟨ι2,O⟩:=IR hI hB V1 q3 (λ_ _=>WM) (n:=si p exS.objs) (Nw _ _) (λi hi=>sw _ _ i hi) q5;obtain⟨us,r1,r2⟩:=xY hI U O.vw rs q7;obtain⟨L0,L⟩:=Gq (P:=P) hI con.outS;obtain⟨_,_,l3,l4⟩:=L _ _ _ _ _ q9;have hm: ∀i z,lk m2 i=some z->z=some i/\(i∈con.outS.objs.map (·.1)\/i∈con.cst):=λi z hi=>by have:=Ya.1 am _ (Mh hi);rw[Da]at this;have h1:=rT this.1;have h1:lk m2 i=some (some i):=h1;rw[hi]at h1;exact⟨Option.some.inj h1,Vd.1 (Dk.1 this.2)⟩
  let d:cL:=⟨λi=>if i∈con.outS.objs.map (·.1)\/i∈con.cst then ι2 i else if i<p then .dead else .free,ι2.X⟩
  have a6: ∀i,(i∈con.outS.objs.map (·.1)\/i∈con.cst)->d i=ι2 i:=λi hi=>La hi;have aw: ∀i,¬(i∈con.outS.objs.map (·.1)\/i∈con.cst)->d i=if i<p then .dead else .free:=λi hi=>Ka hi;have inv: ∀{i b k n},d i= .live (some b) k n->ι2 i= .live (some b) k n:=λ{i b k n} e=>by
   grind
  have dom: ∀b,fm ι2 w' b->fm d w' b:=λb hb=>⟨hb.1,hb.2.1,λi k n e=>hb.2.2 i k n (inv e)⟩;obtain⟨a1,a2⟩:=l4 (ι:=ι2) (ι2:=d) (w:=w') (ks:=λ_=>0) ⟨λ_ _ h=>h,dom,λ_ _=>rfl⟩ (λi z hz=>by
   grind) (λo _ e=>by grind) λi a _ o ho=>O.vw.obj a o ho
  have bas:=O.vw.bas;have b3: ∀i∈con.cst,d i=ι i:=λi hi=>(a6 i (.inr hi)).trans ((bas.slots i (M i hi)).resolve_right λh=>h.1 hi);have lt: ∀i,ι i≠ .free->i<p:=λi hi=>Nat.lt_of_not_le λh=>hi (Z i h);have S:fW (· ∉ con.cst) ι w d w':=by
   refine⟨⟨bas.c.shape,λb hb=>dom b (bas.c.dom b hb),bas.c.keep⟩,bas.os,bas.tape,bas.output,bas.size,λi b k n U e=> ?_,λi h0=> ?_,λi U h0=> ?_,bas.xs,bas.xn,bas.xkeep⟩
   ·have hi:=lt i (by rw[e];simp);have hc:i∈con.cst:=ve U;exact bas.cst i b k n hc e
   ·by_cases hc:i∈con.cst
    ·grind
    ·by_cases ho:i∈con.outS.objs.map (·.1)
     ·rw[<-L0 y']at ho;obtain⟨o,a7,rfl⟩:=Rb.1 ho;obtain⟨b,k,n,e⟩:=Yz (a2 o a7).1 (a2 o a7).2;rw[L0 y']at ho;rw[a6 _ (.inl ho)]at e;rcases bas.slots _ (lt _ h0)with h|⟨_,h|⟨_,h⟩⟩
      ·grind
      ·grind
      grind
     grind
   ·grind
  refine⟨V1.vw.defers,_,?_,_,d,rfl,S,⟨λi b k n e=>O.vw.wf.lt _ _ _ _ (inv e),λi j b k k' n n' e e'=>O.vw.wf.inj _ _ _ _ _ _ _ (inv e) (inv e'),λq hq=>let⟨h1,h2⟩:=O.vw.wf.glob q hq;⟨dom _ h1,h2⟩,O.vw.wf.xlt⟩,zRb (r2.arg l3 a1),λo ho=>(a2 o ho).2,λi hi=> ?_⟩
  ·have a8:(fn.results.mapM (rd1 a'.tmps)).run P w'= .ok us.toArray w':=by rw[a9,List.mapM_toArray,Sem.run_map,r1];rfl
   rw[zEz,Sem.run_bind,a8];rfl
  ·grind
 cases xx with
 |normal=>exact a3 hk
 |ret=>exact a3 hk
 |_=>cases hk
end
section
variable {I:Ip} {P:Program}
def ZH.told{f:Nat}{inS:du}{cst:List Nat}{outS:du}{k:Nat}{F:(inS.sl I).T->Option (outS.sl I).T}{ι:Type}{Fn:ι->(inS.sl I).T->Option (outS.sl I).T}(c:ι)(hn: ∀n,ZH P ⟨f,inS,cst,outS,k,Fn n⟩)(b: ∀x y,F x=some y-> ∃n,Fn n x=some y):
  ZH P (⟨f,inS,cst,outS,k,F⟩:Con I):=
 ⟨(hn c).wf,λx y a=>let⟨n,h⟩:=b x y a;(hn n).fn x y h,λx y a=>let⟨n,h⟩:=b x y a;(hn n).ok x y h⟩
def ZH.none{f:Nat}{inS:du}{cst:List Nat}{outS:du}{k:Nat}(a:Ii (⟨f,inS,cst,outS,k,λ_=>Option.none⟩:Con I)=true):ZH P (⟨f,inS,cst,outS,k,λ_=>Option.none⟩:Con I):=
 ⟨a,λx y h=>(by cases h),λx y h=>(by cases h)⟩
def ZH.recf {f:Nat}{inS:du}{cst:List Nat}{outS:du}{k:Nat}{F:(inS.sl I).T->Option (outS.sl I).T}(B:((inS.sl I).T->Option (outS.sl I).T)->(inS.sl I).T->Option (outS.sl I).T)
  (a:Ii (⟨f,inS,cst,outS,k,λ_=>Option.none⟩:Con I)=true) (hB: ∀S,ZH P (⟨f,inS,cst,outS,k,S⟩:Con I)->ZH P (⟨f,inS,cst,outS,k,B S⟩:Con I))
  (b: ∀x y,F x=some y-> ∃n:Nat,Nat.rec (motive:=λ_=>(inS.sl I).T->Option (outS.sl I).T) (λ_=>Option.none) (λ_ S=>B S) n x=some y):ZH P (⟨f,inS,cst,outS,k,F⟩:Con I):=by
 refine ZH.told 0 (Fn:=λn=>Nat.rec (motive:=λ_=>(inS.sl I).T->Option (outS.sl I).T) (λ_=>Option.none) (λ_ S=>B S) n) (λn=> ?_) b
 induction n with
 |zero=>exact ZH.none a
 |succ n c=>exact hB _ c
def cZ{l:List Nat}{fk:List (Nat×List Kd)}(a: ∀p∈fk,ME P p.1=some p.2):g8 P (l.map λt=>(t,ti P t)) fk:=by refine⟨λt i h=> ?_,λt ks h=>a _ (Mh h)⟩;obtain⟨b,_,e⟩:=Rb.1 (Mh h);injection e with e1 e2;subst e1;exact e2
end
end Go.Lv
