/- Regions in whatever order; how a state is made ready. -/
import Derived.Test.YtagibnnojbolnaaGreatDoorLd
import Derived.LoopN
import Derived.Test.YtagibnnojbolnaaGreatDoorLa
set_option linter.unusedSimpArgs false
set_option linter.unusedVariables false
namespace Go.Lv
theorem zFD{R:Type}{x y:Option R}{r:R}(h:both x y=some r):x=some r/\y=some r:=by
 unfold both at h
 grind
theorem IP{R:Type}{r:R}: ∀{l:List (Option R)},allB l=some r-> ∀x∈l,x=some r
 |[],h=>by cases h
 |[x],h=>fun y hy=>by rw[Tc.1 hy];exact h
 |x::z::l,h=>by
  obtain⟨h1,h2⟩:=zFD h;intro y hy;rcases Jb.1 hy with e|e
  ·subst e;exact h1
  ·exact IP h2 y e
section
variable {I:Ip} {P:Program} {ι ι':Asg} {w w':World} {R:Type} {r0:R} {X:Cx I} {st:ES I.C} {B:Base} {nt:Nat} {ops:List Oper} {zs:List (Rz I)} {s0:FS I}
theorem Vw.on{e:EF I}{h:HF I}{a:Act}(hB:BOK B X)(V:Vw P B nt e h ι a w)(S:Stp (fun _=>False) ι w ι' w')(W:Wf ι' w'):Vw P B nt e h ι' a w':=
 ⟨V.size,V.defers,fun t x hx=>RepL.step S (V.env t x hx),fun id o ho=>(V.obj id o ho).step S fun h=>h,W,V.bas.step hB.live (fun id hi=>⟨hB.lt id hi,fun h=>h⟩) S⟩
theorem drew(ι:Asg)(w:World):Stp (fun _=>False) ι w ι {w with drawn:=w.drawn+1}:=⟨⟨fun _ _ h=>h,fun _ h=>h,fun _ _=>rfl⟩,rfl,rfl,rfl,Xa _,fun _ _ _ _ _ _=>rfl,fun _ _=> .inl rfl,fun _ _ _=>rfl,fun _ _=>rfl,fun _ h=>h,fun _ _=>rfl⟩
theorem St.drew{a:Act}(hB:BOK B X)(V:St P B nt X st ι a w):St P B nt X st ι a {w with drawn:=w.drawn+1}:=⟨V.vw.on hB (Go.Lv.drew ι w) ⟨V.vw.wf.lt,V.vw.wf.inj,Glob.step (Go.Lv.drew ι w) V.vw.wf.glob,V.vw.wf.xlt⟩,V.free,V.le⟩
theorem gI{z:Rz I}: ∀n,stA (z::zs) s0 (n+1)=stA zs (Dj z s0) n
 |0=>rfl
 |n+1=>by rw[stA,gI n];rfl
theorem VW(hI:IpOK P I)(hT:TOK P X.T X.fk){S:List (Con I)}(hS: ∀c∈S,ZL P c)(hB:BOK B X){fz:List Nat}{K:ES I.C->List Fp->Option R}: ∀(r:List Oper) (j:Nat) (st:ES I.C) (fps:List Fp),opsE X S fz nt ops j r st fps K=some r0->Cons (lkE X st)->
  ∃zs st',zs.map (·.o)=r/\K st' (fps++zs.map fun z=>(z.res.rd,z.res.up.map (·.1)))=some r0/\fsE X st'=stA zs (fsE X st) zs.length/\Cons (lkE X st')/\ ∀j z,zs[j]? =some z->OkZ P B nt ops z (stA zs (fsE X st) j)
 |[],j,st,fps,h,hc=>⟨[],st,rfl,by simpa [opsE] using h,rfl,hc,fun j z hz=>by cases hz⟩
 |o::r,j,st,fps,h,hc=>by
  simp only[opsE]at h;split at h
  ·cases h
  ·rename_i q hg;obtain⟨res,h1,hz,hc'⟩:=opZ (B:=B) hI hT hS hc hB.inc hg h;obtain⟨zs,st',a1,a2,a3,a4,a5⟩:=VW hI hT hS hB r (j+1) _ _ h1 hc';rw[kC]at a3 a5;refine⟨⟨o,putL q (qA (lkE X st) q) res.val,res,qA (lkE X st) q⟩::zs,st',by grind,by simpa using a2,by rw[a3,Ga,gI],a4,fun j z hz'=> ?_⟩;cases j with
   |zero=>cases hz';exact hz
   |succ j=>rw[gI];exact a5 j z hz'
theorem zBl (hmix:P.follows .mixedOrders=true) (hI:IpOK P I) (hT:TOK P X.T X.fk) {S:List (Con I)} (hS: ∀c∈S,ZL P c) (hB:BOK B X) {fz:List Nat} {id:Nat} {opa:Array Oper} {K:ES I.C->Option R} {Q:Exit->Act->World->Prop} {a:Act} (hc:Cons (lkE X st)) (V:St P B nt X st ι a w)
  (h0:opsE X S fz nt opa.toList 0 opa.toList st [] (fun st' fps=>cond (XN opa.toList fps) (K st') none)=some r0)
  (hQ: ∀st' ι' a' w',K st'=some r0->St P B nt X st' ι' a' w'->Q .normal a' w'):(Code.region id opa true).wp P Q a w:=by
 obtain⟨zs,st',a1,a2,a3,a4,a5⟩:=VW hI hT hS hB (nt:=nt) opa.toList 0 st [] h0 hc;obtain⟨hd,hk⟩:=Zb a2;simp only[XN,Da,Bc]at hd;have hle: ∀j,st.next<=(stA zs (fsE X st) j).nx:=fun j=>ow (zs:=zs) (s0:=fsE X st) 0 j (Va _);have hf: ∀j i,ι ((stA zs (fsE X st) j).nx+i)= .free:=fun j i=>V.free _ (Bb (hle j) (Ug _ _));have hS0: ∀j,(Array.replicate opa.size false).getD j false=false:=by intro j;rw[Pd,Array.getElem?_replicate];split<;>rfl
 have hz:zs.length=opa.toList.length:=by rw[<-a1,Fb]
 refine wp_region_any hmix ?_;have key:=zLE (nt:=nt) (ops:=opa.toList) (Q:=Q) hB ⟨a1,a5⟩ (fun i k x y hx hy hik=>by
   have ho: ∀{j:Nat} {z:Rz I},zs[j]? =some z->opa.toList[j]? =some z.o/\(zs.map fun z=>(z.res.rd,z.res.up.map (·.1)))[j]? =some (z.res.rd,z.res.up.map (·.1)):=fun h=>⟨by grind,by grind⟩;rcases dQ opa.toList 0 [] rfl (fun k=>by rw[jc]) (fun m i hi=>by simp at hi) hd.2 i k x.o y.o _ _ (ho hx).1 (ho hy).1 (ho hx).2 (ho hy).2 hik (Va _)with h|⟨h1,h2⟩
   ·exact .inl h
   ·simp only[fpB,Uf]at h2;exact .inr ⟨h1,fun z hm=>⟨VJ h2.1.1 z hm,VJ h2.1.2 z hm⟩,VJ h2.2⟩) hd.1
  (fun ι' a' w' V' hf'=>by
   rw[<-a3]at V' hf';exact hQ st' ι' a' w' hk ⟨V',hf',Bb V.le (by have:=hle zs.length;rw[<-a3]at this;exact this)⟩)
  opa.toList.length (Array.replicate opa.size false) ι a _ (by simp) (fun i j _ h=>by grind)
  (by
   have e: ∀n,sgA zs (fsE X st) (fun j=>(Array.replicate opa.size false).getD j false) n=(lkE X st,lkO X st):=fun n=>by
    induction n with
    |zero=>rfl
    |succ n ih=>simp only[sgA,hS0,Ba]at ih ⊢;grind
   rw[e];exact(V.drew hB).vw) (ek V.vw) (fun j z _ _ i _=>hf j i) (fun i hi=>V.free i (Bb (hle _) hi))
  (by simp_all)
 simpa using key
theorem zLj(hI:IpOK P I)(hT:TOK P X.T X.fk){S:List (Con I)}(hS: ∀c∈S,ZL P c)(hB:BOK B X){fz:List Nat}{K:ES I.C->Option R}{Q:Exit->Act->World->Prop}(hQ: ∀st' ι' a' w',K st'=some r0->St P B nt X st' ι' a' w'->Q .normal a' w'):
  ∀(fuel:Nat) (listed:Array Bool) (done:List Nat) (st:ES I.C) (ι:Asg) (a:Act) (w:World),listed.size=ops.length->(∀j,listed.getD j false=memN j done)->(List.range ops.length).countP (fun j=> !listed.getD j false)<=fuel->
   anyE X S fz nt ops K fuel done st=some r0->Cons (lkE X st)->St P B nt X st ι a w->wpAny P .any ops.toArray Q fuel listed a w:=by
 intro fuel
 induction fuel with
 |zero=>
  intro listed done st ι a w hsz hd hcnt h hc V;refine⟨?_,hQ _ _ _ _ h V⟩;rw[List.eq_nil_iff_forall_not_mem];intro j hj;rw[mem_ready]at hj;obtain⟨h1,o,ho,_⟩:=hj;have hjl:j<ops.length:=(Ja.1 (show ops[j]? =some o by simpa using ho)).1;have h0:=List.countP_eq_zero.1 (Nat.le_zero.1 hcnt) j (Md.2 hjl)
  grind
 |succ fuel ih=>
  intro listed done st ι a w hsz hd hcnt h hc V;have hready: ∀j,j∈Region.ready .any ops.toArray listed↔j∈VI ops done:=by
   intro j;unfold VI;rw[mem_ready,Te,Md];constructor
   ·intro ⟨h1,o,ho,hr⟩;have ho':ops[j]? =some o:=by simpa using ho
    have hjl:j<ops.length:=(Ja.1 ho').1;refine⟨hjl,?_⟩;have hS:listed.getD j false=false:=by rw[Pd,Di (by omega)]at h1 ⊢;simpa using h1
    rw[ho',<-hd,hS];simp only[Ua,aa,Pb];intro i hi;simp only[direct,Nb,Te]at hi;obtain⟨ed,⟨he1,he2⟩,rfl⟩:=hi
    grind
   ·intro ⟨hjl,h1⟩;have ho':ops[j]? =some ops[j]:=Ta hjl;rw[ho',Da]at h1;obtain⟨h1,h2⟩:=h1;simp only[Pb]at h2;refine⟨?_,ops[j],by simp,fun ed hed hb=> ?_⟩
    ·grind
    ·rw[hd];refine h2 ed.on ?_;simp only[direct,Nb,Te]
     grind
  simp only[anyE]at h;refine⟨fun hnil=> ?_,fun j hj=> ?_⟩
  ·have hz:VI ops done=[]:=by rw[List.eq_nil_iff_forall_not_mem];intro j hj;have:=(hready j).2 hj;rw[hnil]at this;simp at this
   grind
  ·have hj':=(hready j).1 hj;rw[mem_ready]at hj;obtain⟨h1,o,ho,_⟩:=hj;have ho':ops[j]? =some o:=by simpa using ho
   have hjl:j<ops.length:=(Ja.1 ho').1;have hS0:listed.getD j false=false:=by rw[Pd,Di (by omega)]at h1 ⊢;simpa using h1
   have hS': ∀i,(listed.setIfInBounds j true).getD i false=(listed.getD i false||i==j):=by
    intro i;by_cases hij:i=j
    ·simp_all
    ·rw[getD_set_ne false (Ne.symm hij)];simp[hij]
   split at h
   ·grind
   ·have hjj:=IP h _ (Nb.2 ⟨j,hj',rfl⟩);rw[ho']at hjj;simp only at hjj;split at hjj
    ·cases hjj
    ·rename_i q hg;obtain⟨res,h1,hz,hc'⟩:=opZ (B:=B) hI hT hS hc hB.inc hg hjj;have hstp:=aV hB hz V (K:=wpAny P .any ops.toArray Q fuel (listed.setIfInBounds j true)) (Q:=Q) fun ι' a' w' V'=>ih (listed.setIfInBounds j true) (j::done) _ ι' a' w' (by simpa using hsz) (fun i=>by
       rw[hS',hd];simp only[memN];by_cases hij:i=j
       ·subst hij;simp
       ·have:Nat.beq i j=false:=by
         cases hb:Nat.beq i j with
         |false=>rfl
         |true=>simp_all
        simp[this,hij]) (by
      have:=cnt_lt (l:=List.range ops.length) (p:=fun j=> !listed.getD j false) (q:=fun i=> !(listed.setIfInBounds j true).getD i false) (fun x hx=>by
       grind) (Md.2 hjl) (by grind) (by grind)
      omega) h1 hc' V'
     unfold wpOp
     grind
theorem zCN (hmix:P.follows .mixedOrders=true) (hI:IpOK P I) (hT:TOK P X.T X.fk) {S:List (Con I)} (hS: ∀c∈S,ZL P c) (hB:BOK B X) {fz:List Nat} {id:Nat} {opa:Array Oper} {K:ES I.C->Option R} {Q:Exit->Act->World->Prop} {a:Act} (hc:Cons (lkE X st)) (V:St P B nt X st ι a w)
  (h0:anyE X S fz nt opa.toList K opa.toList.length [] st=some r0)
  (hQ: ∀st' ι' a' w',K st'=some r0->St P B nt X st' ι' a' w'->Q .normal a' w'):(Code.region id opa true).wp P Q a w:=by
 refine wp_region_any hmix ?_;have hS0: ∀j,(Array.replicate opa.size false).getD j false=false:=by intro j;rw[Pd,Array.getElem?_replicate];split<;>rfl
 have:=zLj (ops:=opa.toList) hI hT hS hB hQ opa.toList.length (Array.replicate opa.size false) [] st ι a _ (by simp) (fun j=>by rw[hS0];rfl)
  (by simp_all) h0 hc (V.drew hB)
 simpa using this
theorem jK: ∀(env:EEnv I.C) (t:Nat) {x:EL I.C},lk (ni env) t=some x->x= .any\/(lk env t=some x/\OM x=true)
 |[],t,x,h=>by cases h
 |(j, .opt _ _ _)::r,t,x,h=>by
  simp only[ni,Z9]at h ⊢;split at h
  ·cases h;exact .inl rfl
  ·rw[Oa (by assumption)];exact jK r t h
 |(j, .any)::r,t,x,h|(j, .v _)::r,t,x,h|(j, .tup _)::r,t,x,h=>by
  simp only[ni,Z9]at h ⊢;split at h
  ·cases h;rw[Sa (by assumption)];exact .inr ⟨rfl,rfl⟩
  ·rw[Oa (by assumption)];exact jK r t h
theorem MR: ∀(env:EEnv I.C) (t:Nat),lk (ni env) t=none->lk env t=none
 |[],t,h=>rfl
 |(j,x)::r,t,h=>by cases x<;>simp only[ni,Z9]at h ⊢ <;>split at h<;>first|(cases h)|(rw[Oa (by assumption)];exact MR r t h)
theorem zLF{a:Act}(V:St P B nt X st ι a w):St P B nt X {st with env:=ni st.env} ι a w/\Cons (lkE X {st with env:=ni st.env}):=by
 have key: ∀t x,lkE X {st with env:=ni st.env} t=some x->x= .any\/(lkE X st t=some x/\OM x=true):=fun t x h=>by
  unfold lkE at h ⊢;split at h
  ·rename_i y hy;cases h;rcases jK st.env t hy with h|⟨h,h2⟩
   ·exact .inl h
   grind
  ·rename_i hy;rw[MR _ _ hy];obtain⟨z,_,rfl⟩:=Ma.1 h;exact .inr ⟨h,rfl⟩
 refine⟨⟨⟨V.vw.size,V.vw.defers,fun t x hx=> ?_,V.vw.obj,V.vw.wf,V.vw.bas⟩,V.free,V.le⟩,fun t ks b x hx=> ?_⟩
 ·rcases key t x hx with rfl|⟨h,_⟩
  ·trivial
  ·exact V.vw.env t x h
 ·rcases key t _ hx with h|⟨_,h⟩<;>cases h
end
section
variable {I:Ip} {P:Program} {ι ι':Asg} {w w':World} {X:Cx I} {st st1 st2:ES I.C} {B:Base} {nt:Nat}
structure Rdy (P:Program) (B:Base) (nt:Nat) (X:Cx I) (st st':ES I.C):Prop where
 env:st'.env=st.env
 next:st'.next=st.next
 ok: ∀{ι a w},St P B nt X st ι a w-> ∃ι',St P B nt X st' ι' a w
theorem Rdy.refl(st:ES I.C):Rdy P B nt X st st:=⟨rfl,rfl,fun V=>⟨_,V⟩⟩
theorem Rdy.trans(h:Rdy P B nt X st st1)(g:Rdy P B nt X st1 st2):Rdy P B nt X st st2:=⟨g.env.trans h.env,g.next.trans h.next,fun V=>let⟨_,V⟩:=h.ok V;g.ok V⟩
section
variable (hI:IpOK P I) (hB:BOK B X)
include hI hB
theorem mI(st:ES I.C)(id:Nat):Rdy P B nt X st (TA X st id):=by
 unfold TA;split
 case h_2=>exact .refl _
 rename_i t l hl hfr;exact⟨rfl,rfl,fun V=>⟨_,BV hI hB hl hfr V⟩⟩
theorem gQ(st:ES I.C)(id:Nat):Rdy P B nt X st (yC X st id):=by
 unfold yC;split
 case h_2=>exact .refl _
 rename_i t l1 cs l2 hl hfr;split
 case h_2=>exact .refl _
 rename_i z hz;refine⟨rfl,rfl,fun {ι a w} V=>⟨ι,V.set hB hfr (.same _ _ _) V.vw.wf ?_ fun _ h=>h⟩⟩;have hh:=V.vw.obj id _ (show lkO X st id=some (.slo t l1 cs l2) by simp only[lkO,hl]);obtain⟨m1,m2⟩:=kN hI hz;obtain⟨m2,m3⟩:=m2 (ι:=ι) (ι2:=ι) (w:=w) ⟨fun _ _ h=>h,fun _ h=>h,fun _ _=>rfl⟩;refine Yl hh rfl rfl rfl (by simp[Zd]) fun j r r' hr hr'=> ?_;simp only[Zd,ae,Jc]at hr hr';rw[Ec]at hr hr';split at hr
 ·rename_i hj;rw[Sa hj,hr]at hr';cases hr';exact⟨rfl,fun j x y hx hy v _ hv=>by rw[hx]at hy;cases hy;exact hv⟩
 ·rename_i hj;rw[Oa hj]at hr';cases hk:j - (l1.map (I.exp t)).length with
  |zero=>
   rw[hk]at hr hr';cases hr;cases hr';exact⟨by simpa using m2,fun j x y hx hy v ho hv=>m3 j (nrmV (lkO X st) x) y (by rw[Ra,hx];rfl) hy v ho (iB (ek V.vw) hv)⟩
  |succ n=> rw[hk]at hr hr';simp only[rf]at hr hr';rw[hr]at hr';cases hr';exact⟨rfl,fun j x y hx hy v _ hv=>by rw[hx]at hy;cases hy;exact hv⟩
theorem NZ: ∀(l:List Nat) (st:ES I.C),Rdy P B nt X st (SN X l st)
 |[],st=> .refl st
 |i::r,st=>(mI hI hB st i).trans (NZ r _)
theorem zEA(st:ES I.C)(id:Nat):Rdy P B nt X st (AP X st id):=by
 unfold AP;refine Rdy.trans ?_ (gQ hI hB _ id);split
 ·exact NZ hI hB _ _
 ·exact .refl _
theorem AQ: ∀(l:List Nat) (st:ES I.C),Rdy P B nt X st (UO X l st)
 |[],st=> .refl st
 |i::r,st=>((zEA hI hB st i).trans (mI hI hB _ i)).trans (AQ r _)
theorem kJ(st:ES I.C)(id:Nat):Rdy P B nt X st (Mw X st id):=by
 unfold Mw;refine Rdy.trans ?_ (gQ hI hB _ id);split
 ·exact AQ hI hB _ _
 ·exact .refl _
theorem BQ(st:ES I.C)(id:Nat):Rdy P B nt X st (VO X st id):=(kJ hI hB st id).trans (mI hI hB _ id)
theorem jJ: ∀(l:List Nat) (st:ES I.C),Rdy P B nt X st (Ws X l st)
 |[],st=> .refl st
 |i::r,st=>by
  simp only[Ws];split
  ·exact(kJ hI hB st _).trans (jJ r _)
  ·exact jJ r st
theorem iO: ∀(l:List (Nat×Option Nat)) (st:ES I.C),Rdy P B nt X st (preE X l st)
 |[],st=> .refl st
 |i::r,st=>by
  simp only[preE];split
  ·exact(BQ hI hB st _).trans (iO r _)
  ·exact iO r st
theorem bZ: ∀(l:List Nat) (st:ES I.C),Rdy P B nt X st (Kw X l st)
 |[],st=> .refl st
 |i::r,st=>(kJ hI hB st i).trans (bZ r _)
theorem VK: ∀(l:List Nat) (st:ES I.C),Rdy P B nt X st (uk X l st)
 |[],st=> .refl st
 |i::r,st=>(BQ hI hB st i).trans (VK r _)
end
end
theorem Wu: ∀(l:List (Nat×OSh)) (n:Nat),n<=Ji n l
 |[],n=>Xa n
 |(i,_)::r,n=>by
  simp only[Ji];refine Bb ?_ (Wu r _);cases h:Nat.ble (i+1) n with
  |true=>grind
  |false=>
   simp only[Ba];have: ¬(i+1<=n):=fun h'=>by rw[Nat.ble_eq_true_of_le h']at h;cases h
   omega
theorem cu: ∀(l:List (Nat×OSh)) (n i:Nat),i∈l.map (·.1)->i<Ji n l
 |(j,_)::r,n,i,h=>by
  simp only[Ji];rcases Jb.1 h with h|h
  ·subst h;refine Dc ?_ (Wu r _);cases h:Nat.ble (i+1) n with
   |true=>exact Gc h
   |false=>grind
  ·exact cu r _ i h
section
variable {I:Ip} {P:Program} {ι ι':Asg} {w w':World} {X:Cx I} {st:ES I.C} {B:Base} {nt:Nat}
theorem uI: ∀{l:List Nat} {i a:Nat},lk (selfs l) i=some (some a)->a=i
 |[],_,_,h=>by cases h
 |j::r,i,a,h=>by
  simp only[selfs,Jc,Z9]at h;split at h
  ·grind
  ·exact uI (l:=r) h
theorem RX: ∀{ts:List Nat} {vs:List (ET I.C)},Vk X st ts=some vs->vs.length=ts.length/\ ∀(j t:Nat),ts[j]? =some t-> ∃x,vs[j]? =some x/\lkE X st t=some (.v x)
 |[],vs,h=>by cases h;grind
 |t::r,vs,h=>by
  simp only[Vk]at h;split at h<;>cases h;rename_i x l h1 h2;obtain⟨a1,a2⟩:=RX h2
  grind
theorem kX: ∀{ts:List Nat} {as:List (ET I.C)} {t:Nat} {x:EL I.C},lk (tH ts as) t=some x-> ∃(j:Nat) (y:ET I.C),ts[j]? =some t/\as[j]? =some y/\x= .v y
 |[],_,_,_,h=>by cases h
 |_::_,[],_,_,h=>by cases h
 |u::r,a::s,t,x,h=>by
  simp only[tH,Z9]at h;split at h
  ·rename_i e;cases h;exact⟨0,a,by rw[e];rfl,rfl,rfl⟩
  ·obtain⟨j,y,h1,h2,h3⟩:=kX h;exact⟨j+1,y,h1,h2,h3⟩
theorem JY{α:Type}: ∀{l:List (Nat×α)},RI (l.map (·.1))=true-> ∀o∈l,lk l o.1=some o.2
 |[],_,o,ho=>by cases ho
 |(j,y)::r,h,o,ho=>by
  simp only[Jc,RI]at h;rw[Z9];rcases Jb.1 ho with rfl|ho
  ·exact Sa rfl
  ·cases hb:memN j (r.map (·.1))with
   |true=>grind
   |false=> rw[hb]at h;rw[Oa fun e=>by rw[Pj.2 (Nb.2 ⟨o,ho,e⟩)]at hb;cases hb];exact JY h o ho
theorem zMM(o:EO I.C):rnEO (fun i=>i) o=o:=by cases o<;>simp[rnEO,show(rnV fun i=>i)=(id:EV I.C->EV I.C)from funext Bt]
theorem zJG(hI:IpOK P I)(hC:Conv ι w ι' w){i:Nat}{o:EO I.C}(hh:Qd P ι w i o)(hs:ι' i=ι i)(hX: ∀b,ι.X b= .inn i->ι'.X b= .inn i)(hf: ∀j∈Dt o,ι' j=ι j):Qd P ι' w i o:=by
 cases ho:isL o with
 |true=>
  have:=LZ hI hC (f:=fun i=>i) ho hh hs hX fun j hj=>Rm (hf j hj)
  rwa [zMM]at this
 |false=>
  cases o with
  |dead=>trivial
  |frz t l=>exact hs.trans hh
  |mp kd l=>obtain⟨b,h1,h2⟩:=hh;exact⟨b,hs.trans h1,h2⟩
  |_=>cases ho
theorem wP{m:Mp}{i:Nat}(h:isSelf m i=true):lk m i=some (some i):=by
 unfold isSelf at h;split at h
 ·simp_all
 ·cases h
theorem Fq (hI:IpOK P I) (hB:BOK B X) {a:Act} (V:St P B nt X st ι a w) {sh:StSh} {tmps:List Nat} {vs:List (ET I.C)} (hv:Vk X st tmps=some vs) {m0:Mp} (hm0: ∀i a,lk m0 i=some (some a)->a=i) {n:Nat} (hn:B.p<=n) (hob: ∀i∈sh.objs.map (·.1),i<n)
  {z:(sh.sl I).T×Mp} (h:matC B.p n X sh vs st m0=some z): ∃ι2,St P B nt X (encS sh tmps n z.1) ι2 a w:=by
 obtain⟨x,m⟩:=z;simp only[matC]at h;have rdy:=(VK (P:=P) (nt:=nt) hI hB (fzV sh.vals vs) st).trans ((bZ hI hB (clA (lkO X (uk X (fzV sh.vals vs) st)) sh vs) _).trans (VK hI hB (fzA (lkO X (Kw X (clA (lkO X (uk X (fzV sh.vals vs) st)) sh vs) (uk X (fzV sh.vals vs) st))) sh vs) _));generalize uk X (fzA (lkO X (Kw X (clA (lkO X (uk X (fzV sh.vals vs) st)) sh vs) (uk X (fzV sh.vals vs) st))) sh vs) _=st1 at*;obtain⟨z,hz,h⟩:=Ka.1 h;obtain⟨hc,h⟩:=Zb h;cases h;obtain⟨ι1,V1⟩:=rdy.ok V;have henv: ∀t,lkE X st t=lkE X st1 t:=fun t=>by unfold lkE;rw[rdy.env]
 obtain⟨_,L⟩:=Wn (P:=P) hI sh;obtain⟨l1,l2,l3,l4⟩:=L _ _ _ _ _ hz;simp only[JV,Da,Pb]at hc;obtain⟨⟨⟨⟨⟨⟨⟨_,c2⟩,c3⟩,c4⟩,c5⟩,c6⟩,c7⟩,c8⟩:=hc
 let ks:Nat->Nat:=fun i=>match lk sh.objs i with
  |some o=>match slT o with
   |some t=>P.cellsOf t
   |none=>0
  |none=>0
 have dec: ∀a,Decidable (∃i,lk m i=some (some a)):=fun _=>Classical.propDecidable _;have hinj:InjM m:=l1.2 fun i j a h1 h2=>(hm0 i a h1).symm.trans (hm0 j a h2)
 let ι2:Asg:=⟨fun i=>match lk X.frh i with
  |some _=>ι1 i
  |none=>match lk m i with
   |some (some a)=>ι1 a
   |some none=> .live none (ks i) 0
   |none=>if i<n then .dead else .free,fun b=>match ι1.X b with
  | .inn a=>if h: ∃i,lk m i=some (some a)then .inn h.choose else .inn a
  |x=>x⟩
 have hA: ∀i,lk X.frh i≠none->ι2 i=ι1 i:=fun i hi=>by
  show(match lk X.frh i with|some _=>ι1 i|none=>_)=_;cases e:lk X.frh i with
  |none=>exact absurd e hi
  |some _=>rfl
 have hfn: ∀i z,lk m i=some z->lk X.frh i=none/\i∈sh.objs.map (·.1)/\(∀a,z=some a->lk X.frh a=none)/\(i<B.p->isSelf m i=true):=fun i z hi=>by
  have h6:=c6 _ (Ah hi);obtain⟨⟨h7,h8⟩,h9⟩:=h6;have hm:=Pj.1 h7;refine⟨?_,hm,fun a e=> ?_,fun hp=> ?_⟩
  ·have:=c3 i hm;cases e:lk X.frh i with
   |none=>rfl
   |some _=>rw[e]at this;cases this
  ·subst e;have h9:(match lk X.frh a with|some _=>false|none=>true)=true:=h9;cases e:lk X.frh a with
   |none=>rfl
   |some _=>rw[e]at h9;cases h9
  ·rw[Wl.2 hp]at h8;exact h8
 have xno: ∀b,ι1.X b= .no->ι2.X b= .no:=fun b e=>by show(match ι1.X b with| .inn a=>if h: ∃i,lk m i=some (some a)then Own.inn h.choose else .inn a|x=>x)=_;rw[e]
 have xfar: ∀b,ι1.X b= .far->ι2.X b= .far:=fun b e=>by show(match ι1.X b with| .inn a=>if h: ∃i,lk m i=some (some a)then Own.inn h.choose else .inn a|x=>x)=_;rw[e]
 have xm: ∀b i a,lk m i=some (some a)->ι1.X b= .inn a->ι2.X b= .inn i:=fun b i a hi e=>by show(match ι1.X b with| .inn a=>if h: ∃i,lk m i=some (some a)then Own.inn h.choose else .inn a|x=>x)=_;rw[e];have h: ∃i,lk m i=some (some a):=⟨i,hi⟩;simp only[dif_pos h];rw[hinj _ _ _ h.choose_spec hi]
 have xk: ∀b a,lk X.frh a≠none->ι1.X b= .inn a->ι2.X b= .inn a:=fun b a ha e=>by show(match ι1.X b with| .inn a=>if h: ∃i,lk m i=some (some a)then Own.inn h.choose else .inn a|x=>x)=_;rw[e];have h: ¬ ∃i,lk m i=some (some a):=fun⟨i,hi⟩=>ha ((hfn i _ hi).2.2.1 a rfl);simp only[dif_neg h]
 have xi: ∀b x,ι2.X b=x->(x= .no->ι1.X b= .no)/\(x= .far->ι1.X b= .far):=fun b x e=>by
  cases hX:ι1.X b with
  |no=>rw[xno b hX]at e;subst e;exact⟨fun _=>rfl,fun e=>by cases e⟩
  |far=>rw[xfar b hX]at e;subst e;exact⟨(fun e=>by cases e),fun _=>rfl⟩
  |inn a=>
   have e2:ι2.X b=if h: ∃i,lk m i=some (some a)then Own.inn h.choose else .inn a:=by show(match ι1.X b with| .inn a=>if h: ∃i,lk m i=some (some a)then Own.inn h.choose else .inn a|x=>x)=_;rw[hX]
   rw[e]at e2;constructor<;>intro e3<;>rw[e3]at e2<;>split at e2<;>cases e2
 have hM:Cmp ι1 ι2 ks m:=fun i z hi=>by
  have e1:ι2 i=match lk X.frh i with|some _=>ι1 i|none=>match lk m i with|some (some a)=>ι1 a|some none=> .live none (ks i) 0|none=>if i<n then .dead else .free:=rfl;rw[(hfn i z hi).1,hi]at e1;cases z with
  |none=>exact e1
  |some a=>exact⟨e1,fun b e=>xm b i a hi e⟩
 have hS: ∀i,isSelf m i=true->ι2 i=ι1 i:=fun i hi=>(hM i _ (wP hi)).1;have hN: ∀i,lk X.frh i=none->lk m i=none->ι2 i=if i<n then .dead else .free:=fun i h1 h2=>by show(match lk X.frh i with|some _=>ι1 i|none=>match lk m i with|some (some a)=>ι1 a|some none=> .live none (ks i) 0|none=>if i<n then .dead else .free)=_;rw[h1,h2]
 have src: ∀{i b k n},ι2 i= .live (some b) k n-> ∃j,ι1 j= .live (some b) k n/\((j=i/\lk X.frh i≠none)\/(lk X.frh j=none/\lk m i=some (some j))):=fun {i b k n'} e=>by
  by_cases hi:lk X.frh i=none
  ·cases hm:lk m i with
   |none=>rw[hN i hi hm]at e;split at e<;>cases e
   |some z=>
    have:=hM i z hm;cases z with
    |none=>rw[show ι2 i=_ from this]at e;cases e
    |some a=>exact⟨a,(show ι2 i=ι1 a from this.1)▸e, .inr ⟨(hfn i _ hm).2.2.1 a rfl,rfl⟩⟩
  ·exact⟨i,hA i hi▸e, .inl ⟨rfl,hi⟩⟩
 have dom: ∀b,Dom ι1 w b->Dom ι2 w b:=fun b hb=>⟨hb.1,xno b hb.2.1,fun i k n e=>let⟨j,e',_⟩:=src e;hb.2.2 j k n e'⟩;have hC:Conv ι1 w ι2 w:=⟨fun _ _ h=>h,dom,fun _ _=>rfl⟩;obtain⟨a1,a2⟩:=l4 hC hM (fun o ho _ t ht=>by simp only[ks,JY c2 o ho,ht]) fun i a _ o ho=>dZ (ek V1.vw) (fun o=>V1.vw.obj a o) ho;have bas:=V1.vw.bas;refine⟨ι2,⟨V1.vw.size,V1.vw.defers,fun t y hy=> ?_,fun i o hio=> ?_,⟨fun i b k n e=>let⟨j,e',_⟩:=src e;let⟨q1,q2⟩:=V1.vw.wf.lt j b k n e';⟨q1,xno b q2⟩,fun i j b k k' n n' e e'=> ?_,fun q hq=>let⟨h1,h2⟩:=V1.vw.wf.glob q hq;⟨dom _ h1,h2⟩,fun b hb=>V1.vw.wf.xlt b fun e=>hb (xno b e)⟩,
  ⟨⟨bas.c.shape,fun b hb=>dom b (bas.c.dom b hb),bas.c.keep⟩,bas.os,bas.tape,bas.output,bas.size,fun b hb=> ?_,fun b e=>bas.xn b ((xi b _ rfl).2 e),bas.xkeep,fun i hi=> ?_,bas.cst⟩⟩,fun i hi=> ?_,hn⟩
 ·unfold lkE at hy;split at hy
  ·rename_i y' hy';cases hy;obtain⟨j,u,h1,h2,rfl⟩:=kX hy';obtain⟨v,h3,h4⟩:=(RX hv).2 j t h1;exact a1 j _ u (by rw[Ra,h3];rfl) h2 _ (Vq (ek V1.vw) (V1.vw.env t (.v v) (by rw[<-henv];exact h4)))
  ·obtain⟨u,hu,rfl⟩:=Ma.1 hy;have hcl:=c4 _ (Ah hu);have he:lkE X st1 t=some (.v u):=by
    unfold lkE;cases e:lk st1.env t with
    |none=>rw[hu];rfl
    |some _=> have hcl:(match lk st1.env t with|some _=>false|none=>true)=true:=hcl;rw[e]at hcl;cases hcl
   have hr:RepT ι1 w u _:=V1.vw.env t _ he;show RepT ι2 w u _;rw[<-NN u];refine hr.ren hC fun i hi=>Rm ?_;have:=c7 _ (Ah hu) i hi;rw[Yc,Da]at this;rcases this with⟨_,h⟩|h
   ·exact hS i h
   ·exact hA i fun e=>by rw[e]at h;cases h
 ·unfold lkO at hio;split at hio
  ·cases hio;exact(a2 _ (Ah (by assumption))).2
  ·have hcl:=(c5 _ (Ah hio)).2;have ho:lkO X st1 i=some o:=by
    unfold lkO;cases e:lk st1.heap i with
    |none=>exact hio
    |some _=> have hcl:(match lk st1.heap i with|some _=>false|none=>true)=true:=hcl;rw[e]at hcl;cases hcl
   refine zJG hI hC (V1.vw.obj i o ho) (hA i (by rw[hio];simp)) (fun b=>xk b i (by rw[hio];simp)) fun j hj=> ?_;have:=c8 _ (Ah hio) j hj;rw[Yc,Da]at this;rcases this with⟨_,h⟩|h
   ·exact hS j h
   ·exact hA j fun e=>by rw[e]at h;cases h
 ·obtain⟨i',h1,h2⟩:=src e;obtain⟨j',g1,g2⟩:=src e';obtain rfl:=V1.vw.wf.inj _ _ _ _ _ _ _ h1 g1;rcases h2 with⟨h2,h3⟩|⟨h2,h3⟩<;>rcases g2 with⟨g2,g3⟩|⟨g2,g3⟩
  ·exact h2.symm.trans g2
  ·rw[h2]at g2;exact absurd g2 h3
  ·rw[g2]at h2;exact absurd h2 g3
  ·exact hinj _ _ _ h3 g3
 ·have e:=bas.xs b hb;cases hX:B.ι0.X b with
  |no=>rw[hX]at hb;cases hb
  |far=>exact xfar b (e.trans hX)
  |inn i=> rw[hX]at hb;exact xk b i (hB.inc i (Me hb)) (e.trans hX)
 ·by_cases h1:lk X.frh i=none
  ·cases h2:lk m i with
   |none=>exact .inr ⟨fun hc=>hB.inc i hc h1, .inl (by rw[hN i h1 h2,Sa (Dc hi hn)])⟩
   |some z=>rw[hS i ((hfn i z h2).2.2.2 hi)];exact bas.slots i hi
  ·rw[hA i h1];exact bas.slots i hi
 ·have hi:n<=i:=hi;have h1:lk X.frh i=none:=by
   cases e:lk X.frh i with
   |none=>rfl
   |some o=> have:=Wl.1 (c5 _ (Ah e)).1;exact absurd this (Nat.not_lt.2 hi)
  have h2:lk m i=none:=by
   cases e:lk m i with
   |none=>rfl
   |some z=>exact absurd (hob i (hfn i z e).2.1) (Nat.not_lt.2 hi)
  rw[hN i h1 h2,Oa (Nat.not_lt.2 hi)]
theorem CJ: ∀{ts:List Nat} {l:List (Nat×ET I.C)},Tp X st ts=some l-> ∀t x,lk l t=some x->lkE X st t=some (.v x)
 |[],l,h,t,x,hx=>by cases h;cases hx
 |u::r,l,h,t,x,hx=>by
  simp only[Tp]at h;split at h<;>cases h
  ·rename_i y _ l h1 h2;rw[Z9]at hx;split at hx
   ·rename_i e;cases hx;rw[e];unfold lkE;rw[h1]
   ·exact CJ h2 t x hx
  ·exact CJ (by assumption) t x hx
theorem AJ: ∀{ts:List Nat} {l:EHeap I.C},Rp X st ts=some l-> ∀i o,lk l i=some o->lkO X st i=some o
 |[],l,h,t,x,hx=>by cases h;cases hx
 |u::r,l,h,t,x,hx=>by
  simp only[Rp]at h;split at h<;>cases h
  ·rename_i y _ l h1 h2;rw[Z9]at hx;split at hx
   ·rename_i e;cases hx;rw[e];unfold lkO;rw[h1]
   ·exact AJ h2 t x hx
  ·exact AJ (by assumption) t x hx
abbrev frX(X:Cx I)(fe:List (Nat×ET I.C))(fo:EHeap I.C):Cx I:={X with frm:=fe++X.frm,frh:=fo++X.frh}
variable {fe:List (Nat×ET I.C)} {fo:EHeap I.C}
theorem rH(hB:BOK B X):BOK B (frX X fe fo):=⟨hB.live,hB.lt,fun i hi e=>by
 simp only[lq]at e;split at e
 ·cases e
 ·exact hB.inc i hi e⟩
theorem BJ: ∀{ts:List Nat} {l:List (Nat×ET I.C)},Tp X st ts=some l-> ∀t∈ts,lk l t=none->lk st.env t=none
 |u::r,l,h,t,ht,hn=>by
  simp only[Tp]at h;split at h<;>cases h
  ·rename_i y _ l h1 h2;rw[Z9]at hn;split at hn
   ·cases hn
   ·exact BJ h2 t ((Jb.1 ht).resolve_left (by assumption)) hn
  ·rename_i h1 _ h2;rcases Jb.1 ht with rfl|ht
   ·exact h1
   ·exact BJ h2 t ht hn
theorem yI: ∀{ts:List Nat} {l:EHeap I.C},Rp X st ts=some l-> ∀t∈ts,lk l t=none->lk st.heap t=none
 |u::r,l,h,t,ht,hn=>by
  simp only[Rp]at h;split at h<;>cases h
  ·rename_i y _ l h1 h2;rw[Z9]at hn;split at hn
   ·cases hn
   ·exact yI h2 t ((Jb.1 ht).resolve_left (by assumption)) hn
  ·rename_i h1 _ h2;rcases Jb.1 ht with rfl|ht
   ·exact h1
   ·exact yI h2 t ht hn
theorem YN{α:Type}(ks:List Nat): ∀(l:List (Nat×α)) (i:Nat) {x:α},lk (outK ks l) i=some x->lk l i=some x
 |[],i,x,h=>by cases h
 |(j,y)::r,i,x,h=>by
  have ih:=YN ks r i (x:=x);unfold outK at h ih;rw[List.filter_cons]at h;rw[Z9];by_cases hm:memN j ks=true
  ·rw[Oa (by simp[hm])]at h;rw[Oa]
   ·exact ih h
   ·rintro rfl;have h:=Ah h;have:=(Te.1 h).2;rw[hm]at this;cases this
  ·rw[Sa (by simpa using hm),Z9]at h;split at h
   ·rw[Sa (by assumption)];exact h
   ·rw[Oa (by assumption)];exact ih h
theorem dK{α:Type}(ks:List Nat): ∀(l:List (Nat×α)) (i:Nat),lk (outK ks l) i=none->i∈ks\/lk l i=none
 |[],i,h=> .inr rfl
 |(j,y)::r,i,h=>by
  have ih:=dK ks r i;unfold outK at h ih;rw[List.filter_cons]at h;rw[Z9];by_cases hm:memN j ks=true
  ·rw[Oa (by simp[hm])]at h;by_cases e:i=j
   ·subst e;exact .inl (Pj.1 hm)
   ·rw[Oa e];exact ih h
  ·rw[Sa (by simpa using hm),Z9]at h;split at h
   ·cases h
   ·rw[Oa (by assumption)];exact ih h
theorem jW{c:Cut}(h1:Tp X st c.keepT=some fe)(h2:Rp X st c.keepO=some fo){a:Act}(V:St P B nt X st ι a w):St P B nt (frX X fe fo) (cutK c st) ι a w:=by
 have he: ∀t x,lkE (frX X fe fo) (cutK c st) t=some x->lkE X st t=some x:=fun t x h=>by
  simp only[lkE,cutK,lq]at h;split at h
  ·simp only[lkE];rw[YN _ _ _ (by assumption)];exact h
  ·obtain⟨y,hy,rfl⟩:=Ma.1 h;split at hy
   ·cases hy;exact CJ h1 t y (by assumption)
   ·have e:lk st.env t=none:=(dK _ _ _ (by assumption)).elim (fun e=>BJ h1 t e (by assumption)) id;simp only[lkE];rw[e,hy];rfl
 have ho: ∀i o,lkO (frX X fe fo) (cutK c st) i=some o->lkO X st i=some o:=fun t x h=>by
  simp only[lkO,cutK,lq]at h;split at h
  ·simp only[lkO];rw[YN _ _ _ (by assumption)];exact h
  ·split at h
   ·cases h;exact AJ h2 t x (by assumption)
   ·have e:lk st.heap t=none:=(dK _ _ _ (by assumption)).elim (fun e=>yI h2 t e (by assumption)) id;simp only[lkO];rw[e];exact h
 exact⟨⟨V.vw.size,V.vw.defers,fun t x hx=>V.vw.env t x (he t x hx),fun i o hi=>V.vw.obj i o (ho i o hi),V.vw.wf,V.vw.bas⟩,V.free,V.le⟩
theorem wU{α β:Type}(f:α->β): ∀(l:List (Nat×α)) (i:Nat),lk (l.map fun p=>(p.1,f p.2)) i=(lk l i).map f
 |[],i=>rfl
 |(j,x)::r,i=>by
  simp only[Jc,Z9];split
  ·rfl
  ·exact wU f r i
theorem MB{a:Act}(V:St P B nt (frX X fe fo) st ι a w):St P B nt X (unfr fe fo st) ι a w:=by
 have he:lkE X (unfr fe fo st)=lkE (frX X fe fo) st:=funext fun t=>by
  simp only[lkE,unfr,lq,wU];cases lk st.env t with
  |some _=>rfl
  |none=>cases lk fe t<;>rfl
 have ho:lkO X (unfr fe fo st)=lkO (frX X fe fo) st:=funext fun t=>by
  simp only[lkO,unfr,lq];cases lk st.heap t with
  |some _=>rfl
  |none=>cases lk fo t<;>rfl
 exact⟨by rw[he,ho];exact V.vw,V.free,V.le⟩
end
theorem sP{S Y R:Type}{step:S->Option (LO S Y R)}{s:S}{x:LX Y R}(h:xg step s=some x): ∃n,qd step n s=some x:=by
 unfold xg at h;split at h
 ·rename_i hh;injection h with h;exact⟨hh.choose,by rw[<-h];exact hh.choose_spec.choose_spec⟩
 ·cases h
theorem zEW{S Y R:Type}{f:Option Nat}{step:S->Option (LO S Y R)}{s:S}{x:LX Y R}(h:UM f step s=some x): ∃n,qd step n s=some x:=by
 cases f with
 |none=>exact sP h
 |some n=>exact⟨n,h⟩
theorem Ru{α R:Type}{c:Option α}{f:α->Option R}{r:R}(h:optB c f=some r): ∃x,c=some x/\f x=some r:=by
 cases c with
 |none=>cases h
 |some x=>exact⟨x,rfl,h⟩
section
variable {I:Ip} {P:Program} {B:Base} {nt:Nat}
def outQ{S Y R:Type}(z:LX Y R)(Q:Exit->Act->World->Prop)(x:Exit)(a:Act)(w:World):LO S Y R->Prop
 | .again _=>False
 | .out y=>z= .out y->Q x a w
 | .ret y=>z= .ret y->Q x a w
theorem vW {S Y R:Type} {step:S->Option (LO S Y R)} {z:LX Y R} {J:S->Act->World->Prop} {body:Code} {Q:Exit->Act->World->Prop}
  (round: ∀s o a w,J s a w->step s=some o->body.wp P (Exit.then (fun a' w'=> ∃s',o= .again s'/\J s' a' w') fun x a' w'=>outQ z Q x a' w' o) a w):
  ∀(n:Nat) (s:S) (a:Act) (w:World),qd step n s=some z->J s a w->Code.rounds P body Q n a w
 |0,_,_,_,h,_=>by cases h
 |n+1,s,a,w,h,hJ=>by
  simp only[qd]at h;split at h
  ·cases h
  ·rename_i s' hs;refine wp_mono (round s _ a w hJ hs) fun x a' w' hx=> ?_;cases x with
   |normal=>obtain⟨_,e,hJ'⟩:=hx;cases e;exact vW round n s' a' w' h hJ'
   |_=>exact hx.elim
  ·rename_i y hs;cases h;refine wp_mono (round s _ a w hJ hs) fun x a' w' hx=> ?_;cases x with
   |normal=>obtain⟨_,e,_⟩:=hx;cases e
   |_=>exact hx rfl
  ·rename_i y hs;cases h;refine wp_mono (round s _ a w hJ hs) fun x a' w' hx=> ?_;cases x with
   |normal=>obtain⟨_,e,_⟩:=hx;cases e
   |_=>exact hx rfl
theorem zNt(hmix:P.follows .mixedOrders=true)(hI:IpOK P I){A:Env0 I}(hS: ∀c∈A.S,ZL P c)(hp:A.p=B.p):
  ∀(c:Code) {X:Cx I} {R:Type} {K:Exit->ES I.C->Option R} {r:R} {Q:Exit->Act->World->Prop} {st:ES I.C} {ι:Asg} {a:Act} {w:World},TOK P X.T X.fk->BOK B X->evC A nt c X K st=some r->St P B nt X st ι a w->
   (∀x st' ι' a' w',K x st'=some r->St P B nt X st' ι' a' w'->Q x a' w')->c.wp P Q a w:=by
 intro c
 induction c with
 |skip=>exact fun _ _ h V hK=>wp_skip (hK _ _ _ _ _ h V)
 |label l=>exact fun _ _ h V hK=>wp_label (hK _ _ _ _ _ h V)
 |exit id=>exact fun _ _ h V hK=>wp_exit (hK _ _ _ _ _ h V)
 |ret=>exact fun _ _ h V hK=>wp_ret (hK _ _ _ _ _ h V)
 |region id ops draw=>
  intro X R K r Q st ι a w hT hB h V hK;obtain⟨V0,hc⟩:=zLF V;have rdy:=(jJ (P:=P) (nt:=nt) hI hB (lkD A.cls id) {st with env:=ni st.env}).trans (iO hI hB (lkD A.pre id) _);obtain⟨ι1,V1⟩:=rdy.ok V0;simp only[evC]at h;generalize preE X (lkD A.pre id) (Ws X (lkD A.cls id) {st with env:=ni st.env})=st1 at*;have hc1:Cons (lkE X st1):=by
   have:lkE X st1=lkE X {st with env:=ni st.env}:=funext fun t=>by unfold lkE;rw[rdy.env]
   rw[this];exact hc
  split at h
  ·refine wp_region_list ?_;have:=NB hI hT hS hB (fun st' ι' a' w'=>hK .normal st' ι' a' w') ops.toList 0 st1 ι1 a w h hc1 V1;simpa using this
  ·split at h
   ·exact zCN hmix hI hT hS hB hc1 V1 h fun st' ι' a' w'=>hK .normal st' ι' a' w'
   ·exact zBl hmix hI hT hS hB hc1 V1 h fun st' ι' a' w'=>hK .normal st' ι' a' w'
 |seq b d ihb ihd=>
  intro X R K r Q st ι a w hT hB h V hK;simp only[evC]at h;refine wp_seq ?_;split at h
  ·refine ihb hT hB h V fun x st' ι' a' w' h1 V1=> ?_;cases x with
   |normal=>exact ihd hT hB h1 V1 hK
   |_=>exact hK _ _ _ _ _ h1 V1
  ·rename_i c _;split at h
   case h_2=>cases h
   rename_i fe fo hk1 hk2;obtain⟨z,hz1,hz2⟩:=Ka.1 h;refine ihb (X:=frX X fe fo) hT (rH hB) hz1 (jW hk1 hk2 V) fun x st' ι' a' w' h1 V1=> ?_;cases x with
   |normal=>
    obtain⟨vs,q1,q2⟩:=Ru h1;obtain⟨y,q3,q4⟩:=Ka.1 q2;cases q4;rw[hp]at q3;obtain⟨ι2,V2⟩:=Fq hI (rH hB) V1 q1 (fun _ _=>uI) (Bb V.le (Wu _ _)) (fun i hi=>cu _ _ i hi) q3;exact ihd (X:=frX X fe fo) hT (rH hB) hz2 V2 fun x st' ι' a' w' h V=>hK _ _ _ _ _ h (MB V)
   |_=> obtain⟨y,q1,q2⟩:=Ma.1 h1;subst q2;cases hz2;exact hK _ _ _ _ _ q1 (MB V1)
 |cond c x y ihx ihy=>
  intro X R K r Q st ι a w hT hB h V hK;simp only[evC]at h;split at h
  case h_2=>cases h
  rename_i b hb;have hr:=Eu (x:=c) (ek V.vw) fun t _ y hy=>V.vw.env t y hy;rw[hb]at hr;refine wp_cond (t:=b) (Zf rfl hr) ?_;cases b with
  |true=>exact ihx hT hB h V hK
  |false=>exact ihy hT hB h V hK
 |block id c ih=>
  intro X R K r Q st ι a w hT hB h V hK;simp only[evC]at h;refine wp_block (ih hT hB h V fun x st' ι' a' w' h1 V1=> ?_);cases x with
  |exit i=>
   simp only[Exit.inBlock];by_cases hi:i=id
   ·rw[Sa hi];simp only[hi,Nat.beq_refl,Ca]at h1;exact hK _ _ _ _ _ h1 V1
   ·rw[Oa hi];have hb:Nat.beq i id=false:=by
     cases hb:Nat.beq i id with
     |false=>rfl
     |true=>exact absurd (La hb) hi
    simp only[hb,Ba]at h1;exact hK _ _ _ _ _ h1 V1
  |_=>exact hK _ _ _ _ _ h1 V1
 |scope c ih=>
  intro X R K r Q st ι a w hT hB h V hK;simp only[evC]at h;refine wp_scope_straight (ih hT hB h V fun x st' ι' a' w' h1 V1=> ?_);cases x with
  |goto l=>cases h1
  |_=>exact hK _ _ _ _ _ h1 V1
 |loop c ih=>
  intro X R K r Q st ι a w hT hB h V hK;simp only[evC]at h;split at h
  ·cases h
  rename_i u _;split at h
  case h_2=>cases h
  rename_i fe fo hk1 hk2;obtain⟨vs,q1,q2⟩:=Ru h;obtain⟨y,q3,q4⟩:=Ka.1 q2;obtain⟨z,hz1,hz2⟩:=Ka.1 q4;obtain⟨n0,hit⟩:=zEW hz1;clear h q2 q4 hz1;rw[hp]at q3;have hB':BOK B (frX X fe fo):=rH hB;have cut: ∀{sh:StSh} {tmps self vs st ι a w z n},St P B nt (frX X fe fo) st ι a w->Vk (frX X fe fo) st tmps=some vs->B.p<=n->(∀i∈sh.objs.map (·.1),i<n)->matC B.p n (frX X fe fo) sh vs st (selfs self)=some z-> ∃ι2,St P B nt (frX X fe fo) (encS sh tmps n z.1) ι2 a w:=fun V h1 hn hi h2=>Fq hI hB' V h1 (fun _ _=>uI) hn hi h2;have hn1:=Bb V.le (Wu u.sh.objs st.next);obtain⟨ι1,V1⟩:=cut (jW hk1 hk2 V) q1 hn1 (fun i hi=>cu _ _ i hi) q3;refine wp_loop_rounds n0 (vW (J:=fun s a w=> ∃ι,St P B nt (frX X fe fo) (encS u.sh u.tmps (Ji st.next u.sh.objs) s) ι a w) (fun s o a w ⟨ι,V⟩ hs=> ?_) n0 y.1 a w hit ⟨ι1,V1⟩);refine ih (X:=frX X fe fo) hT hB' hs V fun x st' ι' a' w' h1 V1=> ?_;have other: ∀(x:Exit),(K x (unfr fe fo st')).map LO.ret=some o->outQ z Q x a' w' o:=by intro x h1;obtain⟨y,q1,q2⟩:=Ma.1 h1;subst q2;intro e;subst e;cases hz2;exact hK _ _ _ _ _ q1 (MB V1)
  cases x with
  |normal=>
   obtain⟨vs,r1,r2⟩:=Ru h1;obtain⟨y',r3,r4⟩:=Ka.1 r2;cases r4;rw[hp]at r3;exact⟨_,rfl,cut V1 r1 hn1 (fun i hi=>cu _ _ i hi) r3⟩
  |exit i=>
   simp only at h1;cases hb:Nat.beq i u.xid with
   |true=>
    rw[hb]at h1;obtain⟨vs,r1,r2⟩:=Ru h1;obtain⟨y',r3,r4⟩:=Ka.1 r2;cases r4;intro e;subst e;rw[hp]at r3;obtain⟨ι2,V2⟩:=cut V1 r1 (Bb hn1 (Wu u.xsh.objs _)) (fun i hi=>cu _ _ i hi) r3;rw[La hb];exact hK _ _ _ _ _ hz2 (MB V2)
   |false=> rw[hb]at h1;exact other (.exit i) h1
  |goto l=>exact other (.goto l) h1
  |ret=>exact other .ret h1
  |panic c=>exact other (.panic c) h1
  |outgrown=>exact other .outgrown h1
 |_=>exact fun _ _ h=>by simp only[evC]at h;cases h
end
def rd1(tmps:Array Value):ResultVar->Sem Value
 | .tmp t=>pure (tmps.getD t undef)
 | .cell ad t=>do loadVar t (<-asAddr (tmps.getD ad undef))
theorem zCO(fn:Func)(tmps:Array Value):results fn tmps=(do let vs<-fn.results.mapM (rd1 tmps);pure (if h:vs.size=1 then vs[0]else .tuple vs)):=by
 unfold results;have:(fun r:ResultVar=>match r with| .tmp t=>(pure (tmps.getD t undef):Sem Value)| .cell a t=>do loadVar t (<-asAddr (tmps.getD a undef)))=rd1 tmps:=by funext r;cases r<;>rfl
 rw[<-this];rfl
theorem zKr{a b:List Nat}:subN a b=true↔ ∀i∈a,i∈b:=by simp only[subN,Pb,Pj]
section
variable {I:Ip} {P:Program} {ι ι':Asg} {w w':World} {X:Cx I} {st:ES I.C} {B:Base} {nt:Nat}
theorem WV(hI:IpOK P I)(hT:TOK P X.T X.fk){a:Act}(V:Vw P B nt (lkE X st) (lkO X st) ι a w): ∀(rs:List ResultVar) {ws:List (ET I.C)},retE X st rs=some ws-> ∃us:List Value,(rs.mapM (rd1 a.tmps)).run P w= .ok us w/\Gh ι w ws us.toArray
 |[],ws,h=>by cases h;exact⟨[],by simp,rfl,fun j t h=>by cases h⟩
 |r::rs,ws,h=>by
  have key: ∀{x l},ws=x::l->(∃u,(rd1 a.tmps r).run P w= .ok u w/\RepT ι w x u)->retE X st rs=some l-> ∃us:List Value,((r::rs).mapM (rd1 a.tmps)).run P w= .ok us w/\Gh ι w ws us.toArray:=by
   intro x l e ⟨u,k1,k2⟩ hl;obtain⟨us,i1,i2,i3⟩:=WV hI hT V rs hl;subst e;refine⟨u::us,by simp_all,by simpa using i2,fun j t ht=> ?_⟩;cases j with
   |zero=>grind
   |succ j=>grind
  have val: ∀{t x},opdE X st (.tmp t)= .v x->RepT ι w x (a.tmps.getD t undef):=fun {t x} e=>by have:=Eu (x:= .tmp t) (ek V) fun t _ y hy=>V.env t y hy;rw[e]at this;exact this
  cases r with
  |tmp t=>
   simp only[retE]at h;split at h<;>cases h;rename_i x l h1 h2;exact key rfl ⟨_,rfl,val h1⟩ h2
  |cell ad t=>
   simp only[retE]at h;split at h
   case h_2=>cases h
   rename_i id cell l h1 h2;split at h
   case h_2=>cases h
   rename_i ty cs ho;split at h<;>cases h;rename_i x hx;obtain⟨b,e,hm⟩:=nO (P:=P) (o:= .cells ty cs) ((Zo rfl).1 (V.obj id _ ho)) (i:=0) rfl (val h1);obtain⟨v,a1,a2⟩:=vB hT hx hm;refine key rfl ⟨v,?_,a2⟩ h2;simp only[rd1,e,asAddr,Sem.run_bind,Sem.run_pure,Result.andThen_ok];exact a1
theorem WM{α:Type}: ∀{l:List (Nat×α)} {p:Nat×α},p∈l->lk l p.1≠none
 |q::r,p,hp=>by
  rw[Z9];split
  ·simp
  ·rcases Jb.1 hp with rfl|hp
   ·grind
   ·exact WM hp
theorem vI{p:Nat}: ∀{l:List (Nat×OSh)} {i a:Nat},lk (av l p) i=some (some a)->a=i
 |[],_,_,h=>by cases h
 |(j,_)::r,i,a,h=>by
  simp only[av]at h;cases hb:Nat.blt j p<;>rw[hb]at h<;>simp only[Ca,Ba]at h
  ·exact vI h
  ·rw[Z9]at h;split at h
   ·grind
   ·exact vI h
theorem AY: ∀{as:List (ET I.C)} {n t:Nat} {y:EL I.C},lk (aA n as) t=some y-> ∃j z,t=n+j/\as[j]? =some z/\y= .v z
 |[],_,_,_,h=>by cases h
 |a::r,n,t,y,h=>by
  simp only[aA,Z9]at h;split at h
  ·simp_all
  ·obtain⟨j,z,h1,h2,h3⟩:=AY h;exact⟨j+1,z,by omega,h2,h3⟩
theorem zML{ts:List (ET I.C)}{us:List Value}(h:Gh ι w ts us.toArray):RepL ι w (resE ts) (if h:us.toArray.size=1 then us.toArray[0]else .tuple us.toArray):=by
 have hl:us.length=ts.length:=by simpa using h.1
 match ts,us,hl with
 |[],[],_=>exact⟨#[],by simp,h⟩
 |[t],[u],_=>obtain⟨u',h1,h2⟩:=h.2 0 t rfl;simp at h1;subst h1;simpa [resE,RepL] using h2
 |t1::t2::ts,u1::u2::us,_=>exact⟨_,by simp,h⟩
abbrev inX(con:Con I)(T:TT)(fk:List (Nat×List Kd))(x:(con.inS.sl I).T):Cx I:=⟨T,fk,[],((con.inS.sl I).enc x).2.filter fun o=>memN o.1 con.cst⟩
theorem I8 (hmix:P.follows .mixedOrders=true) (hI:IpOK P I) {A:Env0 I} (hS: ∀c∈A.S,ZL P c) {con:Con I} (hwf:Bj con=true) {fn:Func} {c:Code} {rs:List ResultVar} {T:TT} {fk:List (Nat×List Kd)} {exS:StSh} (hT:TOK P T fk)
  (hf:P.funcs[con.f]? =some fn) (hb:fn.body=some c) (hrs:fn.results=rs.toArray) (hname:(fn.name== "runtime.NumGoroutine")=false) (hp:A.p=con.inS.objs.length) (hlen: ∀x,((con.inS.sl I).enc x).1.length<=fn.ntmps)
  (hF: ∀x y,con.F x=some y->evF2 A T fk fn.ntmps rs c con exS x=some y):ZL P con:=by
 refine⟨hwf,fun _ _ _=>⟨fn,hf,hname,by rw[hb];rfl⟩,fun x y hxy ι w vs W hfr hobj hv=> ?_⟩;simp only[Bj,Da,ja]at hwf;obtain⟨⟨⟨⟨⟨⟨⟨w1,_⟩,_⟩,w4⟩,_⟩,w6⟩,_⟩,_⟩:=hwf;have w1:=aB w1;have w4:=zKr.1 w4;have w6:=aB w6;have hev:=hF x y hxy;unfold evF2 at hev;simp only at hev;generalize hpp:con.inS.objs.length=p at*;have keys: ∀{i},i∈((con.inS.sl I).enc x).2.map (·.1)↔i<p:=fun {i}=>by rw[(Wn (P:=P) hI con.inS).1,w1,Md]
 have hcp: ∀i∈con.cst,i<p:=fun i hi=>Md.1 (w4 i hi);have hout: ∀i∈con.outS.objs.map (·.1),i<p+con.k:=fun i hi=>by
  rcases Yd i p with h|h
  ·omega
  ·have:i∈(con.outS.objs.map (·.1)).filter fun i=> !(Nat.blt i p):=Te.2 ⟨hi,by
    cases hb:Nat.blt i p with
    |false=>rfl
    |true=>exact absurd (Wl.1 hb) (by omega)⟩
   grind
 have hB:BOK ⟨ι,w,p,con.cst⟩ (inX con T fk x):=⟨fun i hi=>by
  obtain⟨o,ho,rfl⟩:=Nb.1 (keys.2 hi);obtain⟨b,k,n,e⟩:=Mx (OV con.inS x o ho) (hobj o ho);rw[e];simp,hcp,fun i hi=>by
  obtain⟨o,ho,rfl⟩:=Nb.1 (keys.2 (hcp i hi));exact WM (Te.2 ⟨ho,Pj.2 hi⟩)⟩
 have V:St P ⟨ι,w,p,con.cst⟩ fn.ntmps (inX con T fk x) ⟨aA 0 ((con.inS.sl I).enc x).1,((con.inS.sl I).enc x).2.filter fun o=> !(memN o.1 con.cst),p⟩ ι {tmps:=vs++Array.replicate (fn.ntmps - vs.size) undef,defers:=[]} w:=by
  refine⟨⟨?_,rfl,fun t y hy=> ?_,fun i o ho=> ?_,W,⟨⟨fun _ _ h=>h,fun _ h=>h,fun _ _=>rfl⟩,rfl,rfl,rfl,Xa _,fun _ _=>rfl,fun _ h=>h,fun _ _=>rfl,fun _ _=> .inl rfl,fun _ _ _ _ _ _=>rfl⟩⟩,fun i hi=>hfr i hi,Xa _⟩
  ·have:=hlen x;rw[Array.size_append,Array.size_replicate,hv.1];omega
  ·unfold lkE at hy;split at hy
   ·cases hy;obtain⟨j,z,h1,h2,rfl⟩:=AY (by assumption);rw[jc]at h1;subst h1;obtain⟨u,h3,h4⟩:=hv.2 t z h2;have hil:=(Lb.1 h3).1;show RepT ι w z _;rw[Pd,Sd,Sa hil,h3];exact h4
   ·cases hy
  ·unfold lkO at ho;split at ho
   ·cases ho;exact hobj _ (Te.1 (Ah (by assumption))).1
   ·exact hobj _ (Te.1 (Ah ho)).1
 refine calls_of_wp hf hb (zNt hmix hI hS (B:=⟨ι,w,p,con.cst⟩) hp c (X:=inX con T fk x) hT hB hev V fun xx st' ι1 a' w' hk V1=> ?_);have fin:(optB (Vk (inX con T fk x) st' (Cs rs)) fun vs=>(matC p (Ji p exS.objs) (inX con T fk x) exS vs st' (av exS.objs p)).bind fun q=>
   optB (retE (inX con T fk x) (encS exS (Cs rs) (Ji p exS.objs) q.1) rs) fun ws=>((con.outS.sl I).mat ws (lkO (inX con T fk x) (encS exS (Cs rs) (Ji p exS.objs) q.1)) (selfs (con.outS.objs.map (·.1)))).bind fun r=>
    cond (exOK con r.2) (some r.1) none)=some y->a'.defers=[]/\ ∃v,(results fn a'.tmps).run P w'= .ok v w'/\ ∃v0 ι',Ending.returned v= .returned v0/\Stp (· ∉ con.cst) ι w ι' w'/\Wf ι' w'/\RepL ι' w' (resE ((con.outS.sl I).enc y).1) v0/\(∀o∈((con.outS.sl I).enc y).2,Qd P ι' w' o.1 o.2)/\ ∀i,p+con.k<=i->ι' i= .free:=by
  intro h;obtain⟨vs',q3,q4⟩:=Ru h;obtain⟨z,q5,q6⟩:=Ka.1 q4;obtain⟨ws,q7,q8⟩:=Ru q6;obtain⟨⟨y',m2⟩,q9,q10⟩:=Ka.1 q8;obtain⟨q11,q12⟩:=Zb q10;cases q12;obtain⟨ι2,V2⟩:=Fq hI hB V1 q3 (fun _ _=>vI) (n:=Ji p exS.objs) (Wu _ _) (fun i hi=>cu _ _ i hi) q5;obtain⟨us,r1,r2⟩:=WV hI hT V2.vw rs q7;obtain⟨L0,L⟩:=Wn (P:=P) hI con.outS;obtain⟨_,_,l3,l4⟩:=L _ _ _ _ _ q9;have hm: ∀i z,lk m2 i=some z->z=some i/\(i∈con.outS.objs.map (·.1)\/i∈con.cst):=fun i z hi=>by have:=Pb.1 q11 _ (Ah hi);rw[Da]at this;have h1:=wP this.1;have h1:lk m2 i=some (some i):=h1;rw[hi]at h1;exact⟨Option.some.inj h1,Rc.1 (Pj.1 this.2)⟩
  let ι3:Asg:=⟨fun i=>if i∈con.outS.objs.map (·.1)\/i∈con.cst then ι2 i else if i<p then .dead else .free,ι2.X⟩
  have hk3: ∀i,(i∈con.outS.objs.map (·.1)\/i∈con.cst)->ι3 i=ι2 i:=fun i hi=>Sa hi;have hn3: ∀i,¬(i∈con.outS.objs.map (·.1)\/i∈con.cst)->ι3 i=if i<p then .dead else .free:=fun i hi=>Oa hi;have inv: ∀{i b k n},ι3 i= .live (some b) k n->ι2 i= .live (some b) k n:=fun {i b k n} e=>by
   grind
  have dom: ∀b,Dom ι2 w' b->Dom ι3 w' b:=fun b hb=>⟨hb.1,hb.2.1,fun i k n e=>hb.2.2 i k n (inv e)⟩;obtain⟨a1,a2⟩:=l4 (ι:=ι2) (ι2:=ι3) (w:=w') (ks:=fun _=>0) ⟨fun _ _ h=>h,dom,fun _ _=>rfl⟩ (fun i z hz=>by
   grind) (fun o _ e=>by grind) fun i a _ o ho=>V2.vw.obj a o ho
  have bas:=V2.vw.bas;have hcs: ∀i∈con.cst,ι3 i=ι i:=fun i hi=>(hk3 i (.inr hi)).trans ((bas.slots i (hcp i hi)).resolve_right fun h=>h.1 hi);have lt: ∀i,ι i≠ .free->i<p:=fun i hi=>Nat.lt_of_not_le fun h=>hi (hfr i h);have S:Stp (· ∉ con.cst) ι w ι3 w':=by
   refine⟨⟨bas.c.shape,fun b hb=>dom b (bas.c.dom b hb),bas.c.keep⟩,bas.os,bas.tape,bas.output,bas.size,fun i b k n hT e=> ?_,fun i h0=> ?_,fun i hT h0=> ?_,bas.xs,bas.xn,bas.xkeep⟩
   ·have hi:=lt i (by rw[e];simp);have hc:i∈con.cst:=Me hT;exact bas.cst i b k n hc e
   ·by_cases hc:i∈con.cst
    ·grind
    ·by_cases ho:i∈con.outS.objs.map (·.1)
     ·rw[<-L0 y']at ho;obtain⟨o,ho',rfl⟩:=Nb.1 ho;obtain⟨b,k,n,e⟩:=Mx (a2 o ho').1 (a2 o ho').2;rw[L0 y']at ho;rw[hk3 _ (.inl ho)]at e;rcases bas.slots _ (lt _ h0)with h|⟨_,h|⟨_,h⟩⟩
      ·grind
      ·grind
      grind
     grind
   ·grind
  refine⟨V1.vw.defers,_,?_,_,ι3,rfl,S,⟨fun i b k n e=>V2.vw.wf.lt _ _ _ _ (inv e),fun i j b k k' n n' e e'=>V2.vw.wf.inj _ _ _ _ _ _ _ (inv e) (inv e'),fun q hq=>let⟨h1,h2⟩:=V2.vw.wf.glob q hq;⟨dom _ h1,h2⟩,V2.vw.wf.xlt⟩,zML (r2.arg l3 a1),fun o ho=>(a2 o ho).2,fun i hi=> ?_⟩
  ·have hrun:(fn.results.mapM (rd1 a'.tmps)).run P w'= .ok us.toArray w':=by rw[hrs,List.mapM_toArray,Sem.run_map,r1];rfl
   rw[zCO,Sem.run_bind,hrun];rfl
  ·grind
 cases xx with
 |normal=>exact fin hk
 |ret=>exact fin hk
 |_=>cases hk
end
section
variable {I:Ip} {P:Program}
theorem ZL.told{f:Nat}{inS:StSh}{cst:List Nat}{outS:StSh}{k:Nat}{F:(inS.sl I).T->Option (outS.sl I).T}{ι:Type}{Fn:ι->(inS.sl I).T->Option (outS.sl I).T}(n0:ι)(hn: ∀n,ZL P ⟨f,inS,cst,outS,k,Fn n⟩)(hF: ∀x y,F x=some y-> ∃n,Fn n x=some y):
  ZL P (⟨f,inS,cst,outS,k,F⟩:Con I):=
 ⟨(hn n0).wf,fun x y hxy=>let⟨n,h⟩:=hF x y hxy;(hn n).fn x y h,fun x y hxy=>let⟨n,h⟩:=hF x y hxy;(hn n).ok x y h⟩
theorem ZL.none{f:Nat}{inS:StSh}{cst:List Nat}{outS:StSh}{k:Nat}(hwf:Bj (⟨f,inS,cst,outS,k,fun _=>Option.none⟩:Con I)=true):ZL P (⟨f,inS,cst,outS,k,fun _=>Option.none⟩:Con I):=
 ⟨hwf,fun x y h=>(by cases h),fun x y h=>(by cases h)⟩
theorem ZL.recf {f:Nat} {inS:StSh} {cst:List Nat} {outS:StSh} {k:Nat} {F:(inS.sl I).T->Option (outS.sl I).T} (B:((inS.sl I).T->Option (outS.sl I).T)->(inS.sl I).T->Option (outS.sl I).T)
  (hwf:Bj (⟨f,inS,cst,outS,k,fun _=>Option.none⟩:Con I)=true) (hB: ∀S,ZL P (⟨f,inS,cst,outS,k,S⟩:Con I)->ZL P (⟨f,inS,cst,outS,k,B S⟩:Con I))
  (hF: ∀x y,F x=some y-> ∃n:Nat,Nat.rec (motive:=fun _=>(inS.sl I).T->Option (outS.sl I).T) (fun _=>Option.none) (fun _ S=>B S) n x=some y):ZL P (⟨f,inS,cst,outS,k,F⟩:Con I):=by
 refine ZL.told 0 (Fn:=fun n=>Nat.rec (motive:=fun _=>(inS.sl I).T->Option (outS.sl I).T) (fun _=>Option.none) (fun _ S=>B S) n) (fun n=> ?_) hF
 induction n with
 |zero=>exact ZL.none hwf
 |succ n ih=>exact hB _ ih
theorem EN{l:List Nat}{fk:List (Nat×List Kd)}(hfk: ∀p∈fk,XB P p.1=some p.2):TOK P (l.map fun t=>(t,ti P t)) fk:=by refine⟨fun t i h=> ?_,fun t ks h=>hfk _ (Ah h)⟩;obtain⟨t',_,e⟩:=Nb.1 (Ah h);injection e with e1 e2;subst e1;exact e2
end
end Go.Lv
