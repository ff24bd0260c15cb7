/- Regions in whatever order; how a state is made ready. -/
import Derived.Test.YtpodafkicdifmaaGreatDoorLd
import Derived.LoopN
import Derived.Test.YtpodafkicdifmaaGreatDoorLa
set_option linter.unusedSimpArgs false
set_option linter.unusedVariables false
namespace Go.Lv
theorem zD3{R:Type}{x y:Option R}{r:R}(h:both x y=some r):x=some r/\y=some r:=by
 unfold both at h
 grind
theorem JQ{R:Type}{r:R}: ∀{l:List (Option R)},allB l=some r-> ∀x∈l,x=some r
 |[],h=>by cases h
 |[x],h=>fun y hy=>by rw[Ic.1 hy];exact h
 |x::z::l,h=>by
  obtain⟨h1,h2⟩:=zD3 h;intro y hy;rcases Kb.1 hy with e|e
  ·subst e;exact h1
  ·exact JQ h2 y e
section
variable {I:Ip} {P:Program} {ι ι':Asg} {w w':World} {R:Type} {r0:R} {X:Cx I} {st:ES I.C} {B:Base} {nt:Nat} {ops:List Oper} {zs:List (Rz I)} {s0:FS I}
theorem Vw.on{e:EF I}{h:HF I}{a:Act}(hB:BOK B X)(V:Vw P B nt e h ι a w)(S:Stp (fun _=>False) ι w ι' w')(W:Wf ι' w'):Vw P B nt e h ι' a w':=
 ⟨V.size,V.defers,fun t x hx=>RepL.step S (V.env t x hx),fun id o ho=>(V.obj id o ho).step S fun h=>h,W,V.bas.step hB.live (fun id hi=>⟨hB.lt id hi,fun h=>h⟩) S⟩
theorem drew(ι:Asg)(w:World):Stp (fun _=>False) ι w ι {w with drawn:=w.drawn+1}:=⟨⟨fun _ _ h=>h,fun _ h=>h,fun _ _=>rfl⟩,rfl,rfl,rfl,Ta _,fun _ _ _ _ _ _=>rfl,fun _ _=> .inl rfl,fun _ _ _=>rfl,fun _ _=>rfl,fun _ h=>h,fun _ _=>rfl⟩
theorem St.drew{a:Act}(hB:BOK B X)(V:St P B nt X st ι a w):St P B nt X st ι a {w with drawn:=w.drawn+1}:=⟨V.vw.on hB (Go.Lv.drew ι w) ⟨V.vw.wf.lt,V.vw.wf.inj,Glob.step (Go.Lv.drew ι w) V.vw.wf.glob,V.vw.wf.xlt⟩,V.free,V.le⟩
theorem tH{z:Rz I}: ∀n,stA (z::zs) s0 (n+1)=stA zs (Gj z s0) n
 |0=>rfl
 |n+1=>by rw[stA,tH n];rfl
theorem MX(hI:IpOK P I)(hT:TOK P X.T X.fk){S:List (Con I)}(hS: ∀c∈S,ZR P c)(hB:BOK B X){fz:List Nat}{K:ES I.C->List Fp->Option R}: ∀(r:List Oper) (j:Nat) (st:ES I.C) (fps:List Fp),opsE X S fz nt ops j r st fps K=some r0->Cons (lkE X st)->
  ∃zs st',zs.map (·.o)=r/\K st' (fps++zs.map fun z=>(z.res.rd,z.res.up.map (·.1)))=some r0/\fsE X st'=stA zs (fsE X st) zs.length/\Cons (lkE X st')/\ ∀j z,zs[j]? =some z->OkZ P B nt ops z (stA zs (fsE X st) j)
 |[],j,st,fps,h,hc=>⟨[],st,rfl,by simpa [opsE] using h,rfl,hc,fun j z hz=>by cases hz⟩
 |o::r,j,st,fps,h,hc=>by
  simp only[opsE]at h;split at h
  ·cases h
  ·rename_i q hg;obtain⟨res,h1,hz,hc'⟩:=opZ (B:=B) hI hT hS hc hB.inc hg h;obtain⟨zs,st',a1,a2,a3,a4,a5⟩:=MX hI hT hS hB r (j+1) _ _ h1 hc';rw[OC]at a3 a5;refine⟨⟨o,putL q (qp (lkE X st) q) res.val,res,qp (lkE X st) q⟩::zs,st',by grind,by simpa using a2,by rw[a3,Fa,tH],a4,fun j z hz'=> ?_⟩;cases j with
   |zero=>cases hz';exact hz
   |succ j=>rw[tH];exact a5 j z hz'
theorem TZ (hmix:P.follows .mixedOrders=true) (hI:IpOK P I) (hT:TOK P X.T X.fk) {S:List (Con I)} (hS: ∀c∈S,ZR P c) (hB:BOK B X) {fz:List Nat} {id:Nat} {opa:Array Oper} {K:ES I.C->Option R} {Q:Exit->Act->World->Prop} {a:Act} (hc:Cons (lkE X st)) (V:St P B nt X st ι a w)
  (h0:opsE X S fz nt opa.toList 0 opa.toList st [] (fun st' fps=>cond (SN opa.toList fps) (K st') none)=some r0)
  (hQ: ∀st' ι' a' w',K st'=some r0->St P B nt X st' ι' a' w'->Q .normal a' w'):(Code.region id opa true).wp P Q a w:=by
 obtain⟨zs,st',a1,a2,a3,a4,a5⟩:=MX hI hT hS hB (nt:=nt) opa.toList 0 st [] h0 hc;obtain⟨hd,hk⟩:=zZ a2;simp only[SN,Ea,Bc]at hd;have hle: ∀j,st.next<=(stA zs (fsE X st) j).nx:=fun j=>Ex (zs:=zs) (s0:=fsE X st) 0 j (Ra _);have hf: ∀j i,ι ((stA zs (fsE X st) j).nx+i)= .free:=fun j i=>V.free _ (Db (hle j) (Yg _ _));have hS0: ∀j,(Array.replicate opa.size false).getD j false=false:=by intro j;rw[Td,Array.getElem?_replicate];split<;>rfl
 have hz:zs.length=opa.toList.length:=by rw[<-a1,Nb]
 refine wp_region_any hmix ?_;have key:=zKr (nt:=nt) (ops:=opa.toList) (Q:=Q) hB ⟨a1,a5⟩ (fun i k x y hx hy hik=>by
   have ho: ∀{j:Nat} {z:Rz I},zs[j]? =some z->opa.toList[j]? =some z.o/\(zs.map fun z=>(z.res.rd,z.res.up.map (·.1)))[j]? =some (z.res.rd,z.res.up.map (·.1)):=fun h=>⟨by grind,by grind⟩;rcases JR opa.toList 0 [] rfl (fun k=>by rw[Md]) (fun m i hi=>by simp at hi) hd.2 i k x.o y.o _ _ (ho hx).1 (ho hy).1 (ho hx).2 (ho hy).2 hik (Ra _)with h|⟨h1,h2⟩
   ·exact .inl h
   ·simp only[fpB,Bf]at h2;exact .inr ⟨h1,fun z hm=>⟨oI h2.1.1 z hm,oI h2.1.2 z hm⟩,oI h2.2⟩) hd.1
  (fun ι' a' w' V' hf'=>by
   rw[<-a3]at V' hf';exact hQ st' ι' a' w' hk ⟨V',hf',Db V.le (by have:=hle zs.length;rw[<-a3]at this;exact this)⟩)
  opa.toList.length (Array.replicate opa.size false) ι a _ (by simp) (fun i j _ h=>by grind)
  (by
   have e: ∀n,sgA zs (fsE X st) (fun j=>(Array.replicate opa.size false).getD j false) n=(lkE X st,lkO X st):=fun n=>by
    induction n with
    |zero=>rfl
    |succ n ih=>simp only[sgA,hS0,Ba]at ih ⊢;grind
   rw[e];exact(V.drew hB).vw) (ik V.vw) (fun j z _ _ i _=>hf j i) (fun i hi=>V.free i (Db (hle _) hi))
  (by simp_all)
 simpa using key
theorem zJ6(hI:IpOK P I)(hT:TOK P X.T X.fk){S:List (Con I)}(hS: ∀c∈S,ZR P c)(hB:BOK B X){fz:List Nat}{K:ES I.C->Option R}{Q:Exit->Act->World->Prop}(hQ: ∀st' ι' a' w',K st'=some r0->St P B nt X st' ι' a' w'->Q .normal a' w'):
  ∀(fuel:Nat) (listed:Array Bool) (done:List Nat) (st:ES I.C) (ι:Asg) (a:Act) (w:World),listed.size=ops.length->(∀j,listed.getD j false=memN j done)->(List.range ops.length).countP (fun j=> !listed.getD j false)<=fuel->
   anyE X S fz nt ops K fuel done st=some r0->Cons (lkE X st)->St P B nt X st ι a w->wpAny P .any ops.toArray Q fuel listed a w:=by
 intro fuel
 induction fuel with
 |zero=>
  intro listed done st ι a w hsz hd hcnt h hc V;refine⟨?_,hQ _ _ _ _ h V⟩;rw[List.eq_nil_iff_forall_not_mem];intro j hj;rw[mem_ready]at hj;obtain⟨h1,o,ho,_⟩:=hj;have hjl:j<ops.length:=(La.1 (show ops[j]? =some o by simpa using ho)).1;have h0:=List.countP_eq_zero.1 (Nat.le_zero.1 hcnt) j (Ed.2 hjl)
  grind
 |succ fuel ih=>
  intro listed done st ι a w hsz hd hcnt h hc V;have hready: ∀j,j∈Region.ready .any ops.toArray listed↔j∈YH ops done:=by
   intro j;unfold YH;rw[mem_ready,Ve,Ed];constructor
   ·intro ⟨h1,o,ho,hr⟩;have ho':ops[j]? =some o:=by simpa using ho
    have hjl:j<ops.length:=(La.1 ho').1;refine⟨hjl,?_⟩;have hS:listed.getD j false=false:=by rw[Td,Ei (by omega)]at h1 ⊢;simpa using h1
    rw[ho',<-hd,hS];simp only[Xa,Ya,Rb];intro i hi;simp only[direct,Ob,Ve]at hi;obtain⟨ed,⟨he1,he2⟩,rfl⟩:=hi
    grind
   ·intro ⟨hjl,h1⟩;have ho':ops[j]? =some ops[j]:=Va hjl;rw[ho',Ea]at h1;obtain⟨h1,h2⟩:=h1;simp only[Rb]at h2;refine⟨?_,ops[j],by simp,fun ed hed hb=> ?_⟩
    ·grind
    ·rw[hd];refine h2 ed.on ?_;simp only[direct,Ob,Ve]
     grind
  simp only[anyE]at h;refine⟨fun hnil=> ?_,fun j hj=> ?_⟩
  ·have hz:YH ops done=[]:=by rw[List.eq_nil_iff_forall_not_mem];intro j hj;have:=(hready j).2 hj;rw[hnil]at this;simp at this
   grind
  ·have hj':=(hready j).1 hj;rw[mem_ready]at hj;obtain⟨h1,o,ho,_⟩:=hj;have ho':ops[j]? =some o:=by simpa using ho
   have hjl:j<ops.length:=(La.1 ho').1;have hS0:listed.getD j false=false:=by rw[Td,Ei (by omega)]at h1 ⊢;simpa using h1
   have hS': ∀i,(listed.setIfInBounds j true).getD i false=(listed.getD i false||i==j):=by
    intro i;by_cases hij:i=j
    ·simp_all
    ·rw[getD_set_ne false (Ne.symm hij)];simp[hij]
   split at h
   ·grind
   ·have hjj:=JQ h _ (Ob.2 ⟨j,hj',rfl⟩);rw[ho']at hjj;simp only at hjj;split at hjj
    ·cases hjj
    ·rename_i q hg;obtain⟨res,h1,hz,hc'⟩:=opZ (B:=B) hI hT hS hc hB.inc hg hjj;have hstp:=OW hB hz V (K:=wpAny P .any ops.toArray Q fuel (listed.setIfInBounds j true)) (Q:=Q) fun ι' a' w' V'=>ih (listed.setIfInBounds j true) (j::done) _ ι' a' w' (by simpa using hsz) (fun i=>by
       rw[hS',hd];simp only[memN];by_cases hij:i=j
       ·subst hij;simp
       ·have:Nat.beq i j=false:=by
         cases hb:Nat.beq i j with
         |false=>rfl
         |true=>simp_all
        simp[this,hij]) (by
      have:=cnt_lt (l:=List.range ops.length) (p:=fun j=> !listed.getD j false) (q:=fun i=> !(listed.setIfInBounds j true).getD i false) (fun x hx=>by
       grind) (Ed.2 hjl) (by grind) (by grind)
      omega) h1 hc' V'
     unfold wpOp
     grind
theorem zA2 (hmix:P.follows .mixedOrders=true) (hI:IpOK P I) (hT:TOK P X.T X.fk) {S:List (Con I)} (hS: ∀c∈S,ZR P c) (hB:BOK B X) {fz:List Nat} {id:Nat} {opa:Array Oper} {K:ES I.C->Option R} {Q:Exit->Act->World->Prop} {a:Act} (hc:Cons (lkE X st)) (V:St P B nt X st ι a w)
  (h0:anyE X S fz nt opa.toList K opa.toList.length [] st=some r0)
  (hQ: ∀st' ι' a' w',K st'=some r0->St P B nt X st' ι' a' w'->Q .normal a' w'):(Code.region id opa true).wp P Q a w:=by
 refine wp_region_any hmix ?_;have hS0: ∀j,(Array.replicate opa.size false).getD j false=false:=by intro j;rw[Td,Array.getElem?_replicate];split<;>rfl
 have:=zJ6 (ops:=opa.toList) hI hT hS hB hQ opa.toList.length (Array.replicate opa.size false) [] st ι a _ (by simp) (fun j=>by rw[hS0];rfl)
  (by simp_all) h0 hc (V.drew hB)
 simpa using this
theorem EK: ∀(env:EEnv I.C) (t:Nat) {x:EL I.C},lk (si env) t=some x->x= .any\/(lk env t=some x/\dM x=true)
 |[],t,x,h=>by cases h
 |(j, .opt _ _ _)::r,t,x,h=>by
  simp only[si,Z8]at h ⊢;split at h
  ·cases h;exact .inl rfl
  ·rw[Ha (by assumption)];exact EK r t h
 |(j, .any)::r,t,x,h|(j, .v _)::r,t,x,h|(j, .tup _)::r,t,x,h=>by
  simp only[si,Z8]at h ⊢;split at h
  ·cases h;rw[Ka (by assumption)];exact .inr ⟨rfl,rfl⟩
  ·rw[Ha (by assumption)];exact EK r t h
theorem xR: ∀(env:EEnv I.C) (t:Nat),lk (si env) t=none->lk env t=none
 |[],t,h=>rfl
 |(j,x)::r,t,h=>by cases x<;>simp only[si,Z8]at h ⊢ <;>split at h<;>first|(cases h)|(rw[Ha (by assumption)];exact xR r t h)
theorem zKs{a:Act}(V:St P B nt X st ι a w):St P B nt X {st with env:=si st.env} ι a w/\Cons (lkE X {st with env:=si st.env}):=by
 have key: ∀t x,lkE X {st with env:=si st.env} t=some x->x= .any\/(lkE X st t=some x/\dM x=true):=fun t x h=>by
  unfold lkE at h ⊢;split at h
  ·rename_i y hy;cases h;rcases EK st.env t hy with h|⟨h,h2⟩
   ·exact .inl h
   grind
  ·rename_i hy;rw[xR _ _ hy];obtain⟨z,_,rfl⟩:=Na.1 h;exact .inr ⟨h,rfl⟩
 refine⟨⟨⟨V.vw.size,V.vw.defers,fun t x hx=> ?_,V.vw.obj,V.vw.wf,V.vw.bas⟩,V.free,V.le⟩,fun t ks b x hx=> ?_⟩
 ·rcases key t x hx with rfl|⟨h,_⟩
  ·trivial
  ·exact V.vw.env t x h
 ·rcases key t _ hx with h|⟨_,h⟩<;>cases h
end
section
variable {I:Ip} {P:Program} {ι ι':Asg} {w w':World} {X:Cx I} {st st1 st2:ES I.C} {B:Base} {nt:Nat}
structure Rdy (P:Program) (B:Base) (nt:Nat) (X:Cx I) (st st':ES I.C):Prop where
 env:st'.env=st.env
 next:st'.next=st.next
 ok: ∀{ι a w},St P B nt X st ι a w-> ∃ι',St P B nt X st' ι' a w
theorem Rdy.refl(st:ES I.C):Rdy P B nt X st st:=⟨rfl,rfl,fun V=>⟨_,V⟩⟩
theorem Rdy.trans(h:Rdy P B nt X st st1)(g:Rdy P B nt X st1 st2):Rdy P B nt X st st2:=⟨g.env.trans h.env,g.next.trans h.next,fun V=>let⟨_,V⟩:=h.ok V;g.ok V⟩
section
variable (hI:IpOK P I) (hB:BOK B X)
include hI hB
theorem XI(st:ES I.C)(id:Nat):Rdy P B nt X st (WA X st id):=by
 unfold WA;split
 case h_2=>exact .refl _
 rename_i t l hl hfr;exact⟨rfl,rfl,fun V=>⟨_,vV hI hB hl hfr V⟩⟩
theorem IR(st:ES I.C)(id:Nat):Rdy P B nt X st (iC X st id):=by
 unfold iC;split
 case h_2=>exact .refl _
 rename_i t l1 cs l2 hl hfr;split
 case h_2=>exact .refl _
 rename_i z hz;refine⟨rfl,rfl,fun {ι a w} V=>⟨ι,V.set hB hfr (.same _ _ _) V.vw.wf ?_ fun _ h=>h⟩⟩;have hh:=V.vw.obj id _ (show lkO X st id=some (.slo t l1 cs l2) by simp only[lkO,hl]);obtain⟨m1,m2⟩:=wM hI hz;obtain⟨m2,m3⟩:=m2 (ι:=ι) (ι2:=ι) (w:=w) ⟨fun _ _ h=>h,fun _ h=>h,fun _ _=>rfl⟩;refine Rl hh rfl rfl rfl (by simp[Zj]) fun j r r' hr hr'=> ?_;simp only[Zj,xe,Oc]at hr hr';rw[Mc]at hr hr';split at hr
 ·rename_i hj;rw[Ka hj,hr]at hr';cases hr';exact⟨rfl,fun j x y hx hy v _ hv=>by rw[hx]at hy;cases hy;exact hv⟩
 ·rename_i hj;rw[Ha hj]at hr';cases hk:j - (l1.map (I.exp t)).length with
  |zero=>
   rw[hk]at hr hr';cases hr;cases hr';exact⟨by simpa using m2,fun j x y hx hy v ho hv=>m3 j (nrmV (lkO X st) x) y (by rw[Sa,hx];rfl) hy v ho (NB (ik V.vw) hv)⟩
  |succ n=> rw[hk]at hr hr';simp only[Bg]at hr hr';rw[hr]at hr';cases hr';exact⟨rfl,fun j x y hx hy v _ hv=>by rw[hx]at hy;cases hy;exact hv⟩
theorem sP: ∀(l:List Nat) (st:ES I.C),Rdy P B nt X st (KN X l st)
 |[],st=> .refl st
 |i::r,st=>(XI hI hB st i).trans (sP r _)
theorem zCM(st:ES I.C)(id:Nat):Rdy P B nt X st (MO X st id):=by
 unfold MO;refine Rdy.trans ?_ (IR hI hB _ id);split
 ·exact sP hI hB _ _
 ·exact .refl _
theorem OQ: ∀(l:List Nat) (st:ES I.C),Rdy P B nt X st (yN X l st)
 |[],st=> .refl st
 |i::r,st=>((zCM hI hB st i).trans (XI hI hB _ i)).trans (OQ r _)
theorem DJ(st:ES I.C)(id:Nat):Rdy P B nt X st (Kw X st id):=by
 unfold Kw;refine Rdy.trans ?_ (IR hI hB _ id);split
 ·exact OQ hI hB _ _
 ·exact .refl _
theorem PQ(st:ES I.C)(id:Nat):Rdy P B nt X st (AO X st id):=(DJ hI hB st id).trans (XI hI hB _ id)
theorem CJ: ∀(l:List Nat) (st:ES I.C),Rdy P B nt X st (Ps X l st)
 |[],st=> .refl st
 |i::r,st=>by
  simp only[Ps];split
  ·exact(DJ hI hB st _).trans (CJ r _)
  ·exact CJ r st
theorem VO: ∀(l:List (Nat×Option Nat)) (st:ES I.C),Rdy P B nt X st (preE X l st)
 |[],st=> .refl st
 |i::r,st=>by
  simp only[preE];split
  ·exact(PQ hI hB st _).trans (VO r _)
  ·exact VO r st
theorem aP: ∀(l:List Nat) (st:ES I.C),Rdy P B nt X st (Jw X l st)
 |[],st=> .refl st
 |i::r,st=>(DJ hI hB st i).trans (aP r _)
theorem VJ: ∀(l:List Nat) (st:ES I.C),Rdy P B nt X st (jk X l st)
 |[],st=> .refl st
 |i::r,st=>(PQ hI hB st i).trans (VJ r _)
end
end
theorem Iu: ∀(l:List (Nat×OSh)) (n:Nat),n<=Li n l
 |[],n=>Ta n
 |(i,_)::r,n=>by
  simp only[Li];refine Db ?_ (Iu r _);cases h:Nat.ble (i+1) n with
  |true=>grind
  |false=>
   simp only[Ba];have: ¬(i+1<=n):=fun h'=>by rw[Nat.ble_eq_true_of_le h']at h;cases h
   omega
theorem fu: ∀(l:List (Nat×OSh)) (n i:Nat),i∈l.map (·.1)->i<Li n l
 |(j,_)::r,n,i,h=>by
  simp only[Li];rcases Kb.1 h with h|h
  ·subst h;refine Gc ?_ (Iu r _);cases h:Nat.ble (i+1) n with
   |true=>exact Nc h
   |false=>grind
  ·exact fu r _ i h
section
variable {I:Ip} {P:Program} {ι ι':Asg} {w w':World} {X:Cx I} {st:ES I.C} {B:Base} {nt:Nat}
theorem GI: ∀{l:List Nat} {i a:Nat},lk (selfs l) i=some (some a)->a=i
 |[],_,_,h=>by cases h
 |j::r,i,a,h=>by
  simp only[selfs,Oc,Z8]at h;split at h
  ·grind
  ·exact GI (l:=r) h
theorem AY: ∀{ts:List Nat} {vs:List (ET I.C)},Yk X st ts=some vs->vs.length=ts.length/\ ∀(j t:Nat),ts[j]? =some t-> ∃x,vs[j]? =some x/\lkE X st t=some (.v x)
 |[],vs,h=>by cases h;grind
 |t::r,vs,h=>by
  simp only[Yk]at h;split at h<;>cases h;rename_i x l h1 h2;obtain⟨a1,a2⟩:=AY h2
  grind
theorem FZ: ∀{ts:List Nat} {as:List (ET I.C)} {t:Nat} {x:EL I.C},lk (UH ts as) t=some x-> ∃(j:Nat) (y:ET I.C),ts[j]? =some t/\as[j]? =some y/\x= .v y
 |[],_,_,_,h=>by cases h
 |_::_,[],_,_,h=>by cases h
 |u::r,a::s,t,x,h=>by
  simp only[UH,Z8]at h;split at h
  ·rename_i e;cases h;exact⟨0,a,by rw[e];rfl,rfl,rfl⟩
  ·obtain⟨j,y,h1,h2,h3⟩:=FZ h;exact⟨j+1,y,h1,h2,h3⟩
theorem RZ{α:Type}: ∀{l:List (Nat×α)},kH (l.map (·.1))=true-> ∀o∈l,lk l o.1=some o.2
 |[],_,o,ho=>by cases ho
 |(j,y)::r,h,o,ho=>by
  simp only[Oc,kH]at h;rw[Z8];rcases Kb.1 ho with rfl|ho
  ·exact Ka rfl
  ·cases hb:memN j (r.map (·.1))with
   |true=>grind
   |false=> rw[hb]at h;rw[Ha fun e=>by rw[Tj.2 (Ob.2 ⟨o,ho,e⟩)]at hb;cases hb];exact RZ h o ho
theorem zLs(o:EO I.C):rnEO (fun i=>i) o=o:=by cases o<;>simp[rnEO,show(rnV fun i=>i)=(id:EV I.C->EV I.C)from funext Vs]
theorem zIl(hI:IpOK P I)(hC:Conv ι w ι' w){i:Nat}{o:EO I.C}(hh:qY P ι w i o)(hs:ι' i=ι i)(hX: ∀b,ι.X b= .inn i->ι'.X b= .inn i)(hf: ∀j∈Ws o,ι' j=ι j):qY P ι' w i o:=by
 cases ho:isL o with
 |true=>
  have:=nP hI hC (f:=fun i=>i) ho hh hs hX fun j hj=>Rm (hf j hj)
  rwa [zLs]at this
 |false=>
  cases o with
  |dead=>trivial
  |frz t l=>exact hs.trans hh
  |mp kd l=>obtain⟨b,h1,h2⟩:=hh;exact⟨b,hs.trans h1,h2⟩
  |_=>cases ho
theorem MQ{m:Mp}{i:Nat}(h:isSelf m i=true):lk m i=some (some i):=by
 unfold isSelf at h;split at h
 ·simp_all
 ·cases h
theorem Gq (hI:IpOK P I) (hB:BOK B X) {a:Act} (V:St P B nt X st ι a w) {sh:StSh} {tmps:List Nat} {vs:List (ET I.C)} (hv:Yk X st tmps=some vs) {m0:Mp} (hm0: ∀i a,lk m0 i=some (some a)->a=i) {n:Nat} (hn:B.p<=n) (hob: ∀i∈sh.objs.map (·.1),i<n)
  {z:(sh.sl I).T×Mp} (h:matC B.p n X sh vs st m0=some z): ∃ι2,St P B nt X (encS sh tmps n z.1) ι2 a w:=by
 obtain⟨x,m⟩:=z;simp only[matC]at h;have rdy:=(VJ (P:=P) (nt:=nt) hI hB (fzV sh.vals vs) st).trans ((aP hI hB (clA (lkO X (jk X (fzV sh.vals vs) st)) sh vs) _).trans (VJ hI hB (fzA (lkO X (Jw X (clA (lkO X (jk X (fzV sh.vals vs) st)) sh vs) (jk X (fzV sh.vals vs) st))) sh vs) _));generalize jk X (fzA (lkO X (Jw X (clA (lkO X (jk X (fzV sh.vals vs) st)) sh vs) (jk X (fzV sh.vals vs) st))) sh vs) _=st1 at*;obtain⟨z,hz,h⟩:=Ia.1 h;obtain⟨hc,h⟩:=zZ h;cases h;obtain⟨ι1,V1⟩:=rdy.ok V;have henv: ∀t,lkE X st t=lkE X st1 t:=fun t=>by unfold lkE;rw[rdy.env]
 obtain⟨_,L⟩:=Bo (P:=P) hI sh;obtain⟨l1,l2,l3,l4⟩:=L _ _ _ _ _ hz;simp only[LV,Ea,Rb]at hc;obtain⟨⟨⟨⟨⟨⟨⟨_,c2⟩,c3⟩,c4⟩,c5⟩,c6⟩,c7⟩,c8⟩:=hc
 let ks:Nat->Nat:=fun i=>match lk sh.objs i with
  |some o=>match slT o with
   |some t=>P.cellsOf t
   |none=>0
  |none=>0
 have dec: ∀a,Decidable (∃i,lk m i=some (some a)):=fun _=>Classical.propDecidable _;have hinj:InjM m:=l1.2 fun i j a h1 h2=>(hm0 i a h1).symm.trans (hm0 j a h2)
 let ι2:Asg:=⟨fun i=>match lk X.frh i with
  |some _=>ι1 i
  |none=>match lk m i with
   |some (some a)=>ι1 a
   |some none=> .live none (ks i) 0
   |none=>if i<n then .dead else .free,fun b=>match ι1.X b with
  | .inn a=>if h: ∃i,lk m i=some (some a)then .inn h.choose else .inn a
  |x=>x⟩
 have hA: ∀i,lk X.frh i≠none->ι2 i=ι1 i:=fun i hi=>by
  show(match lk X.frh i with|some _=>ι1 i|none=>_)=_;cases e:lk X.frh i with
  |none=>exact absurd e hi
  |some _=>rfl
 have hfn: ∀i z,lk m i=some z->lk X.frh i=none/\i∈sh.objs.map (·.1)/\(∀a,z=some a->lk X.frh a=none)/\(i<B.p->isSelf m i=true):=fun i z hi=>by
  have h6:=c6 _ (Eh hi);obtain⟨⟨h7,h8⟩,h9⟩:=h6;have hm:=Tj.1 h7;refine⟨?_,hm,fun a e=> ?_,fun hp=> ?_⟩
  ·have:=c3 i hm;cases e:lk X.frh i with
   |none=>rfl
   |some _=>rw[e]at this;cases this
  ·subst e;have h9:(match lk X.frh a with|some _=>false|none=>true)=true:=h9;cases e:lk X.frh a with
   |none=>rfl
   |some _=>rw[e]at h9;cases h9
  ·rw[Nl.2 hp]at h8;exact h8
 have xno: ∀b,ι1.X b= .no->ι2.X b= .no:=fun b e=>by show(match ι1.X b with| .inn a=>if h: ∃i,lk m i=some (some a)then Own.inn h.choose else .inn a|x=>x)=_;rw[e]
 have xfar: ∀b,ι1.X b= .far->ι2.X b= .far:=fun b e=>by show(match ι1.X b with| .inn a=>if h: ∃i,lk m i=some (some a)then Own.inn h.choose else .inn a|x=>x)=_;rw[e]
 have xm: ∀b i a,lk m i=some (some a)->ι1.X b= .inn a->ι2.X b= .inn i:=fun b i a hi e=>by show(match ι1.X b with| .inn a=>if h: ∃i,lk m i=some (some a)then Own.inn h.choose else .inn a|x=>x)=_;rw[e];have h: ∃i,lk m i=some (some a):=⟨i,hi⟩;simp only[dif_pos h];rw[hinj _ _ _ h.choose_spec hi]
 have xk: ∀b a,lk X.frh a≠none->ι1.X b= .inn a->ι2.X b= .inn a:=fun b a ha e=>by show(match ι1.X b with| .inn a=>if h: ∃i,lk m i=some (some a)then Own.inn h.choose else .inn a|x=>x)=_;rw[e];have h: ¬ ∃i,lk m i=some (some a):=fun⟨i,hi⟩=>ha ((hfn i _ hi).2.2.1 a rfl);simp only[dif_neg h]
 have xi: ∀b x,ι2.X b=x->(x= .no->ι1.X b= .no)/\(x= .far->ι1.X b= .far):=fun b x e=>by
  cases hX:ι1.X b with
  |no=>rw[xno b hX]at e;subst e;exact⟨fun _=>rfl,fun e=>by cases e⟩
  |far=>rw[xfar b hX]at e;subst e;exact⟨(fun e=>by cases e),fun _=>rfl⟩
  |inn a=>
   have e2:ι2.X b=if h: ∃i,lk m i=some (some a)then Own.inn h.choose else .inn a:=by show(match ι1.X b with| .inn a=>if h: ∃i,lk m i=some (some a)then Own.inn h.choose else .inn a|x=>x)=_;rw[hX]
   rw[e]at e2;constructor<;>intro e3<;>rw[e3]at e2<;>split at e2<;>cases e2
 have hM:Cmp ι1 ι2 ks m:=fun i z hi=>by
  have e1:ι2 i=match lk X.frh i with|some _=>ι1 i|none=>match lk m i with|some (some a)=>ι1 a|some none=> .live none (ks i) 0|none=>if i<n then .dead else .free:=rfl;rw[(hfn i z hi).1,hi]at e1;cases z with
  |none=>exact e1
  |some a=>exact⟨e1,fun b e=>xm b i a hi e⟩
 have hS: ∀i,isSelf m i=true->ι2 i=ι1 i:=fun i hi=>(hM i _ (MQ hi)).1;have hN: ∀i,lk X.frh i=none->lk m i=none->ι2 i=if i<n then .dead else .free:=fun i h1 h2=>by show(match lk X.frh i with|some _=>ι1 i|none=>match lk m i with|some (some a)=>ι1 a|some none=> .live none (ks i) 0|none=>if i<n then .dead else .free)=_;rw[h1,h2]
 have src: ∀{i b k n},ι2 i= .live (some b) k n-> ∃j,ι1 j= .live (some b) k n/\((j=i/\lk X.frh i≠none)\/(lk X.frh j=none/\lk m i=some (some j))):=fun {i b k n'} e=>by
  by_cases hi:lk X.frh i=none
  ·cases hm:lk m i with
   |none=>rw[hN i hi hm]at e;split at e<;>cases e
   |some z=>
    have:=hM i z hm;cases z with
    |none=>rw[show ι2 i=_ from this]at e;cases e
    |some a=>exact⟨a,(show ι2 i=ι1 a from this.1)▸e, .inr ⟨(hfn i _ hm).2.2.1 a rfl,rfl⟩⟩
  ·exact⟨i,hA i hi▸e, .inl ⟨rfl,hi⟩⟩
 have dom: ∀b,Dom ι1 w b->Dom ι2 w b:=fun b hb=>⟨hb.1,xno b hb.2.1,fun i k n e=>let⟨j,e',_⟩:=src e;hb.2.2 j k n e'⟩;have hC:Conv ι1 w ι2 w:=⟨fun _ _ h=>h,dom,fun _ _=>rfl⟩;obtain⟨a1,a2⟩:=l4 hC hM (fun o ho _ t ht=>by simp only[ks,RZ c2 o ho,ht]) fun i a _ o ho=>yP (ik V1.vw) (fun o=>V1.vw.obj a o) ho;have bas:=V1.vw.bas;refine⟨ι2,⟨V1.vw.size,V1.vw.defers,fun t y hy=> ?_,fun i o hio=> ?_,⟨fun i b k n e=>let⟨j,e',_⟩:=src e;let⟨q1,q2⟩:=V1.vw.wf.lt j b k n e';⟨q1,xno b q2⟩,fun i j b k k' n n' e e'=> ?_,fun q hq=>let⟨h1,h2⟩:=V1.vw.wf.glob q hq;⟨dom _ h1,h2⟩,fun b hb=>V1.vw.wf.xlt b fun e=>hb (xno b e)⟩,
  ⟨⟨bas.c.shape,fun b hb=>dom b (bas.c.dom b hb),bas.c.keep⟩,bas.os,bas.tape,bas.output,bas.size,fun b hb=> ?_,fun b e=>bas.xn b ((xi b _ rfl).2 e),bas.xkeep,fun i hi=> ?_,bas.cst⟩⟩,fun i hi=> ?_,hn⟩
 ·unfold lkE at hy;split at hy
  ·rename_i y' hy';cases hy;obtain⟨j,u,h1,h2,rfl⟩:=FZ hy';obtain⟨v,h3,h4⟩:=(AY hv).2 j t h1;exact a1 j _ u (by rw[Sa,h3];rfl) h2 _ (Xq (ik V1.vw) (V1.vw.env t (.v v) (by rw[<-henv];exact h4)))
  ·obtain⟨u,hu,rfl⟩:=Na.1 hy;have hcl:=c4 _ (Eh hu);have he:lkE X st1 t=some (.v u):=by
    unfold lkE;cases e:lk st1.env t with
    |none=>rw[hu];rfl
    |some _=> have hcl:(match lk st1.env t with|some _=>false|none=>true)=true:=hcl;rw[e]at hcl;cases hcl
   have hr:RepT ι1 w u _:=V1.vw.env t _ he;show RepT ι2 w u _;rw[<-kM u];refine hr.ren hC fun i hi=>Rm ?_;have:=c7 _ (Eh hu) i hi;rw[jc,Ea]at this;rcases this with⟨_,h⟩|h
   ·exact hS i h
   ·exact hA i fun e=>by rw[e]at h;cases h
 ·unfold lkO at hio;split at hio
  ·cases hio;exact(a2 _ (Eh (by assumption))).2
  ·have hcl:=(c5 _ (Eh hio)).2;have ho:lkO X st1 i=some o:=by
    unfold lkO;cases e:lk st1.heap i with
    |none=>exact hio
    |some _=> have hcl:(match lk st1.heap i with|some _=>false|none=>true)=true:=hcl;rw[e]at hcl;cases hcl
   refine zIl hI hC (V1.vw.obj i o ho) (hA i (by rw[hio];simp)) (fun b=>xk b i (by rw[hio];simp)) fun j hj=> ?_;have:=c8 _ (Eh hio) j hj;rw[jc,Ea]at this;rcases this with⟨_,h⟩|h
   ·exact hS j h
   ·exact hA j fun e=>by rw[e]at h;cases h
 ·obtain⟨i',h1,h2⟩:=src e;obtain⟨j',g1,g2⟩:=src e';obtain rfl:=V1.vw.wf.inj _ _ _ _ _ _ _ h1 g1;rcases h2 with⟨h2,h3⟩|⟨h2,h3⟩<;>rcases g2 with⟨g2,g3⟩|⟨g2,g3⟩
  ·exact h2.symm.trans g2
  ·rw[h2]at g2;exact absurd g2 h3
  ·rw[g2]at h2;exact absurd h2 g3
  ·exact hinj _ _ _ h3 g3
 ·have e:=bas.xs b hb;cases hX:B.ι0.X b with
  |no=>rw[hX]at hb;cases hb
  |far=>exact xfar b (e.trans hX)
  |inn i=> rw[hX]at hb;exact xk b i (hB.inc i (Re hb)) (e.trans hX)
 ·by_cases h1:lk X.frh i=none
  ·cases h2:lk m i with
   |none=>exact .inr ⟨fun hc=>hB.inc i hc h1, .inl (by rw[hN i h1 h2,Ka (Gc hi hn)])⟩
   |some z=>rw[hS i ((hfn i z h2).2.2.2 hi)];exact bas.slots i hi
  ·rw[hA i h1];exact bas.slots i hi
 ·have hi:n<=i:=hi;have h1:lk X.frh i=none:=by
   cases e:lk X.frh i with
   |none=>rfl
   |some o=> have:=Nl.1 (c5 _ (Eh e)).1;exact absurd this (Nat.not_lt.2 hi)
  have h2:lk m i=none:=by
   cases e:lk m i with
   |none=>rfl
   |some z=>exact absurd (hob i (hfn i z e).2.1) (Nat.not_lt.2 hi)
  rw[hN i h1 h2,Ha (Nat.not_lt.2 hi)]
theorem OI: ∀{ts:List Nat} {l:List (Nat×ET I.C)},Wn X st ts=some l-> ∀t x,lk l t=some x->lkE X st t=some (.v x)
 |[],l,h,t,x,hx=>by cases h;cases hx
 |u::r,l,h,t,x,hx=>by
  simp only[Wn]at h;split at h<;>cases h
  ·rename_i y _ l h1 h2;rw[Z8]at hx;split at hx
   ·rename_i e;cases hx;rw[e];unfold lkE;rw[h1]
   ·exact OI h2 t x hx
  ·exact OI (by assumption) t x hx
theorem MI: ∀{ts:List Nat} {l:EHeap I.C},Vn X st ts=some l-> ∀i o,lk l i=some o->lkO X st i=some o
 |[],l,h,t,x,hx=>by cases h;cases hx
 |u::r,l,h,t,x,hx=>by
  simp only[Vn]at h;split at h<;>cases h
  ·rename_i y _ l h1 h2;rw[Z8]at hx;split at hx
   ·rename_i e;cases hx;rw[e];unfold lkO;rw[h1]
   ·exact MI h2 t x hx
  ·exact MI (by assumption) t x hx
abbrev frX(X:Cx I)(fe:List (Nat×ET I.C))(fo:EHeap I.C):Cx I:={X with frm:=fe++X.frm,frh:=fo++X.frh}
variable {fe:List (Nat×ET I.C)} {fo:EHeap I.C}
theorem EH(hB:BOK B X):BOK B (frX X fe fo):=⟨hB.live,hB.lt,fun i hi e=>by
 simp only[oq]at e;split at e
 ·cases e
 ·exact hB.inc i hi e⟩
theorem NI: ∀{ts:List Nat} {l:List (Nat×ET I.C)},Wn X st ts=some l-> ∀t∈ts,lk l t=none->lk st.env t=none
 |u::r,l,h,t,ht,hn=>by
  simp only[Wn]at h;split at h<;>cases h
  ·rename_i y _ l h1 h2;rw[Z8]at hn;split at hn
   ·cases hn
   ·exact NI h2 t ((Kb.1 ht).resolve_left (by assumption)) hn
  ·rename_i h1 _ h2;rcases Kb.1 ht with rfl|ht
   ·exact h1
   ·exact NI h2 t ht hn
theorem KI: ∀{ts:List Nat} {l:EHeap I.C},Vn X st ts=some l-> ∀t∈ts,lk l t=none->lk st.heap t=none
 |u::r,l,h,t,ht,hn=>by
  simp only[Vn]at h;split at h<;>cases h
  ·rename_i y _ l h1 h2;rw[Z8]at hn;split at hn
   ·cases hn
   ·exact KI h2 t ((Kb.1 ht).resolve_left (by assumption)) hn
  ·rename_i h1 _ h2;rcases Kb.1 ht with rfl|ht
   ·exact h1
   ·exact KI h2 t ht hn
theorem xM{α:Type}(ks:List Nat): ∀(l:List (Nat×α)) (i:Nat) {x:α},lk (outK ks l) i=some x->lk l i=some x
 |[],i,x,h=>by cases h
 |(j,y)::r,i,x,h=>by
  have ih:=xM ks r i (x:=x);unfold outK at h ih;rw[List.filter_cons]at h;rw[Z8];by_cases hm:memN j ks=true
  ·rw[Ha (by simp[hm])]at h;rw[Ha]
   ·exact ih h
   ·rintro rfl;have h:=Eh h;have:=(Ve.1 h).2;rw[hm]at this;cases this
  ·rw[Ka (by simpa using hm),Z8]at h;split at h
   ·rw[Ka (by assumption)];exact h
   ·rw[Ha (by assumption)];exact ih h
theorem IK{α:Type}(ks:List Nat): ∀(l:List (Nat×α)) (i:Nat),lk (outK ks l) i=none->i∈ks\/lk l i=none
 |[],i,h=> .inr rfl
 |(j,y)::r,i,h=>by
  have ih:=IK ks r i;unfold outK at h ih;rw[List.filter_cons]at h;rw[Z8];by_cases hm:memN j ks=true
  ·rw[Ha (by simp[hm])]at h;by_cases e:i=j
   ·subst e;exact .inl (Tj.1 hm)
   ·rw[Ha e];exact ih h
  ·rw[Ka (by simpa using hm),Z8]at h;split at h
   ·cases h
   ·rw[Ha (by assumption)];exact ih h
theorem oW{c:Cut}(h1:Wn X st c.keepT=some fe)(h2:Vn X st c.keepO=some fo){a:Act}(V:St P B nt X st ι a w):St P B nt (frX X fe fo) (cutK c st) ι a w:=by
 have he: ∀t x,lkE (frX X fe fo) (cutK c st) t=some x->lkE X st t=some x:=fun t x h=>by
  simp only[lkE,cutK,oq]at h;split at h
  ·simp only[lkE];rw[xM _ _ _ (by assumption)];exact h
  ·obtain⟨y,hy,rfl⟩:=Na.1 h;split at hy
   ·cases hy;exact OI h1 t y (by assumption)
   ·have e:lk st.env t=none:=(IK _ _ _ (by assumption)).elim (fun e=>NI h1 t e (by assumption)) id;simp only[lkE];rw[e,hy];rfl
 have ho: ∀i o,lkO (frX X fe fo) (cutK c st) i=some o->lkO X st i=some o:=fun t x h=>by
  simp only[lkO,cutK,oq]at h;split at h
  ·simp only[lkO];rw[xM _ _ _ (by assumption)];exact h
  ·split at h
   ·cases h;exact MI h2 t x (by assumption)
   ·have e:lk st.heap t=none:=(IK _ _ _ (by assumption)).elim (fun e=>KI h2 t e (by assumption)) id;simp only[lkO];rw[e];exact h
 exact⟨⟨V.vw.size,V.vw.defers,fun t x hx=>V.vw.env t x (he t x hx),fun i o hi=>V.vw.obj i o (ho i o hi),V.vw.wf,V.vw.bas⟩,V.free,V.le⟩
theorem pV{α β:Type}(f:α->β): ∀(l:List (Nat×α)) (i:Nat),lk (l.map fun p=>(p.1,f p.2)) i=(lk l i).map f
 |[],i=>rfl
 |(j,x)::r,i=>by
  simp only[Oc,Z8];split
  ·rfl
  ·exact pV f r i
theorem CB{a:Act}(V:St P B nt (frX X fe fo) st ι a w):St P B nt X (unfr fe fo st) ι a w:=by
 have he:lkE X (unfr fe fo st)=lkE (frX X fe fo) st:=funext fun t=>by
  simp only[lkE,unfr,oq,pV];cases lk st.env t with
  |some _=>rfl
  |none=>cases lk fe t<;>rfl
 have ho:lkO X (unfr fe fo st)=lkO (frX X fe fo) st:=funext fun t=>by
  simp only[lkO,unfr,oq];cases lk st.heap t with
  |some _=>rfl
  |none=>cases lk fo t<;>rfl
 exact⟨by rw[he,ho];exact V.vw,V.free,V.le⟩
end
theorem LQ{S Y R:Type}{step:S->Option (LO S Y R)}{s:S}{x:LX Y R}(h:yg step s=some x): ∃n,Z6 step n s=some x:=by
 unfold yg at h;split at h
 ·rename_i hh;injection h with h;exact⟨hh.choose,by rw[<-h];exact hh.choose_spec.choose_spec⟩
 ·cases h
theorem zC9{S Y R:Type}{f:Option Nat}{step:S->Option (LO S Y R)}{s:S}{x:LX Y R}(h:TM f step s=some x): ∃n,Z6 step n s=some x:=by
 cases f with
 |none=>exact LQ h
 |some n=>exact⟨n,h⟩
theorem Yu{α R:Type}{c:Option α}{f:α->Option R}{r:R}(h:optB c f=some r): ∃x,c=some x/\f x=some r:=by
 cases c with
 |none=>cases h
 |some x=>exact⟨x,rfl,h⟩
section
variable {I:Ip} {P:Program} {B:Base} {nt:Nat}
def outQ{S Y R:Type}(z:LX Y R)(Q:Exit->Act->World->Prop)(x:Exit)(a:Act)(w:World):LO S Y R->Prop
 | .again _=>False
 | .out y=>z= .out y->Q x a w
 | .ret y=>z= .ret y->Q x a w
theorem lW {S Y R:Type} {step:S->Option (LO S Y R)} {z:LX Y R} {J:S->Act->World->Prop} {body:Code} {Q:Exit->Act->World->Prop}
  (round: ∀s o a w,J s a w->step s=some o->body.wp P (Exit.then (fun a' w'=> ∃s',o= .again s'/\J s' a' w') fun x a' w'=>outQ z Q x a' w' o) a w):
  ∀(n:Nat) (s:S) (a:Act) (w:World),Z6 step n s=some z->J s a w->Code.rounds P body Q n a w
 |0,_,_,_,h,_=>by cases h
 |n+1,s,a,w,h,hJ=>by
  simp only[Z6]at h;split at h
  ·cases h
  ·rename_i s' hs;refine wp_mono (round s _ a w hJ hs) fun x a' w' hx=> ?_;cases x with
   |normal=>obtain⟨_,e,hJ'⟩:=hx;cases e;exact lW round n s' a' w' h hJ'
   |_=>exact hx.elim
  ·rename_i y hs;cases h;refine wp_mono (round s _ a w hJ hs) fun x a' w' hx=> ?_;cases x with
   |normal=>obtain⟨_,e,_⟩:=hx;cases e
   |_=>exact hx rfl
  ·rename_i y hs;cases h;refine wp_mono (round s _ a w hJ hs) fun x a' w' hx=> ?_;cases x with
   |normal=>obtain⟨_,e,_⟩:=hx;cases e
   |_=>exact hx rfl
theorem zL9(hmix:P.follows .mixedOrders=true)(hI:IpOK P I){A:Env0 I}(hS: ∀c∈A.S,ZR P c)(hp:A.p=B.p):
  ∀(c:Code) {X:Cx I} {R:Type} {K:Exit->ES I.C->Option R} {r:R} {Q:Exit->Act->World->Prop} {st:ES I.C} {ι:Asg} {a:Act} {w:World},TOK P X.T X.fk->BOK B X->evC A nt c X K st=some r->St P B nt X st ι a w->
   (∀x st' ι' a' w',K x st'=some r->St P B nt X st' ι' a' w'->Q x a' w')->c.wp P Q a w:=by
 intro c
 induction c with
 |skip=>exact fun _ _ h V hK=>wp_skip (hK _ _ _ _ _ h V)
 |label l=>exact fun _ _ h V hK=>wp_label (hK _ _ _ _ _ h V)
 |exit id=>exact fun _ _ h V hK=>wp_exit (hK _ _ _ _ _ h V)
 |ret=>exact fun _ _ h V hK=>wp_ret (hK _ _ _ _ _ h V)
 |region id ops draw=>
  intro X R K r Q st ι a w hT hB h V hK;obtain⟨V0,hc⟩:=zKs V;have rdy:=(CJ (P:=P) (nt:=nt) hI hB (lkD A.cls id) {st with env:=si st.env}).trans (VO hI hB (lkD A.pre id) _);obtain⟨ι1,V1⟩:=rdy.ok V0;simp only[evC]at h;generalize preE X (lkD A.pre id) (Ps X (lkD A.cls id) {st with env:=si st.env})=st1 at*;have hc1:Cons (lkE X st1):=by
   have:lkE X st1=lkE X {st with env:=si st.env}:=funext fun t=>by unfold lkE;rw[rdy.env]
   rw[this];exact hc
  split at h
  ·refine wp_region_list ?_;have:=jA hI hT hS hB (fun st' ι' a' w'=>hK .normal st' ι' a' w') ops.toList 0 st1 ι1 a w h hc1 V1;simpa using this
  ·split at h
   ·exact zA2 hmix hI hT hS hB hc1 V1 h fun st' ι' a' w'=>hK .normal st' ι' a' w'
   ·exact TZ hmix hI hT hS hB hc1 V1 h fun st' ι' a' w'=>hK .normal st' ι' a' w'
 |seq b d ihb ihd=>
  intro X R K r Q st ι a w hT hB h V hK;simp only[evC]at h;refine wp_seq ?_;split at h
  ·refine ihb hT hB h V fun x st' ι' a' w' h1 V1=> ?_;cases x with
   |normal=>exact ihd hT hB h1 V1 hK
   |_=>exact hK _ _ _ _ _ h1 V1
  ·rename_i c _;split at h
   case h_2=>cases h
   rename_i fe fo hk1 hk2;obtain⟨z,hz1,hz2⟩:=Ia.1 h;refine ihb (X:=frX X fe fo) hT (EH hB) hz1 (oW hk1 hk2 V) fun x st' ι' a' w' h1 V1=> ?_;cases x with
   |normal=>
    obtain⟨vs,q1,q2⟩:=Yu h1;obtain⟨y,q3,q4⟩:=Ia.1 q2;cases q4;rw[hp]at q3;obtain⟨ι2,V2⟩:=Gq hI (EH hB) V1 q1 (fun _ _=>GI) (Db V.le (Iu _ _)) (fun i hi=>fu _ _ i hi) q3;exact ihd (X:=frX X fe fo) hT (EH hB) hz2 V2 fun x st' ι' a' w' h V=>hK _ _ _ _ _ h (CB V)
   |_=> obtain⟨y,q1,q2⟩:=Na.1 h1;subst q2;cases hz2;exact hK _ _ _ _ _ q1 (CB V1)
 |cond c x y ihx ihy=>
  intro X R K r Q st ι a w hT hB h V hK;simp only[evC]at h;split at h
  case h_2=>cases h
  rename_i b hb;have hr:=yt (x:=c) (ik V.vw) fun t _ y hy=>V.vw.env t y hy;rw[hb]at hr;refine wp_cond (t:=b) (Zi rfl hr) ?_;cases b with
  |true=>exact ihx hT hB h V hK
  |false=>exact ihy hT hB h V hK
 |block id c ih=>
  intro X R K r Q st ι a w hT hB h V hK;simp only[evC]at h;refine wp_block (ih hT hB h V fun x st' ι' a' w' h1 V1=> ?_);cases x with
  |exit i=>
   simp only[Exit.inBlock];by_cases hi:i=id
   ·rw[Ka hi];simp only[hi,Nat.beq_refl,Ca]at h1;exact hK _ _ _ _ _ h1 V1
   ·rw[Ha hi];have hb:Nat.beq i id=false:=by
     cases hb:Nat.beq i id with
     |false=>rfl
     |true=>exact absurd (Oa hb) hi
    simp only[hb,Ba]at h1;exact hK _ _ _ _ _ h1 V1
  |_=>exact hK _ _ _ _ _ h1 V1
 |scope c ih=>
  intro X R K r Q st ι a w hT hB h V hK;simp only[evC]at h;refine wp_scope_straight (ih hT hB h V fun x st' ι' a' w' h1 V1=> ?_);cases x with
  |goto l=>cases h1
  |_=>exact hK _ _ _ _ _ h1 V1
 |loop c ih=>
  intro X R K r Q st ι a w hT hB h V hK;simp only[evC]at h;split at h
  ·cases h
  rename_i u _;split at h
  case h_2=>cases h
  rename_i fe fo hk1 hk2;obtain⟨vs,q1,q2⟩:=Yu h;obtain⟨y,q3,q4⟩:=Ia.1 q2;obtain⟨z,hz1,hz2⟩:=Ia.1 q4;obtain⟨n0,hit⟩:=zC9 hz1;clear h q2 q4 hz1;rw[hp]at q3;have hB':BOK B (frX X fe fo):=EH hB;have cut: ∀{sh:StSh} {tmps self vs st ι a w z n},St P B nt (frX X fe fo) st ι a w->Yk (frX X fe fo) st tmps=some vs->B.p<=n->(∀i∈sh.objs.map (·.1),i<n)->matC B.p n (frX X fe fo) sh vs st (selfs self)=some z-> ∃ι2,St P B nt (frX X fe fo) (encS sh tmps n z.1) ι2 a w:=fun V h1 hn hi h2=>Gq hI hB' V h1 (fun _ _=>GI) hn hi h2;have hn1:=Db V.le (Iu u.sh.objs st.next);obtain⟨ι1,V1⟩:=cut (oW hk1 hk2 V) q1 hn1 (fun i hi=>fu _ _ i hi) q3;refine wp_loop_rounds n0 (lW (J:=fun s a w=> ∃ι,St P B nt (frX X fe fo) (encS u.sh u.tmps (Li st.next u.sh.objs) s) ι a w) (fun s o a w ⟨ι,V⟩ hs=> ?_) n0 y.1 a w hit ⟨ι1,V1⟩);refine ih (X:=frX X fe fo) hT hB' hs V fun x st' ι' a' w' h1 V1=> ?_;have other: ∀(x:Exit),(K x (unfr fe fo st')).map LO.ret=some o->outQ z Q x a' w' o:=by intro x h1;obtain⟨y,q1,q2⟩:=Na.1 h1;subst q2;intro e;subst e;cases hz2;exact hK _ _ _ _ _ q1 (CB V1)
  cases x with
  |normal=>
   obtain⟨vs,r1,r2⟩:=Yu h1;obtain⟨y',r3,r4⟩:=Ia.1 r2;cases r4;rw[hp]at r3;exact⟨_,rfl,cut V1 r1 hn1 (fun i hi=>fu _ _ i hi) r3⟩
  |exit i=>
   simp only at h1;cases hb:Nat.beq i u.xid with
   |true=>
    rw[hb]at h1;obtain⟨vs,r1,r2⟩:=Yu h1;obtain⟨y',r3,r4⟩:=Ia.1 r2;cases r4;intro e;subst e;rw[hp]at r3;obtain⟨ι2,V2⟩:=cut V1 r1 (Db hn1 (Iu u.xsh.objs _)) (fun i hi=>fu _ _ i hi) r3;rw[Oa hb];exact hK _ _ _ _ _ hz2 (CB V2)
   |false=> rw[hb]at h1;exact other (.exit i) h1
  |goto l=>exact other (.goto l) h1
  |ret=>exact other .ret h1
  |panic c=>exact other (.panic c) h1
  |outgrown=>exact other .outgrown h1
 |_=>exact fun _ _ h=>by simp only[evC]at h;cases h
end
def rd1(tmps:Array Value):ResultVar->Sem Value
 | .tmp t=>pure (tmps.getD t undef)
 | .cell ad t=>do loadVar t (<-asAddr (tmps.getD ad undef))
theorem zA3(fn:Func)(tmps:Array Value):results fn tmps=(do let vs<-fn.results.mapM (rd1 tmps);pure (if h:vs.size=1 then vs[0]else .tuple vs)):=by
 unfold results;have:(fun r:ResultVar=>match r with| .tmp t=>(pure (tmps.getD t undef):Sem Value)| .cell a t=>do loadVar t (<-asAddr (tmps.getD a undef)))=rd1 tmps:=by funext r;cases r<;>rfl
 rw[<-this];rfl
theorem zI9{a b:List Nat}:subN a b=true↔ ∀i∈a,i∈b:=by simp only[subN,Rb,Tj]
section
variable {I:Ip} {P:Program} {ι ι':Asg} {w w':World} {X:Cx I} {st:ES I.C} {B:Base} {nt:Nat}
theorem dV(hI:IpOK P I)(hT:TOK P X.T X.fk){a:Act}(V:Vw P B nt (lkE X st) (lkO X st) ι a w): ∀(rs:List ResultVar) {ws:List (ET I.C)},retE X st rs=some ws-> ∃us:List Value,(rs.mapM (rd1 a.tmps)).run P w= .ok us w/\Lh ι w ws us.toArray
 |[],ws,h=>by cases h;exact⟨[],by simp,rfl,fun j t h=>by cases h⟩
 |r::rs,ws,h=>by
  have key: ∀{x l},ws=x::l->(∃u,(rd1 a.tmps r).run P w= .ok u w/\RepT ι w x u)->retE X st rs=some l-> ∃us:List Value,((r::rs).mapM (rd1 a.tmps)).run P w= .ok us w/\Lh ι w ws us.toArray:=by
   intro x l e ⟨u,k1,k2⟩ hl;obtain⟨us,i1,i2,i3⟩:=dV hI hT V rs hl;subst e;refine⟨u::us,by simp_all,by simpa using i2,fun j t ht=> ?_⟩;cases j with
   |zero=>grind
   |succ j=>grind
  have val: ∀{t x},opdE X st (.tmp t)= .v x->RepT ι w x (a.tmps.getD t undef):=fun {t x} e=>by have:=yt (x:= .tmp t) (ik V) fun t _ y hy=>V.env t y hy;rw[e]at this;exact this
  cases r with
  |tmp t=>
   simp only[retE]at h;split at h<;>cases h;rename_i x l h1 h2;exact key rfl ⟨_,rfl,val h1⟩ h2
  |cell ad t=>
   simp only[retE]at h;split at h
   case h_2=>cases h
   rename_i id cell l h1 h2;split at h
   case h_2=>cases h
   rename_i ty cs ho;split at h<;>cases h;rename_i x hx;obtain⟨b,e,hm⟩:=aO (P:=P) (o:= .cells ty cs) ((Zp rfl).1 (V.obj id _ ho)) (i:=0) rfl (val h1);obtain⟨v,a1,a2⟩:=EB hT hx hm;refine key rfl ⟨v,?_,a2⟩ h2;simp only[rd1,e,asAddr,Sem.run_bind,Sem.run_pure,Result.andThen_ok];exact a1
theorem VM{α:Type}: ∀{l:List (Nat×α)} {p:Nat×α},p∈l->lk l p.1≠none
 |q::r,p,hp=>by
  rw[Z8];split
  ·simp
  ·rcases Kb.1 hp with rfl|hp
   ·grind
   ·exact VM hp
theorem II{p:Nat}: ∀{l:List (Nat×OSh)} {i a:Nat},lk (Uv l p) i=some (some a)->a=i
 |[],_,_,h=>by cases h
 |(j,_)::r,i,a,h=>by
  simp only[Uv]at h;cases hb:Nat.blt j p<;>rw[hb]at h<;>simp only[Ca,Ba]at h
  ·exact II h
  ·rw[Z8]at h;split at h
   ·grind
   ·exact II h
theorem jY: ∀{as:List (ET I.C)} {n t:Nat} {y:EL I.C},lk (bA n as) t=some y-> ∃j z,t=n+j/\as[j]? =some z/\y= .v z
 |[],_,_,_,h=>by cases h
 |a::r,n,t,y,h=>by
  simp only[bA,Z8]at h;split at h
  ·simp_all
  ·obtain⟨j,z,h1,h2,h3⟩:=jY h;exact⟨j+1,z,by omega,h2,h3⟩
theorem zLr{ts:List (ET I.C)}{us:List Value}(h:Lh ι w ts us.toArray):RepL ι w (resE ts) (if h:us.toArray.size=1 then us.toArray[0]else .tuple us.toArray):=by
 have hl:us.length=ts.length:=by simpa using h.1
 match ts,us,hl with
 |[],[],_=>exact⟨#[],by simp,h⟩
 |[t],[u],_=>obtain⟨u',h1,h2⟩:=h.2 0 t rfl;simp at h1;subst h1;simpa [resE,RepL] using h2
 |t1::t2::ts,u1::u2::us,_=>exact⟨_,by simp,h⟩
abbrev inX(con:Con I)(T:TT)(fk:List (Nat×List Kd))(x:(con.inS.sl I).T):Cx I:=⟨T,fk,[],((con.inS.sl I).enc x).2.filter fun o=>memN o.1 con.cst⟩
theorem W9 (hmix:P.follows .mixedOrders=true) (hI:IpOK P I) {A:Env0 I} (hS: ∀c∈A.S,ZR P c) {con:Con I} (hwf:Xk con=true) {fn:Func} {c:Code} {rs:List ResultVar} {T:TT} {fk:List (Nat×List Kd)} {exS:StSh} (hT:TOK P T fk)
  (hf:P.funcs[con.f]? =some fn) (hb:fn.body=some c) (hrs:fn.results=rs.toArray) (hname:(fn.name== "runtime.NumGoroutine")=false) (hp:A.p=con.inS.objs.length) (hlen: ∀x,((con.inS.sl I).enc x).1.length<=fn.ntmps)
  (hF: ∀x y,con.F x=some y->evF2 A T fk fn.ntmps rs c con exS x=some y):ZR P con:=by
 refine⟨hwf,fun _ _ _=>⟨fn,hf,hname,by rw[hb];rfl⟩,fun x y hxy ι w vs W hfr hobj hv=> ?_⟩;simp only[Xk,Ea,ja]at hwf;obtain⟨⟨⟨⟨⟨⟨⟨w1,_⟩,_⟩,w4⟩,_⟩,w6⟩,_⟩,_⟩:=hwf;have w1:=aB w1;have w4:=zI9.1 w4;have w6:=aB w6;have hev:=hF x y hxy;unfold evF2 at hev;simp only at hev;generalize hpp:con.inS.objs.length=p at*;have keys: ∀{i},i∈((con.inS.sl I).enc x).2.map (·.1)↔i<p:=fun {i}=>by rw[(Bo (P:=P) hI con.inS).1,w1,Ed]
 have hcp: ∀i∈con.cst,i<p:=fun i hi=>Ed.1 (w4 i hi);have hout: ∀i∈con.outS.objs.map (·.1),i<p+con.k:=fun i hi=>by
  rcases Xd i p with h|h
  ·omega
  ·have:i∈(con.outS.objs.map (·.1)).filter fun i=> !(Nat.blt i p):=Ve.2 ⟨hi,by
    cases hb:Nat.blt i p with
    |false=>rfl
    |true=>exact absurd (Nl.1 hb) (by omega)⟩
   grind
 have hB:BOK ⟨ι,w,p,con.cst⟩ (inX con T fk x):=⟨fun i hi=>by
  obtain⟨o,ho,rfl⟩:=Ob.1 (keys.2 hi);obtain⟨b,k,n,e⟩:=Dx (VV con.inS x o ho) (hobj o ho);rw[e];simp,hcp,fun i hi=>by
  obtain⟨o,ho,rfl⟩:=Ob.1 (keys.2 (hcp i hi));exact VM (Ve.2 ⟨ho,Tj.2 hi⟩)⟩
 have V:St P ⟨ι,w,p,con.cst⟩ fn.ntmps (inX con T fk x) ⟨bA 0 ((con.inS.sl I).enc x).1,((con.inS.sl I).enc x).2.filter fun o=> !(memN o.1 con.cst),p⟩ ι {tmps:=vs++Array.replicate (fn.ntmps - vs.size) undef,defers:=[]} w:=by
  refine⟨⟨?_,rfl,fun t y hy=> ?_,fun i o ho=> ?_,W,⟨⟨fun _ _ h=>h,fun _ h=>h,fun _ _=>rfl⟩,rfl,rfl,rfl,Ta _,fun _ _=>rfl,fun _ h=>h,fun _ _=>rfl,fun _ _=> .inl rfl,fun _ _ _ _ _ _=>rfl⟩⟩,fun i hi=>hfr i hi,Ta _⟩
  ·have:=hlen x;rw[Array.size_append,Array.size_replicate,hv.1];omega
  ·unfold lkE at hy;split at hy
   ·cases hy;obtain⟨j,z,h1,h2,rfl⟩:=jY (by assumption);rw[Md]at h1;subst h1;obtain⟨u,h3,h4⟩:=hv.2 t z h2;have hil:=(Ub.1 h3).1;show RepT ι w z _;rw[Td,Ud,Ka hil,h3];exact h4
   ·cases hy
  ·unfold lkO at ho;split at ho
   ·cases ho;exact hobj _ (Ve.1 (Eh (by assumption))).1
   ·exact hobj _ (Ve.1 (Eh ho)).1
 refine calls_of_wp hf hb (zL9 hmix hI hS (B:=⟨ι,w,p,con.cst⟩) hp c (X:=inX con T fk x) hT hB hev V fun xx st' ι1 a' w' hk V1=> ?_);have fin:(optB (Yk (inX con T fk x) st' (Cs rs)) fun vs=>(matC p (Li p exS.objs) (inX con T fk x) exS vs st' (Uv exS.objs p)).bind fun q=>
   optB (retE (inX con T fk x) (encS exS (Cs rs) (Li p exS.objs) q.1) rs) fun ws=>((con.outS.sl I).mat ws (lkO (inX con T fk x) (encS exS (Cs rs) (Li p exS.objs) q.1)) (selfs (con.outS.objs.map (·.1)))).bind fun r=>
    cond (exOK con r.2) (some r.1) none)=some y->a'.defers=[]/\ ∃v,(results fn a'.tmps).run P w'= .ok v w'/\ ∃v0 ι',Ending.returned v= .returned v0/\Stp (· ∉ con.cst) ι w ι' w'/\Wf ι' w'/\RepL ι' w' (resE ((con.outS.sl I).enc y).1) v0/\(∀o∈((con.outS.sl I).enc y).2,qY P ι' w' o.1 o.2)/\ ∀i,p+con.k<=i->ι' i= .free:=by
  intro h;obtain⟨vs',q3,q4⟩:=Yu h;obtain⟨z,q5,q6⟩:=Ia.1 q4;obtain⟨ws,q7,q8⟩:=Yu q6;obtain⟨⟨y',m2⟩,q9,q10⟩:=Ia.1 q8;obtain⟨q11,q12⟩:=zZ q10;cases q12;obtain⟨ι2,V2⟩:=Gq hI hB V1 q3 (fun _ _=>II) (n:=Li p exS.objs) (Iu _ _) (fun i hi=>fu _ _ i hi) q5;obtain⟨us,r1,r2⟩:=dV hI hT V2.vw rs q7;obtain⟨L0,L⟩:=Bo (P:=P) hI con.outS;obtain⟨_,_,l3,l4⟩:=L _ _ _ _ _ q9;have hm: ∀i z,lk m2 i=some z->z=some i/\(i∈con.outS.objs.map (·.1)\/i∈con.cst):=fun i z hi=>by have:=Rb.1 q11 _ (Eh hi);rw[Ea]at this;have h1:=MQ this.1;have h1:lk m2 i=some (some i):=h1;rw[hi]at h1;exact⟨Option.some.inj h1,Ec.1 (Tj.1 this.2)⟩
  let ι3:Asg:=⟨fun i=>if i∈con.outS.objs.map (·.1)\/i∈con.cst then ι2 i else if i<p then .dead else .free,ι2.X⟩
  have hk3: ∀i,(i∈con.outS.objs.map (·.1)\/i∈con.cst)->ι3 i=ι2 i:=fun i hi=>Ka hi;have hn3: ∀i,¬(i∈con.outS.objs.map (·.1)\/i∈con.cst)->ι3 i=if i<p then .dead else .free:=fun i hi=>Ha hi;have inv: ∀{i b k n},ι3 i= .live (some b) k n->ι2 i= .live (some b) k n:=fun {i b k n} e=>by
   grind
  have dom: ∀b,Dom ι2 w' b->Dom ι3 w' b:=fun b hb=>⟨hb.1,hb.2.1,fun i k n e=>hb.2.2 i k n (inv e)⟩;obtain⟨a1,a2⟩:=l4 (ι:=ι2) (ι2:=ι3) (w:=w') (ks:=fun _=>0) ⟨fun _ _ h=>h,dom,fun _ _=>rfl⟩ (fun i z hz=>by
   grind) (fun o _ e=>by grind) fun i a _ o ho=>V2.vw.obj a o ho
  have bas:=V2.vw.bas;have hcs: ∀i∈con.cst,ι3 i=ι i:=fun i hi=>(hk3 i (.inr hi)).trans ((bas.slots i (hcp i hi)).resolve_right fun h=>h.1 hi);have lt: ∀i,ι i≠ .free->i<p:=fun i hi=>Nat.lt_of_not_le fun h=>hi (hfr i h);have S:Stp (· ∉ con.cst) ι w ι3 w':=by
   refine⟨⟨bas.c.shape,fun b hb=>dom b (bas.c.dom b hb),bas.c.keep⟩,bas.os,bas.tape,bas.output,bas.size,fun i b k n hT e=> ?_,fun i h0=> ?_,fun i hT h0=> ?_,bas.xs,bas.xn,bas.xkeep⟩
   ·have hi:=lt i (by rw[e];simp);have hc:i∈con.cst:=Re hT;exact bas.cst i b k n hc e
   ·by_cases hc:i∈con.cst
    ·grind
    ·by_cases ho:i∈con.outS.objs.map (·.1)
     ·rw[<-L0 y']at ho;obtain⟨o,ho',rfl⟩:=Ob.1 ho;obtain⟨b,k,n,e⟩:=Dx (a2 o ho').1 (a2 o ho').2;rw[L0 y']at ho;rw[hk3 _ (.inl ho)]at e;rcases bas.slots _ (lt _ h0)with h|⟨_,h|⟨_,h⟩⟩
      ·grind
      ·grind
      grind
     grind
   ·grind
  refine⟨V1.vw.defers,_,?_,_,ι3,rfl,S,⟨fun i b k n e=>V2.vw.wf.lt _ _ _ _ (inv e),fun i j b k k' n n' e e'=>V2.vw.wf.inj _ _ _ _ _ _ _ (inv e) (inv e'),fun q hq=>let⟨h1,h2⟩:=V2.vw.wf.glob q hq;⟨dom _ h1,h2⟩,V2.vw.wf.xlt⟩,zLr (r2.arg l3 a1),fun o ho=>(a2 o ho).2,fun i hi=> ?_⟩
  ·have hrun:(fn.results.mapM (rd1 a'.tmps)).run P w'= .ok us.toArray w':=by rw[hrs,List.mapM_toArray,Sem.run_map,r1];rfl
   rw[zA3,Sem.run_bind,hrun];rfl
  ·grind
 cases xx with
 |normal=>exact fin hk
 |ret=>exact fin hk
 |_=>cases hk
end
section
variable {I:Ip} {P:Program}
theorem ZR.told{f:Nat}{inS:StSh}{cst:List Nat}{outS:StSh}{k:Nat}{F:(inS.sl I).T->Option (outS.sl I).T}{ι:Type}{Fn:ι->(inS.sl I).T->Option (outS.sl I).T}(n0:ι)(hn: ∀n,ZR P ⟨f,inS,cst,outS,k,Fn n⟩)(hF: ∀x y,F x=some y-> ∃n,Fn n x=some y):
  ZR P (⟨f,inS,cst,outS,k,F⟩:Con I):=
 ⟨(hn n0).wf,fun x y hxy=>let⟨n,h⟩:=hF x y hxy;(hn n).fn x y h,fun x y hxy=>let⟨n,h⟩:=hF x y hxy;(hn n).ok x y h⟩
theorem ZR.none{f:Nat}{inS:StSh}{cst:List Nat}{outS:StSh}{k:Nat}(hwf:Xk (⟨f,inS,cst,outS,k,fun _=>Option.none⟩:Con I)=true):ZR P (⟨f,inS,cst,outS,k,fun _=>Option.none⟩:Con I):=
 ⟨hwf,fun x y h=>(by cases h),fun x y h=>(by cases h)⟩
theorem ZR.recf {f:Nat} {inS:StSh} {cst:List Nat} {outS:StSh} {k:Nat} {F:(inS.sl I).T->Option (outS.sl I).T} (B:((inS.sl I).T->Option (outS.sl I).T)->(inS.sl I).T->Option (outS.sl I).T)
  (hwf:Xk (⟨f,inS,cst,outS,k,fun _=>Option.none⟩:Con I)=true) (hB: ∀S,ZR P (⟨f,inS,cst,outS,k,S⟩:Con I)->ZR P (⟨f,inS,cst,outS,k,B S⟩:Con I))
  (hF: ∀x y,F x=some y-> ∃n:Nat,Nat.rec (motive:=fun _=>(inS.sl I).T->Option (outS.sl I).T) (fun _=>Option.none) (fun _ S=>B S) n x=some y):ZR P (⟨f,inS,cst,outS,k,F⟩:Con I):=by
 refine ZR.told 0 (Fn:=fun n=>Nat.rec (motive:=fun _=>(inS.sl I).T->Option (outS.sl I).T) (fun _=>Option.none) (fun _ S=>B S) n) (fun n=> ?_) hF
 induction n with
 |zero=>exact ZR.none hwf
 |succ n ih=>exact hB _ ih
theorem jM{l:List Nat}{fk:List (Nat×List Kd)}(hfk: ∀p∈fk,XB P p.1=some p.2):TOK P (l.map fun t=>(t,ti P t)) fk:=by refine⟨fun t i h=> ?_,fun t ks h=>hfk _ (Eh h)⟩;obtain⟨t',_,e⟩:=Ob.1 (Eh h);injection e with e1 e2;subst e1;exact e2
end
end Go.Lv
